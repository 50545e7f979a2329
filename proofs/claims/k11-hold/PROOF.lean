import PyProof.Rows.All
import Wide.All
import OpenK.AllK
import Wide.FinOn
import HandS.ForMost
import HandS.Exc
import HandS.TryOnly
import HandS.TryMany
import HandS.ExcOwn
import HandS.WordsExc
import HandS.CallSlots
import HandS.IsInst
import HandS.Star
import HandS.Property
import HandS.RaiseMore
import HandS.TupAny
import HandS.Small
import HandS.Ends
import HandS.OwnEq
import HandS.Text
import KE.GoesMore
import KE.GoesEnum
import PyProof.GenQ
import HandS.GenOver
import HandS.GenList
import PyProof.GenComp
import KE.SortData
import PySem.Challenge.RW_lightchains_k11_things_that_hold
set_option Elab.async false
set_option linter.all false
set_option autoImplicit false
set_option maxRecDepth 100000
set_option maxHeartbeats 1000000
/-! A machine of data over the layer's readings: values are data (tuples, lists, instances that stay) or places of things that change. -/
namespace AM
open PySem L2

inductive D where
  | non | bl (b : Bool) | int (i : Int) | str (s : Str) | ty (n : String) | loc (a : Addr)
  | tup (ds : List D) | lst (ds : List D) | fz (ds : List D) | ins (C : Addr) (fs : List (Str × D))
  deriving Inhabited

/-- what changes: a list, an instance -/
inductive MO where
  | l (ds : List D) | o (C : Addr) (fs : List (Str × D))
abbrev Mu := Addr → Option MO
def Mu.set (μ : Mu) (a : Addr) (m : MO) : Mu := fun b => if b = a then some m else μ b
def Mu.del (μ : Mu) (a : Addr) : Mu := fun b => if b = a then none else μ b
def mu0 : Mu := fun _ => none
@[simp] theorem Mu.set_same {μ : Mu} {a : Addr} {m : MO} : μ.set a m a = some m := if_pos rfl
theorem Mu.set_ne {μ : Mu} {a b : Addr} {m : MO} (h : b ≠ a) : μ.set a m b = μ b := if_neg h
@[simp] theorem Mu.set_set {μ : Mu} {a : Addr} {m m' : MO} : (μ.set a m).set a m' = μ.set a m' := by
  funext b; unfold Mu.set; split <;> rfl
theorem Mu.del_set {μ : Mu} {a : Addr} {m : MO} (h : μ a = none) : (μ.set a m).del a = μ := by
  funext b; unfold Mu.set Mu.del; split
  · rename_i e; rw [e, h]
  · rename_i e; exact if_neg e
theorem Mu.set_comm {μ : Mu} {a b : Addr} {m m' : MO} (h : a ≠ b) : (μ.set a m).set b m' = (μ.set b m').set a m := by
  funext c; unfold Mu.set
  by_cases h1 : c = b
  · subst h1; simp [Ne.symm h]
  · by_cases h2 : c = a
    · subst h2; simp [h1]
    · simp [h1, h2]
theorem Mu.del_same {μ : Mu} {a : Addr} : μ.del a a = none := if_pos rfl
theorem Mu.del_ne {μ : Mu} {a b : Addr} (h : b ≠ a) : μ.del a b = μ b := if_neg h

/-- a list at a that is not among what changes; one that nothing may change -/
def SqF (μ : Mu) (H : Hp) (a : Addr) (xs : List V) : Prop := H a = some (.lst xs) ∧ μ a = none
def SqZ (K : PySem.W.Frag) (H : Hp) (a : Addr) (xs : List V) : Prop := (∃ o, H a = some (.frz o (.lst xs))) ∨
    ∃ (o : Obj) (its : Array Value) (n : Nat), K.lookup a = some o ∧ o.cls = .type "list" ∧ o.dict = none ∧ o.data = .seq its n ∧ its.size ≤ sizeLine ∧ Vals xs its.toList
theorem SqF.sq {K : PySem.W.Frag} {μ : Mu} {H : Hp} {a : Addr} {xs : List V} (h : SqF μ H a xs) : SqL K H a xs := .inl (.inl h.1)
theorem SqZ.sq {K : PySem.W.Frag} {H : Hp} {a : Addr} {xs : List V} (h : SqZ K H a xs) : SqL K H a xs := by
  rcases h with ⟨o, h⟩ | h
  · exact .inl (.inr ⟨o, h⟩)
  · exact .inr h

mutual
inductive Dt (K : PySem.W.Frag) (μ : Mu) (H : Hp) : V → D → Prop
  | non : Dt K μ H .non .non
  | bl (b : Bool) : Dt K μ H (.bl b) (.bl b)
  | int (i : Int) : Dt K μ H (.int i) (.int i)
  | str (x : Str) : Dt K μ H (.str x) (.str x)
  | ty (n : String) : Dt K μ H (.ty n) (.ty n)
  | loc (a : Addr) : Dt K μ H (.ref a) (.loc a)
  | tup {a : Addr} {xs : List V} {ds : List D} : SqT K H a xs → Dts K μ H xs ds → Dt K μ H (.ref a) (.tup ds)
  | lst {a : Addr} {xs : List V} {ds : List D} : SqF μ H a xs → Dts K μ H xs ds → Dt K μ H (.ref a) (.lst ds)
  | fz {a : Addr} {xs : List V} {ds : List D} : SqZ K H a xs → Dts K μ H xs ds → Dt K μ H (.ref a) (.fz ds)
  | ins {a C dx : Addr} {gs : List (Str × V)} {fs : List (Str × D)} : H a = some (.ins C dx gs) → μ a = none → Dfs K μ H gs fs → Dt K μ H (.ref a) (.ins C fs)
inductive Dts (K : PySem.W.Frag) (μ : Mu) (H : Hp) : List V → List D → Prop
  | nil : Dts K μ H [] []
  | cons {v : V} {vs : List V} {d : D} {ds : List D} : Dt K μ H v d → Dts K μ H vs ds → Dts K μ H (v :: vs) (d :: ds)
inductive Dfs (K : PySem.W.Frag) (μ : Mu) (H : Hp) : List (Str × V) → List (Str × D) → Prop
  | nil : Dfs K μ H [] []
  | cons {f : Str} {v : V} {vs : List (Str × V)} {d : D} {ds : List (Str × D)} : Dt K μ H v d → Dfs K μ H vs ds → Dfs K μ H ((f, v) :: vs) ((f, d) :: ds)
end

section
variable {K : PySem.W.Frag} {μ μ' μ1 : Mu} {H H' H1 : Hp} {v : V} {d : D} {xs : List V} {ds : List D} {gs : List (Str × V)} {fs : List (Str × D)} {a p : Addr}

/-- what nobody changes: an exception's dict, an outside thing -/
def Stk : HO → Prop
  | .xd _ => True
  | .ext _ => True
  | _ => False
/-- what a piece of data leans on is kept -/
structure Keeps (K : PySem.W.Frag) (μ : Mu) (H : Hp) (μ' : Mu) (H' : Hp) : Prop where
  t : ∀ a xs, SqT K H a xs → SqT K H' a xs
  l : ∀ a xs, SqF μ H a xs → SqF μ' H' a xs
  z : ∀ a xs, SqZ K H a xs → SqZ K H' a xs
  i : ∀ a C dx gs, H a = some (.ins C dx gs) → μ a = none → H' a = some (.ins C dx gs) ∧ μ' a = none
  x : ∀ a o, Stk o → H a = some o → H' a = some o
mutual
theorem Dt.keep (k : Keeps K μ H μ' H') : ∀ {v : V} {d : D}, Dt K μ H v d → Dt K μ' H' v d
  | _, _, .non => .non
  | _, _, .bl b => .bl b
  | _, _, .int b => .int b
  | _, _, .str b => .str b
  | _, _, .ty b => .ty b
  | _, _, .loc b => .loc b
  | _, _, .tup h q => .tup (k.t _ _ h) (Dts.keep k q)
  | _, _, .lst h q => .lst (k.l _ _ h) (Dts.keep k q)
  | _, _, .fz h q => .fz (k.z _ _ h) (Dts.keep k q)
  | _, _, .ins h m q => .ins (k.i _ _ _ _ h m).1 (k.i _ _ _ _ h m).2 (Dfs.keep k q)
theorem Dts.keep (k : Keeps K μ H μ' H') : ∀ {xs : List V} {ds : List D}, Dts K μ H xs ds → Dts K μ' H' xs ds
  | _, _, .nil => .nil
  | _, _, .cons h q => .cons (Dt.keep k h) (Dts.keep k q)
theorem Dfs.keep (k : Keeps K μ H μ' H') : ∀ {xs : List (Str × V)} {ds : List (Str × D)}, Dfs K μ H xs ds → Dfs K μ' H' xs ds
  | _, _, .nil => .nil
  | _, _, .cons h q => .cons (Dt.keep k h) (Dfs.keep k q)
end
theorem Dts.length : ∀ {xs : List V} {ds : List D}, Dts K μ H xs ds → xs.length = ds.length
  | _, _, .nil => rfl
  | _, _, .cons _ q => congrArg (· + 1) (Dts.length q)
theorem Dts.get : ∀ {xs : List V} {ds : List D} {i : Nat} {d : D}, Dts K μ H xs ds → ds[i]? = some d → ∃ v, xs[i]? = some v ∧ Dt K μ H v d
  | _, _, _, _, .nil, e => by simp at e
  | _, _, 0, _, .cons h q, e => by simp at e; subst e; exact ⟨_, rfl, h⟩
  | _, _, i + 1, d, .cons h q, e => by
    obtain ⟨v, h1, h2⟩ := Dts.get (i := i) (d := d) q (by simpa using e)
    exact ⟨v, by simpa using h1, h2⟩
theorem Dts.get' : ∀ {xs : List V} {ds : List D} {i : Nat} {v : V}, Dts K μ H xs ds → xs[i]? = some v → ∃ d, ds[i]? = some d ∧ Dt K μ H v d
  | _, _, _, _, .nil, e => by simp at e
  | _, _, 0, _, .cons h q, e => by simp at e; subst e; exact ⟨_, rfl, h⟩
  | _, _, i + 1, d, .cons h q, e => by
    obtain ⟨v, h1, h2⟩ := Dts.get' (i := i) (v := d) q (by simpa using e)
    exact ⟨v, by simpa using h1, h2⟩
theorem Dts.append : ∀ {xs ys : List V} {ds es : List D}, Dts K μ H xs ds → Dts K μ H ys es → Dts K μ H (xs ++ ys) (ds ++ es)
  | _, _, _, _, .nil, s => s
  | _, _, _, _, .cons r t, s => .cons r (Dts.append t s)
theorem Dts.take : ∀ {xs : List V} {ds : List D} (n : Nat), Dts K μ H xs ds → Dts K μ H (xs.take n) (ds.take n)
  | _, _, 0, _ => .nil
  | _, _, _ + 1, .nil => .nil
  | _, _, n + 1, .cons r t => .cons r (Dts.take n t)
theorem Dts.drop : ∀ {xs : List V} {ds : List D} (n : Nat), Dts K μ H xs ds → Dts K μ H (xs.drop n) (ds.drop n)
  | _, _, 0, r => r
  | _, _, _ + 1, .nil => .nil
  | _, _, n + 1, .cons _ t => Dts.drop n t
theorem Dts.set {v : V} {d : D} (r : Dt K μ H v d) : ∀ {xs : List V} {ds : List D} (i : Nat), Dts K μ H xs ds → Dts K μ H (xs.set i v) (ds.set i d)
  | _, _, _, .nil => .nil
  | _, _, 0, .cons _ t => .cons r t
  | _, _, i + 1, .cons q t => .cons q (Dts.set r i t)
theorem Dts.eraseIdx : ∀ {xs : List V} {ds : List D} (i : Nat), Dts K μ H xs ds → Dts K μ H (xs.eraseIdx i) (ds.eraseIdx i)
  | _, _, _, .nil => .nil
  | _, _, 0, .cons _ t => t
  | _, _, i + 1, .cons q t => .cons q (Dts.eraseIdx i t)
theorem Dts.dropLast {xs : List V} {ds : List D} (h : Dts K μ H xs ds) : Dts K μ H xs.dropLast ds.dropLast := by
  rw [List.dropLast_eq_take, List.dropLast_eq_take, h.length]; exact h.take _
theorem Dts.rep {xs : List V} {ds : List D} (h : Dts K μ H xs ds) : ∀ n, Dts K μ H (List.replicate n xs).flatten (List.replicate n ds).flatten
  | 0 => .nil
  | n + 1 => by rw [List.replicate_succ, List.replicate_succ, List.flatten_cons, List.flatten_cons]; exact h.append (Dts.rep h n)
theorem Dts.ints : ∀ (ns : List Int), Dts K μ H (ns.map V.int) (ns.map D.int)
  | [] => .nil
  | _ :: r => .cons (.int _) (Dts.ints r)
theorem Dts.of_ints : ∀ {ns : List Int} {xs : List V}, Dts K μ H xs (ns.map D.int) → xs = ns.map V.int
  | [], _, .nil => rfl
  | _ :: r, _, .cons h q => by cases h; rw [Dts.of_ints (ns := r) q]; rfl
theorem Dts.of_strs : ∀ {ns : List Str} {xs : List V}, Dts K μ H xs (ns.map D.str) → xs = ns.map V.str
  | [], _, .nil => rfl
  | _ :: r, _, .cons h q => by cases h; rw [Dts.of_strs (ns := r) q]; rfl
theorem Dts.of_bls : ∀ {ns : List Bool} {xs : List V}, Dts K μ H xs (ns.map D.bl) → xs = ns.map V.bl
  | [], _, .nil => rfl
  | _ :: r, _, .cons h q => by cases h; rw [Dts.of_bls (ns := r) q]; rfl
theorem Dts.strs : ∀ (ns : List Str), Dts K μ H (ns.map V.str) (ns.map D.str)
  | [] => .nil
  | _ :: r => .cons (.str _) (Dts.strs r)
def lookF (f : Str) : List (Str × D) → Option D
  | [] => none
  | (g, d) :: r => if f = g then some d else lookF f r
def setF (f : Str) (d : D) : List (Str × D) → List (Str × D)
  | [] => [(f, d)]
  | (g, e) :: r => if g = f then (g, d) :: r else (g, e) :: setF f d r
theorem Dfs.look {f : Str} : ∀ {gs : List (Str × V)} {fs : List (Str × D)} {d : D}, Dfs K μ H gs fs → lookF f fs = some d → ∃ v, gs.lookup f = some v ∧ Dt K μ H v d
  | _, _, d, .nil, e => by cases e
  | _, _, d, .cons (f := g) (v := v) (d := d') h q, e => by
    unfold lookF at e
    by_cases hf : f = g
    · rw [if_pos hf] at e; cases e
      refine ⟨v, ?_, h⟩
      rw [hf]; simp [List.lookup]
    · rw [if_neg hf] at e
      obtain ⟨u, h1, h2⟩ := Dfs.look q e
      refine ⟨u, ?_, h2⟩
      have : (f == g) = false := by simpa using hf
      simp [List.lookup, this, h1]
theorem Dfs.look0 {f : Str} : ∀ {gs : List (Str × V)} {fs : List (Str × D)}, Dfs K μ H gs fs → lookF f fs = none → gs.lookup f = none
  | _, _, .nil, e => rfl
  | _, _, .cons (f := g) (v := v) (d := d') h q, e => by
    unfold lookF at e
    by_cases hf : f = g
    · rw [if_pos hf] at e; cases e
    · rw [if_neg hf] at e
      have : (f == g) = false := by simpa using hf
      simp [List.lookup, this, Dfs.look0 q e]
theorem Dfs.put {f : Str} {v : V} {d : D} (r : Dt K μ H v d) : ∀ {gs : List (Str × V)} {fs : List (Str × D)}, Dfs K μ H gs fs → Dfs K μ H (putF f v gs) (setF f d fs)
  | _, _, .nil => .cons r .nil
  | _, _, .cons (f := g) h q => by
    unfold putF setF
    by_cases hf : g = f
    · rw [if_pos hf, if_pos hf]; exact .cons r q
    · rw [if_neg hf, if_neg hf]; exact .cons h (Dfs.put r q)
theorem Dfs.length : ∀ {xs : List (Str × V)} {ds : List (Str × D)}, Dfs K μ H xs ds → xs.length = ds.length
  | _, _, .nil => rfl
  | _, _, .cons _ q => congrArg (· + 1) (Dfs.length q)

/-- the things that change stand in the heap -/
def MAt (K : PySem.W.Frag) (μ : Mu) (H : Hp) (a : Addr) : MO → Prop
  | .l ds => ∃ xs, H a = some (.lst xs) ∧ Dts K μ H xs ds
  | .o C fs => ∃ dx gs, H a = some (.ins C dx gs) ∧ Dfs K μ H gs fs
def HS (K : PySem.W.Frag) (μ : Mu) (H : Hp) : Prop := ∀ a m, μ a = some m → MAt K μ H a m
theorem HS.none (h : HS K μ H) {a : Addr} (e : H a = none) : μ a = none := by
  cases q : μ a with
  | none => rfl
  | some m =>
    have z := h a m q
    cases m with
    | l ds => obtain ⟨_, z, _⟩ := z; rw [e] at z; cases z
    | o C fs => obtain ⟨_, _, z, _⟩ := z; rw [e] at z; cases z
theorem MAt.keep (k : Keeps K μ H μ' H') (e : H' a = H a) : ∀ {m : MO}, MAt K μ H a m → MAt K μ' H' a m
  | .l ds, ⟨xs, h, q⟩ => ⟨xs, e.trans h, q.keep k⟩
  | .o C fs, ⟨dx, gs, h, q⟩ => ⟨dx, gs, e.trans h, q.keep k⟩

/-- the whole step: data is kept, and what changes stands -/
structure Evo (K : PySem.W.Frag) (μ : Mu) (H : Hp) (μ' : Mu) (H' : Hp) : Prop where
  k : Keeps K μ H μ' H'
  s : HS K μ' H'
theorem Keeps.refl : Keeps K μ H μ H := ⟨fun _ _ h => h, fun _ _ h => h, fun _ _ h => h, fun _ _ _ _ h m => ⟨h, m⟩, fun _ _ _ h => h⟩
theorem Keeps.trans (a : Keeps K μ H μ1 H1) (b : Keeps K μ1 H1 μ' H') : Keeps K μ H μ' H' :=
  ⟨fun c xs h => b.t c xs (a.t c xs h), fun c xs h => b.l c xs (a.l c xs h), fun c xs h => b.z c xs (a.z c xs h), fun c C dx gs h m => b.i c C dx gs (a.i c C dx gs h m).1 (a.i c C dx gs h m).2, fun c o s h => b.x c o s (a.x c o s h)⟩
theorem Evo.refl (h : HS K μ H) : Evo K μ H μ H := ⟨Keeps.refl, h⟩
theorem Evo.trans (a : Evo K μ H μ1 H1) (b : Evo K μ1 H1 μ' H') : Evo K μ H μ' H' := ⟨a.k.trans b.k, b.s⟩
theorem Evo.dt (e : Evo K μ H μ' H') {v : V} {d : D} (h : Dt K μ H v d) : Dt K μ' H' v d := h.keep e.k
theorem Evo.dts (e : Evo K μ H μ' H') {xs : List V} {ds : List D} (h : Dts K μ H xs ds) : Dts K μ' H' xs ds := h.keep e.k

theorem Same.rd {u : HO} (s : Same H H') (h : Rd H a u) : Rd H' a u := by
  rcases h with h | ⟨o, h⟩
  · exact .inl (s _ _ h)
  · exact .inr ⟨o, s _ _ h⟩
theorem keeps_same (s : Same H H') : Keeps K μ H μ H' :=
  ⟨fun a xs h => h.elim (fun h => .inl (Same.rd s h)) .inr, fun a xs h => ⟨s _ _ h.1, h.2⟩, fun a xs h => h.elim (fun ⟨o, h⟩ => .inl ⟨o, s _ _ h⟩) .inr, fun a C dx gs h m => ⟨s _ _ h, m⟩, fun a o _ h => s _ _ h⟩
/-- nothing that stood has changed -/
theorem evo_same (h : HS K μ H) (s : Same H H') : Evo K μ H μ H' := ⟨keeps_same s, fun a m e => by
  have z := h a m e
  cases m with
  | l ds => obtain ⟨xs, z, q⟩ := z; exact ⟨xs, s _ _ z, q.keep (keeps_same s)⟩
  | o C fs => obtain ⟨dx, gs, z, q⟩ := z; exact ⟨dx, gs, s _ _ z, q.keep (keeps_same s)⟩⟩
theorem same_new {p : Addr} {o : HO} (h : H p = none) : Same H (upd H p o) := fun b x e => by
  rw [upd_ne (ne_of_none e h)]; exact e
/-- a new thing that changes -/
theorem keeps_new (s : Same H H') (hp : H p = none) {m : MO} : Keeps K μ H (μ.set p m) H' :=
  ⟨fun a xs h => h.elim (fun h => .inl (Same.rd s h)) .inr, fun a xs ⟨h, q⟩ => ⟨s _ _ h, by rw [Mu.set_ne (ne_of_none h hp)]; exact q⟩, fun a xs h => h.elim (fun ⟨o, h⟩ => .inl ⟨o, s _ _ h⟩) .inr, fun a C dx gs h q => ⟨s _ _ h, by rw [Mu.set_ne (ne_of_none h hp)]; exact q⟩, fun a o _ h => s _ _ h⟩
theorem evo_new (h : HS K μ H) (s : Same H H') (hp : H p = none) {m : MO} (hm : MAt K (μ.set p m) H' p m) : Evo K μ H (μ.set p m) H' :=
  ⟨keeps_new s hp, fun a m' e => by
    by_cases ha : a = p
    · subst ha; rw [Mu.set_same] at e; cases e; exact hm
    · rw [Mu.set_ne ha] at e
      have z := h a m' e
      cases m' with
      | l ds => obtain ⟨xs, z, q⟩ := z; exact ⟨xs, s _ _ z, q.keep (keeps_new s hp)⟩
      | o C fs => obtain ⟨dx, gs, z, q⟩ := z; exact ⟨dx, gs, s _ _ z, q.keep (keeps_new s hp)⟩⟩
/-- a thing that changes has changed -/
theorem keeps_set (h : HS K μ H) {m0 m : MO} (e : μ p = some m0) {o : HO} : Keeps K μ H (μ.set p m) (upd H p o) := by
  have z := h p m0 e
  have nf : ∀ a o' u, H a = some (.frz o' u) → a ≠ p := fun a o' u q r => by
    subst r
    cases m0 with
    | l ds => obtain ⟨_, z, _⟩ := z; rw [q] at z; cases z
    | o C fs => obtain ⟨_, _, z, _⟩ := z; rw [q] at z; cases z
  have nt : ∀ a xs, H a = some (.tup xs) → a ≠ p := fun a xs q r => by
    subst r
    cases m0 with
    | l ds => obtain ⟨_, z, _⟩ := z; rw [q] at z; cases z
    | o C fs => obtain ⟨_, _, z, _⟩ := z; rw [q] at z; cases z
  have nm : ∀ a, μ a = none → a ≠ p := fun a q r => by subst r; rw [q] at e; cases e
  have nx : ∀ a o', Stk o' → H a = some o' → a ≠ p := fun a o' st q r => by
    subst r
    cases m0 with
    | l ds => obtain ⟨_, z, _⟩ := z; rw [z] at q; cases q; exact st
    | o C fs => obtain ⟨_, _, z, _⟩ := z; rw [z] at q; cases q; exact st
  refine ⟨fun a xs q => ?_, fun a xs q => ?_, fun a xs q => ?_, fun a C dx gs q r => ?_, fun a o' st q => by rw [upd_ne (nx a o' st q)]; exact q⟩
  · rcases q with (q | ⟨o', q⟩) | q
    · exact .inl (.inl (by rw [upd_ne (nt _ _ q)]; exact q))
    · exact .inl (.inr ⟨o', by rw [upd_ne (nf _ _ _ q)]; exact q⟩)
    · exact .inr q
  · obtain ⟨q, r⟩ := q
    exact ⟨by rw [upd_ne (nm _ r)]; exact q, by rw [Mu.set_ne (nm _ r)]; exact r⟩
  · rcases q with ⟨o', q⟩ | q
    · exact .inl ⟨o', by rw [upd_ne (nf _ _ _ q)]; exact q⟩
    · exact .inr q
  · exact ⟨by rw [upd_ne (nm _ r)]; exact q, by rw [Mu.set_ne (nm _ r)]; exact r⟩
theorem evo_set (h : HS K μ H) {m0 m : MO} (e : μ p = some m0) {o : HO} (hm : MAt K (μ.set p m) (upd H p o) p m) : Evo K μ H (μ.set p m) (upd H p o) :=
  ⟨keeps_set h e, fun a m' q => by
    by_cases ha : a = p
    · subst ha; rw [Mu.set_same] at q; cases q; exact hm
    · rw [Mu.set_ne ha] at q
      exact (h a m' q).keep (keeps_set h e) (upd_ne ha)⟩
/-- a thing that changes no more -/
theorem keeps_del : Keeps K μ H (μ.del p) H := by
  have z : ∀ a, μ a = none → μ.del p a = none := fun a e => by
    unfold Mu.del; split
    · rfl
    · exact e
  exact ⟨fun a xs q => q, fun a xs q => ⟨q.1, z _ q.2⟩, fun a xs q => q, fun a C dx gs q r => ⟨q, z _ r⟩, fun a o _ q => q⟩
theorem evo_del (h : HS K μ H) : Evo K μ H (μ.del p) H := ⟨keeps_del, fun a m q => by
  by_cases ha : a = p
  · subst ha; rw [Mu.del_same] at q; cases q
  · rw [Mu.del_ne ha] at q
    exact (h a m q).keep keeps_del rfl⟩
theorem frozen_l (h : HS K μ H) (e : μ p = some (.l ds)) : Dt K (μ.del p) H (.ref p) (.lst ds) := by
  obtain ⟨xs, z, q⟩ := h p _ e
  exact .lst ⟨z, Mu.del_same⟩ (q.keep keeps_del)
theorem frozen_o (h : HS K μ H) {C : Addr} (e : μ p = some (.o C fs)) : Dt K (μ.del p) H (.ref p) (.ins C fs) := by
  obtain ⟨dx, gs, z, q⟩ := h p _ e
  exact .ins z Mu.del_same (q.keep keeps_del)
end

/-! ### the data of == -/
mutual
def D.py : D → PyData
  | .bl b => .bool b
  | .int i => .int i
  | .str s => .str s
  | .tup ds => .tuple (D.pys ds)
  | .lst ds => .list (D.pys ds)
  | .non => .none
  | .ty _ => .none
  | .loc _ => .none
  | .fz _ => .none
  | .ins _ _ => .none
def D.pys : List D → List PyData
  | [] => []
  | d :: r => D.py d :: D.pys r
end
mutual
def D.isPy : D → Bool
  | .bl _ => true
  | .int _ => true
  | .str s => PyData.strOk s
  | .tup ds => D.arePy ds
  | .lst ds => D.arePy ds
  | .non => true
  | .ty _ => false
  | .loc _ => false
  | .fz _ => false
  | .ins _ _ => false
def D.arePy : List D → Bool
  | [] => true
  | d :: r => D.isPy d && D.arePy r
end
section
variable {K : PySem.W.Frag} {μ : Mu} {H : Hp}
mutual
theorem Dt.dp : ∀ {v : V} {d : D}, Dt K μ H v d → d.isPy = true → Dp K H v d.py
  | _, _, .non, _ => by unfold D.py; exact .non
  | _, _, .bl b, _ => by unfold D.py; exact .bl b
  | _, _, .int b, _ => by unfold D.py; exact .int b
  | _, _, .str b, _ => by unfold D.py; exact .str b
  | _, _, .ty b, h => by unfold D.isPy at h; cases h
  | _, _, .loc b, h => by unfold D.isPy at h; cases h
  | _, _, .fz _ _, h => by unfold D.isPy at h; cases h
  | _, _, .tup q r, h => by unfold D.py; unfold D.isPy at h; exact .tup q (Dts.dp r h)
  | _, _, .lst q r, h => by unfold D.py; unfold D.isPy at h; exact .lst q.sq (Dts.dp r h)
  | _, _, .ins q m r, h => by unfold D.isPy at h; cases h
theorem Dts.dp : ∀ {xs : List V} {ds : List D}, Dts K μ H xs ds → D.arePy ds = true → DpAll K H xs (D.pys ds)
  | _, _, .nil, _ => by unfold D.pys; exact .nil
  | _, _, .cons q r, h => by
    unfold D.pys; unfold D.arePy at h
    rw [Bool.and_eq_true] at h
    exact .cons (Dt.dp q h.1) (Dts.dp r h.2)
end
end
mutual
theorem D.canLay : ∀ d : D, d.isPy = true → d.py.canLay0 = true
  | .bl _, _ => by unfold D.py PyData.canLay0; rfl
  | .int _, _ => by unfold D.py PyData.canLay0; rfl
  | .str s, h => by unfold D.py PyData.canLay0; unfold D.isPy at h; exact h
  | .tup ds, h => by unfold D.py PyData.canLay0; unfold D.isPy at h; exact D.canLays ds h
  | .lst ds, h => by unfold D.py PyData.canLay0; unfold D.isPy at h; exact D.canLays ds h
  | .non, _ => by unfold D.py PyData.canLay0; rfl
  | .ty _, h => by unfold D.isPy at h; cases h
  | .loc _, h => by unfold D.isPy at h; cases h
  | .fz _, h => by unfold D.isPy at h; cases h
  | .ins _ _, h => by unfold D.isPy at h; cases h
theorem D.canLays : ∀ ds : List D, D.arePy ds = true → PyData.canLayAll0 (D.pys ds) = true
  | [], _ => by unfold D.pys PyData.canLayAll0; rfl
  | d :: r, h => by
    unfold D.pys PyData.canLayAll0; unfold D.arePy at h
    rw [Bool.and_eq_true] at h ⊢
    exact ⟨D.canLay d h.1, D.canLays r h.2⟩
end
end AM

set_option autoImplicit false
set_option maxRecDepth 100000
set_option maxHeartbeats 1000000
namespace AM
open PySem L2

/-! ### the judgements -/
structure Ctx where
  X : Cx
  W : WX
  tk : Takes X W
  po : PassesOwn (model X.prog X.w) X.A X.env X.xe
abbrev Ctx.K (c : Ctx) : PySem.W.Frag := c.X.K
abbrev Sl := List (Option D)
abbrev XD := Addr → Option (List (Str × D)) → Sl → Mu → Prop
abbrev noX : XD := fun _ _ _ _ => False
structure OkS (K : PySem.W.Frag) (μ : Mu) (H : Hp) (σ : L2.St) (Δ : Sl) : Prop where
  len : σ.length = Δ.length
  get : ∀ (i : Nat) (d : D), Δ[i]? = some (some d) → ∃ v, σ[i]? = some (some v) ∧ Dt K μ H v d
theorem OkS.evo {K : PySem.W.Frag} {μ μ' : Mu} {H H' : Hp} {σ : L2.St} {Δ : Sl} (h : OkS K μ H σ Δ) (e : Evo K μ H μ' H') : OkS K μ' H' σ Δ :=
  ⟨h.len, fun i d q => let ⟨v, a, b⟩ := h.get i d q; ⟨v, a, e.dt b⟩⟩
theorem OkS.set {K : PySem.W.Frag} {μ : Mu} {H : Hp} {σ : L2.St} {Δ : Sl} (h : OkS K μ H σ Δ) (i : Nat) {v : V} {d : D} (r : Dt K μ H v d) : OkS K μ H (σ.set i (some v)) (Δ.set i (some d)) := by
  refine ⟨by simp [h.len], fun j e q => ?_⟩
  by_cases hj : i = j
  · subst hj
    by_cases hl : i < Δ.length
    · rw [List.getElem?_set_self hl] at q
      cases q
      exact ⟨v, List.getElem?_set_self (by rw [h.len]; exact hl), r⟩
    · rw [List.getElem?_eq_none (by simp; omega)] at q; cases q
  · rw [List.getElem?_set_ne hj] at q
    obtain ⟨u, a, b⟩ := h.get j e q
    exact ⟨u, by rw [List.getElem?_set_ne hj]; exact a, b⟩
theorem OkS.unset {K : PySem.W.Frag} {μ : Mu} {H : Hp} {σ : L2.St} {Δ : Sl} (h : OkS K μ H σ Δ) (i : Nat) : OkS K μ H (σ.set i none) (Δ.set i none) := by
  refine ⟨by simp [h.len], fun j e q => ?_⟩
  by_cases hj : i = j
  · subst hj
    by_cases hl : i < Δ.length
    · rw [List.getElem?_set_self hl] at q; cases q
    · rw [List.getElem?_eq_none (by simp; omega)] at q; cases q
  · rw [List.getElem?_set_ne hj] at q
    obtain ⟨u, a, b⟩ := h.get j e q
    exact ⟨u, by rw [List.getElem?_set_ne hj]; exact a, b⟩
/-- knowing less of the slots -/
theorem OkS.weak {K : PySem.W.Frag} {μ : Mu} {H : Hp} {σ : L2.St} {Δ Δ' : Sl} (h : OkS K μ H σ Δ) (hl : Δ'.length = Δ.length) (hw : ∀ (i : Nat) (d : D), Δ'[i]? = some (some d) → Δ[i]? = some (some d)) : OkS K μ H σ Δ' :=
  ⟨h.len.trans hl.symm, fun i d q => h.get i d (hw i d q)⟩
def XAt (K : PySem.W.Frag) (μ : Mu) (H : Hp) (cls : Value) (dict : Option Addr) (C : Addr) : Option (List (Str × D)) → Prop
  | none => cls = .ref C ∧ dict = none
  | some fs => cls = .ref C ∧ ∃ p gs, dict = some p ∧ H p = some (.xd gs) ∧ Dfs K μ H gs fs

def wE (X : Cx) (e : Expr) : TE := fun σ H Q => ∃ t, PE X e t ∧ t σ H Q
def wT (X : Cx) (e : Expr) : TT := fun σ H Q => ∃ t, PT X e t ∧ t σ H Q
def wA (X : Cx) (es : List Expr) : TA := fun σ H Q => ∃ t, PA X es t ∧ t σ H Q
def wS (X : Cx) (st : Stmt) : TS := fun D σ H => ∃ t, PS X st t ∧ t D σ H
def wSs (X : Cx) (st : List Stmt) : TS := fun D σ H => ∃ t, PSs X st t ∧ t D σ H
theorem pe_w {X : Cx} {e : Expr} : PE X e (wE X e) := ⟨fun pins s σ H Q I ⟨_, h, q⟩ => h.run pins s σ H Q I q⟩
theorem pt_w {X : Cx} {e : Expr} : PT X e (wT X e) := ⟨fun pins s σ H Q I ⟨_, h, q⟩ => h.run pins s σ H Q I q⟩
theorem pa_w {X : Cx} {es : List Expr} : PA X es (wA X es) := ⟨fun pos pins s σ H Q I ⟨_, h, q⟩ => h.run pos pins s σ H Q I q⟩
theorem ps_w {X : Cx} {st : Stmt} : PS X st (wS X st) := ⟨fun pins s σ H Q I ⟨_, h, q⟩ => h.run pins s σ H Q I q⟩
theorem pss_w {X : Cx} {st : List Stmt} : PSs X st (wSs X st) := ⟨fun pins s σ H Q I ⟨_, h, q⟩ => h.run pins s σ H Q I q⟩

/-- what is wanted of an exception, at the heap -/
def WantX (c : Ctx) (Δ : Sl) (σ : L2.St) (μ : Mu) (H : Hp) (Ex : XD) : Prop :=
  ∀ cls dict C o μ' H', Evo c.K μ H μ' H' → XAt c.K μ' H' cls dict C o → Ex C o Δ μ' → c.W cls dict σ H'
theorem WantX.evo {c : Ctx} {Δ : Sl} {σ : L2.St} {μ μ' : Mu} {H H' : Hp} {Ex : XD} (h : WantX c Δ σ μ H Ex) (e : Evo c.K μ H μ' H') : WantX c Δ σ μ' H' Ex :=
  fun cls dict C o μ2 H2 e2 x q => h cls dict C o μ2 H2 (e.trans e2) x q
def WantV (c : Ctx) (μ : Mu) (H : Hp) (Q : D → Mu → Prop) (QV : VK) : Prop := ∀ v d μ' H', Evo c.K μ H μ' H' → Dt c.K μ' H' v d → Q d μ' → QV v H'
theorem WantV.evo {c : Ctx} {μ μ' : Mu} {H H' : Hp} {Q : D → Mu → Prop} {QV : VK} (h : WantV c μ H Q QV) (e : Evo c.K μ H μ' H') : WantV c μ' H' Q QV :=
  fun v d μ2 H2 e2 x q => h v d μ2 H2 (e.trans e2) x q
def CE (c : Ctx) (e : Expr) (Δ : Sl) (μ : Mu) (Q : D → Mu → Prop) (Ex : XD) : Prop :=
  ∀ σ H, OkS c.K μ H σ Δ → HS c.K μ H → ∀ QV : VK, WantV c μ H Q QV → WantX c Δ σ μ H Ex → wE c.X e σ H QV
def CT (c : Ctx) (e : Expr) (Δ : Sl) (μ : Mu) (Q : Bool → Mu → Prop) (Ex : XD) : Prop :=
  ∀ σ H, OkS c.K μ H σ Δ → HS c.K μ H → ∀ QV : Bool → Hp → Prop, (∀ b μ' H', Evo c.K μ H μ' H' → Q b μ' → QV b H') → WantX c Δ σ μ H Ex → wT c.X e σ H QV
def CA (c : Ctx) (es : List Expr) (Δ : Sl) (μ : Mu) (Q : List D → Mu → Prop) (Ex : XD) : Prop :=
  ∀ σ H, OkS c.K μ H σ Δ → HS c.K μ H → ∀ QV : List V → Hp → Prop, (∀ vs ds μ' H', Evo c.K μ H μ' H' → Dts c.K μ' H' vs ds → Q ds μ' → QV vs H') → WantX c Δ σ μ H Ex → wA c.X es σ H QV
structure DE where
  nx : Sl → Mu → Prop
  rt : D → Mu → Prop
  bk : Sl → Mu → Prop := fun _ _ => False
  ct : Sl → Mu → Prop := fun _ _ => False
  ex : XD := fun _ _ _ _ => False
structure Sim (c : Ctx) (μ : Mu) (H : Hp) (E : DE) (Ev : Ends) : Prop where
  nx : ∀ σ' Δ' μ' H', Evo c.K μ H μ' H' → OkS c.K μ' H' σ' Δ' → E.nx Δ' μ' → Ev.nx σ' H'
  rt : WantV c μ H E.rt Ev.rt
  bk : ∀ σ' Δ' μ' H', Evo c.K μ H μ' H' → OkS c.K μ' H' σ' Δ' → E.bk Δ' μ' → Ev.bk σ' H'
  ct : ∀ σ' Δ' μ' H', Evo c.K μ H μ' H' → OkS c.K μ' H' σ' Δ' → E.ct Δ' μ' → Ev.ct σ' H'
  ex : ∀ cls dict C o σ' Δ' μ' H', Evo c.K μ H μ' H' → OkS c.K μ' H' σ' Δ' → XAt c.K μ' H' cls dict C o → E.ex C o Δ' μ' → c.W cls dict σ' H'
theorem Sim.evo {c : Ctx} {μ μ' : Mu} {H H' : Hp} {E : DE} {Ev : Ends} (h : Sim c μ H E Ev) (e : Evo c.K μ H μ' H') : Sim c μ' H' E Ev :=
  ⟨fun s d m H2 e2 o q => h.nx s d m H2 (e.trans e2) o q, h.rt.evo e, fun s d m H2 e2 o q => h.bk s d m H2 (e.trans e2) o q, fun s d m H2 e2 o q => h.ct s d m H2 (e.trans e2) o q,
    fun a b C o s d m H2 e2 k x q => h.ex a b C o s d m H2 (e.trans e2) k x q⟩
theorem Sim.want {c : Ctx} {μ : Mu} {H : Hp} {E : DE} {Ev : Ends} {σ : L2.St} {Δ : Sl} (h : Sim c μ H E Ev) (ok : OkS c.K μ H σ Δ) : WantX c Δ σ μ H E.ex :=
  fun a b C o m H2 e x q => h.ex a b C o σ Δ m H2 e (ok.evo e) x q
def CS (c : Ctx) (st : Stmt) (Δ : Sl) (μ : Mu) (E : DE) : Prop := ∀ σ H, OkS c.K μ H σ Δ → HS c.K μ H → ∀ Ev, Sim c μ H E Ev → wS c.X st Ev σ H
def CSs (c : Ctx) (st : List Stmt) (Δ : Sl) (μ : Mu) (E : DE) : Prop := ∀ σ H, OkS c.K μ H σ Δ → HS c.K μ H → ∀ Ev, Sim c μ H E Ev → wSs c.X st Ev σ H

section
variable {c : Ctx} {e a b : Expr} {es : List Expr} {Δ : Sl} {μ : Mu} {Q Q' : D → Mu → Prop} {QB QB' : Bool → Mu → Prop} {QA QA' : List D → Mu → Prop} {Ex Ex' : XD} {pos : Pos} {E : DE} {st : Stmt} {sts : List Stmt}

theorem CE.imp (h : CE c e Δ μ Q Ex) (hq : ∀ d m, Q d m → Q' d m) : CE c e Δ μ Q' Ex := fun σ H ok hs QV hQ hX => h σ H ok hs QV (fun v d m H' e dt q => hQ v d m H' e dt (hq d m q)) hX
theorem CT.imp (h : CT c e Δ μ QB Ex) (hq : ∀ d m, QB d m → QB' d m) : CT c e Δ μ QB' Ex := fun σ H ok hs QV hQ hX => h σ H ok hs QV (fun v m H' e q => hQ v m H' e (hq v m q)) hX
theorem CA.imp (h : CA c es Δ μ QA Ex) (hq : ∀ d m, QA d m → QA' d m) : CA c es Δ μ QA' Ex := fun σ H ok hs QV hQ hX => h σ H ok hs QV (fun v d m H' e dt q => hQ v d m H' e dt (hq d m q)) hX
/-! ### names, constants -/
theorem CE.var {i : Nat} {x : Str} {d : D} (hd : Δ[i]? = some (some d)) (hN : c.X.N[i]? = some x) (hv : Vis c.X.env.scope x) (q : Q d μ) (h1 : (x == ("__debug__" : Str)) = false := by decide) (h2 : (x == ("__classdict__" : Str)) = false := by decide) : CE c (.Name x pos) Δ μ Q Ex := by
  intro σ H ok hs QV hQ hX
  obtain ⟨v, h3, h4⟩ := ok.get i d hd
  exact ⟨_, pe_var hN hv h1 h2, v, h3, hQ v d μ H (Evo.refl hs) h4 q⟩
theorem CE.k {v : V} {d : D} (hp : PE c.X e (tC v)) (hd : ∀ μ H, Dt c.K μ H v d) (q : Q d μ) : CE c e Δ μ Q Ex := fun σ H ok hs QV hQ hX => ⟨_, hp, hQ v d μ H (Evo.refl hs) (hd μ H) q⟩
theorem CE.int {i : Int} {j} (q : Q (.int i) μ) : CE c (.Constant (.int i) j pos) Δ μ Q Ex := CE.k pe_int (fun _ _ => .int i) q
theorem CE.bl {i : Bool} {j} (q : Q (.bl i) μ) : CE c (.Constant (.bool i) j pos) Δ μ Q Ex := CE.k pe_bl (fun _ _ => .bl i) q
theorem CE.str {i : Str} {j} (q : Q (.str i) μ) : CE c (.Constant (.str i) j pos) Δ μ Q Ex := CE.k pe_str (fun _ _ => .str i) q
theorem CE.non {j} (q : Q .non μ) : CE c (.Constant .none j pos) Δ μ Q Ex := CE.k pe_non (fun _ _ => .non) q
theorem CE.glob {x : Str} {v : V} {u : Value} {d : D} (hm : c.X.mg x = some u) (r : RelV v u) (hd : ∀ μ H, Dt c.K μ H v d) (q : Q d μ) (hg : Gl c.X x) (hb : (x == ("__debug__" : Str)) = false := by decide) : CE c (.Name x pos) Δ μ Q Ex := CE.k (pe_glob hg hm r hb) hd q

/-! ### two values -/
theorem CE.bin {op : Operator} {r : R2} {P : D → D → Mu → Prop} (ho : OpR c.X (binaryOp op) r)
    (hr : ∀ x y d1 d2 m H QV, P d1 d2 m → HS c.K m H → Dt c.K m H x d1 → Dt c.K m H y d2 → WantV c m H Q QV → r x y H QV)
    (h : CE c a Δ μ (fun d1 m => CE c b Δ m (fun d2 m' => P d1 d2 m') Ex) Ex) : CE c (.BinOp a op b pos) Δ μ Q Ex := by
  intro σ H ok hs QV hQ hX
  refine ⟨_, pe_op ho pe_w pe_w, ?_⟩
  refine h σ H ok hs _ (fun x d1 m1 H1 e1 t1 q1 => ?_) hX
  refine q1 σ H1 (ok.evo e1) e1.s _ (fun y d2 m2 H2 e2 t2 q2 => ?_) (hX.evo e1)
  exact hr x y d1 d2 m2 H2 QV q2 e2.s (e2.dt t1) t2 (WantV.evo hQ (e1.trans e2))
theorem CE.cmp {op : CmpOp} {r : R2} {P : D → D → Mu → Prop} (ho : OpR c.X (compareOp op) r) (hm : behindInMarks op b = false)
    (hr : ∀ x y d1 d2 m H QV, P d1 d2 m → HS c.K m H → Dt c.K m H x d1 → Dt c.K m H y d2 → WantV c m H Q QV → r x y H QV)
    (h : CE c a Δ μ (fun d1 m => CE c b Δ m (fun d2 m' => P d1 d2 m') Ex) Ex) : CE c (.Compare a [op] [b] pos) Δ μ Q Ex := by
  intro σ H ok hs QV hQ hX
  refine ⟨_, pe_cmpR ho pe_w pe_w hm, ?_⟩
  refine h σ H ok hs _ (fun x d1 m1 H1 e1 t1 q1 => ?_) hX
  refine q1 σ H1 (ok.evo e1) e1.s _ (fun y d2 m2 H2 e2 t2 q2 => ?_) (hX.evo e1)
  exact hr x y d1 d2 m2 H2 QV q2 e2.s (e2.dt t1) t2 (WantV.evo hQ (e1.trans e2))
theorem CT.cmp {op : CmpOp} {r : R2} {P : D → D → Mu → Prop} (ho : OpR c.X (compareOp op) r) (hm : behindInMarks op b = false)
    (hr : ∀ x y d1 d2 m H QV, P d1 d2 m → HS c.K m H → Dt c.K m H x d1 → Dt c.K m H y d2 → WantV c m H (fun d m' => ∃ k, d = .bl k ∧ QB k m') QV → r x y H QV)
    (h : CE c a Δ μ (fun d1 m => CE c b Δ m (fun d2 m' => P d1 d2 m') Ex) Ex) : CT c (.Compare a [op] [b] pos) Δ μ QB Ex := by
  intro σ H ok hs QV hQ hX
  refine ⟨_, pt_cmpR ho pe_w pe_w hm, ?_⟩
  refine h σ H ok hs _ (fun x d1 m1 H1 e1 t1 q1 => ?_) hX
  refine q1 σ H1 (ok.evo e1) e1.s _ (fun y d2 m2 H2 e2 t2 q2 => ?_) (hX.evo e1)
  refine hr x y d1 d2 m2 H2 _ q2 e2.s (e2.dt t1) t2 fun v d m' H' e3 t3 ⟨k, ek, q3⟩ => ?_
  subst ek
  cases t3
  exact ⟨k, rfl, hQ k m' H' ((e1.trans e2).trans e3) q3⟩
/-- what two ints ask -/
abbrev P2I (C : Int → Int → Prop) (g : Int → Int → D) (Q : D → Mu → Prop) : D → D → Mu → Prop := fun d1 d2 m => ∃ i j, d1 = .int i ∧ d2 = .int j ∧ C i j ∧ Q (g i j) m
theorem r_int {C C' : Int → Int → Prop} {f : Int → Int → V} {g : Int → Int → D} (hc : ∀ i j, C i j → C' i j) (hg : ∀ i j m H, Dt c.K m H (f i j) (g i j)) (x y : V) (d1 d2 : D) (m : Mu) (H : Hp) (QV : VK) (p : P2I C g Q d1 d2 m) (hs : HS c.K m H)
    (t1 : Dt c.K m H x d1) (t2 : Dt c.K m H y d2) (hQ : WantV c m H Q QV) : rI C' f x y H QV := by
  obtain ⟨i, j, rfl, rfl, q1, q2⟩ := p
  cases t1; cases t2
  exact ⟨i, j, rfl, rfl, hc i j q1, hQ _ _ m H (Evo.refl hs) (hg i j m H) q2⟩
abbrev P2I0 (g : Int → Int → D) (Q : D → Mu → Prop) : D → D → Mu → Prop := fun d1 d2 m => ∃ i j, d1 = .int i ∧ d2 = .int j ∧ Q (g i j) m
theorem r_int0 {f : Int → Int → V} {g : Int → Int → D} (hg : ∀ i j m H, Dt c.K m H (f i j) (g i j)) (x y : V) (d1 d2 : D) (m : Mu) (H : Hp) (QV : VK) (p : P2I0 g Q d1 d2 m) (hs : HS c.K m H)
    (t1 : Dt c.K m H x d1) (t2 : Dt c.K m H y d2) (hQ : WantV c m H Q QV) : rI0 f x y H QV := by
  obtain ⟨i, j, rfl, rfl, q2⟩ := p
  cases t1; cases t2
  exact ⟨i, j, rfl, rfl, hQ _ _ m H (Evo.refl hs) (hg i j m H) q2⟩
theorem CE.sub (h : CE c a Δ μ (fun d1 m => CE c b Δ m (fun d2 m' => P2I0 (fun i j => .int (i - j)) Q d1 d2 m') Ex) Ex) : CE c (.BinOp a .Sub b pos) Δ μ Q Ex := CE.bin op_sub (r_int0 fun i j _ _ => .int _) h
theorem CE.mul (h : CE c a Δ μ (fun d1 m => CE c b Δ m (fun d2 m' => P2I CMul (fun i j => .int (i * j)) Q d1 d2 m') Ex) Ex) : CE c (.BinOp a .Mult b pos) Δ μ Q Ex := CE.bin op_mul (r_int (fun _ _ h => h) fun i j _ _ => .int _) h
theorem CE.fdiv (h : CE c a Δ μ (fun d1 m => CE c b Δ m (fun d2 m' => P2I CDiv (fun i j => .int (i / j)) Q d1 d2 m') Ex) Ex) : CE c (.BinOp a .FloorDiv b pos) Δ μ Q Ex := CE.bin op_fdiv (r_int (fun _ _ h => h) fun i j _ _ => .int _) h
theorem CE.mod (h : CE c a Δ μ (fun d1 m => CE c b Δ m (fun d2 m' => P2I (fun _ j => 0 < j) (fun i j => .int (i % j)) Q d1 d2 m') Ex) Ex) : CE c (.BinOp a .Mod b pos) Δ μ Q Ex := CE.bin op_mod (r_int (fun _ _ h => h) fun i j _ _ => .int _) h
theorem CE.pow (h : CE c a Δ μ (fun d1 m => CE c b Δ m (fun d2 m' => P2I CPow (fun i j => .int (i ^ j.toNat)) Q d1 d2 m') Ex) Ex) : CE c (.BinOp a .Pow b pos) Δ μ Q Ex := CE.bin op_pow (r_int (fun _ _ h => h) fun i j _ _ => .int _) h
theorem CE.shl (h : CE c a Δ μ (fun d1 m => CE c b Δ m (fun d2 m' => P2I CPow (fun i j => .int (i * 2 ^ j.toNat)) Q d1 d2 m') Ex) Ex) : CE c (.BinOp a .LShift b pos) Δ μ Q Ex := CE.bin op_shl (r_int (fun _ _ h => h) fun i j _ _ => .int _) h
theorem CE.shr (h : CE c a Δ μ (fun d1 m => CE c b Δ m (fun d2 m' => P2I (fun _ j => 0 ≤ j) (fun i j => .int (i / 2 ^ j.toNat)) Q d1 d2 m') Ex) Ex) : CE c (.BinOp a .RShift b pos) Δ μ Q Ex := CE.bin op_shr (r_int (fun _ _ h => h) fun i j _ _ => .int _) h
theorem CE.band (h : CE c a Δ μ (fun d1 m => CE c b Δ m (fun d2 m' => P2I0 (fun i j => .int (Builtin.bitAnd i j)) Q d1 d2 m') Ex) Ex) : CE c (.BinOp a .BitAnd b pos) Δ μ Q Ex := CE.bin op_and (r_int0 fun i j _ _ => .int _) h
theorem CE.bor (h : CE c a Δ μ (fun d1 m => CE c b Δ m (fun d2 m' => P2I0 (fun i j => .int (Builtin.bitOr i j)) Q d1 d2 m') Ex) Ex) : CE c (.BinOp a .BitOr b pos) Δ μ Q Ex := CE.bin op_or (r_int0 fun i j _ _ => .int _) h
theorem CE.bxor (h : CE c a Δ μ (fun d1 m => CE c b Δ m (fun d2 m' => P2I0 (fun i j => .int (Builtin.bitXor i j)) Q d1 d2 m') Ex) Ex) : CE c (.BinOp a .BitXor b pos) Δ μ Q Ex := CE.bin op_xor (r_int0 fun i j _ _ => .int _) h
/-! order of ints -/
theorem CE.lt (h : CE c a Δ μ (fun d1 m => CE c b Δ m (fun d2 m' => P2I0 (fun i j => .bl (decide (i < j))) Q d1 d2 m') Ex) Ex) : CE c (.Compare a [.Lt] [b] pos) Δ μ Q Ex := CE.cmp op_lt (nomark _) (r_int0 fun i j _ _ => .bl _) h
theorem CE.le (h : CE c a Δ μ (fun d1 m => CE c b Δ m (fun d2 m' => P2I0 (fun i j => .bl (decide (i ≤ j))) Q d1 d2 m') Ex) Ex) : CE c (.Compare a [.LtE] [b] pos) Δ μ Q Ex := CE.cmp op_le (nomark _) (r_int0 fun i j _ _ => .bl _) h
theorem CE.gt (h : CE c a Δ μ (fun d1 m => CE c b Δ m (fun d2 m' => P2I0 (fun i j => .bl (decide (j < i))) Q d1 d2 m') Ex) Ex) : CE c (.Compare a [.Gt] [b] pos) Δ μ Q Ex := CE.cmp op_gt (nomark _) (r_int0 fun i j _ _ => .bl _) h
theorem CE.ge (h : CE c a Δ μ (fun d1 m => CE c b Δ m (fun d2 m' => P2I0 (fun i j => .bl (decide (j ≤ i))) Q d1 d2 m') Ex) Ex) : CE c (.Compare a [.GtE] [b] pos) Δ μ Q Ex := CE.cmp op_ge (nomark _) (r_int0 fun i j _ _ => .bl _) h
abbrev P2B (g : Int → Int → Bool) (QB : Bool → Mu → Prop) : D → D → Mu → Prop := fun d1 d2 m => ∃ i j, d1 = .int i ∧ d2 = .int j ∧ QB (g i j) m
theorem r_intB {f : Int → Int → V} {g : Int → Int → Bool} (hf : ∀ i j, f i j = .bl (g i j)) (x y : V) (d1 d2 : D) (m : Mu) (H : Hp) (QV : VK) (p : P2B g QB d1 d2 m) (hs : HS c.K m H)
    (t1 : Dt c.K m H x d1) (t2 : Dt c.K m H y d2) (hQ : WantV c m H (fun d m' => ∃ k, d = .bl k ∧ QB k m') QV) : rI0 f x y H QV := by
  obtain ⟨i, j, rfl, rfl, q2⟩ := p
  cases t1; cases t2
  refine ⟨i, j, rfl, rfl, ?_⟩
  rw [hf]
  exact hQ _ _ m H (Evo.refl hs) (.bl _) ⟨_, rfl, q2⟩
theorem CT.lt (h : CE c a Δ μ (fun d1 m => CE c b Δ m (fun d2 m' => P2B (fun i j => decide (i < j)) QB d1 d2 m') Ex) Ex) : CT c (.Compare a [.Lt] [b] pos) Δ μ QB Ex := CT.cmp op_lt (nomark _) (r_intB fun i j => rfl) h
theorem CT.le (h : CE c a Δ μ (fun d1 m => CE c b Δ m (fun d2 m' => P2B (fun i j => decide (i ≤ j)) QB d1 d2 m') Ex) Ex) : CT c (.Compare a [.LtE] [b] pos) Δ μ QB Ex := CT.cmp op_le (nomark _) (r_intB fun i j => rfl) h
theorem CT.gt (h : CE c a Δ μ (fun d1 m => CE c b Δ m (fun d2 m' => P2B (fun i j => decide (j < i)) QB d1 d2 m') Ex) Ex) : CT c (.Compare a [.Gt] [b] pos) Δ μ QB Ex := CT.cmp op_gt (nomark _) (r_intB fun i j => rfl) h
theorem CT.ge (h : CE c a Δ μ (fun d1 m => CE c b Δ m (fun d2 m' => P2B (fun i j => decide (j ≤ i)) QB d1 d2 m') Ex) Ex) : CT c (.Compare a [.GtE] [b] pos) Δ μ QB Ex := CT.cmp op_ge (nomark _) (r_intB fun i j => rfl) h

/-! ### == -/
/-- two scalars of one kind; all other data -/
inductive EqD : D → D → Bool → Prop
  | int (i j : Int) : EqD (.int i) (.int j) (decide (i = j))
  | str (i j : Str) : EqD (.str i) (.str j) (decide (i = j))
  | bl (i j : Bool) : EqD (.bl i) (.bl j) (decide (i = j))
  | py (d e : D) : d.isPy = true → e.isPy = true → d.py.depth ≤ 64 → e.py.depth ≤ 64 → EqD d e (PyData.eqv d.py e.py)
def rEqA (K : PySem.W.Frag) : R2 := fun x y H Q => rEq x y H Q ∨ rEqD K x y H Q
def rNeA (K : PySem.W.Frag) : R2 := fun x y H Q => rNe x y H Q ∨ rNeD K x y H Q
theorem op_eqA (hu : c.X.A.units + 64 < cLine) : OpR c.X (compareOp .Eq) (rEqA c.K) := op_eq.or (op_eqD hu)
theorem op_neA (hu : c.X.A.units + 64 < cLine) : OpR c.X (compareOp .NotEq) (rNeA c.K) := op_ne.or (op_neD hu)
theorem dec_i {i j : Int} : decide (V.int i = V.int j) = decide (i = j) := by
  by_cases h : i = j
  · subst h; simp
  · rw [decide_eq_false h, decide_eq_false fun z => h (V.int.inj z)]
theorem dec_s {i j : Str} : decide (V.str i = V.str j) = decide (i = j) := by
  by_cases h : i = j
  · subst h; simp
  · rw [decide_eq_false h, decide_eq_false fun z => h (V.str.inj z)]
theorem dec_b {i j : Bool} : decide (V.bl i = V.bl j) = decide (i = j) := by
  by_cases h : i = j
  · subst h; simp
  · rw [decide_eq_false h, decide_eq_false fun z => h (V.bl.inj z)]
theorem shaped_of {d : D} (h : d.isPy = true) (h2 : d.py.depth ≤ 64) : SeqAt.shaped d.py = true := by
  unfold SeqAt.shaped
  rw [D.canLay d h, decide_eq_true h2]; rfl
theorem r_eq {x y : V} {d1 d2 : D} {m : Mu} {H : Hp} {QV : VK} {k : Bool} (p : EqD d1 d2 k) (t1 : Dt c.K m H x d1) (t2 : Dt c.K m H y d2) (q : QV (.bl k) H) : rEqA c.K x y H QV := by
  cases p with
  | int i j => cases t1; cases t2; exact .inl ⟨rfl, by rw [dec_i]; exact q⟩
  | str i j => cases t1; cases t2; exact .inl ⟨rfl, by rw [dec_s]; exact q⟩
  | bl i j => cases t1; cases t2; exact .inl ⟨rfl, by rw [dec_b]; exact q⟩
  | py d e h1 h2 h3 h4 => exact .inr ⟨_, _, t1.dp h1, t2.dp h2, shaped_of h1 h3, shaped_of h2 h4, q⟩
theorem r_ne {x y : V} {d1 d2 : D} {m : Mu} {H : Hp} {QV : VK} {k : Bool} (p : EqD d1 d2 k) (t1 : Dt c.K m H x d1) (t2 : Dt c.K m H y d2) (q : QV (.bl (!k)) H) : rNeA c.K x y H QV := by
  cases p with
  | int i j => cases t1; cases t2; exact .inl ⟨rfl, by rw [dec_i]; exact q⟩
  | str i j => cases t1; cases t2; exact .inl ⟨rfl, by rw [dec_s]; exact q⟩
  | bl i j => cases t1; cases t2; exact .inl ⟨rfl, by rw [dec_b]; exact q⟩
  | py d e h1 h2 h3 h4 => exact .inr ⟨_, _, t1.dp h1, t2.dp h2, shaped_of h1 h3, shaped_of h2 h4, q⟩
theorem CE.eq (hu : c.X.A.units + 64 < cLine) (h : CE c a Δ μ (fun d1 m => CE c b Δ m (fun d2 m' => ∃ k, EqD d1 d2 k ∧ Q (.bl k) m') Ex) Ex) : CE c (.Compare a [.Eq] [b] pos) Δ μ Q Ex :=
  CE.cmp (op_eqA hu) (nomark _) (fun x y d1 d2 m H QV ⟨k, p, q⟩ hs t1 t2 hQ => r_eq p t1 t2 (hQ _ _ m H (Evo.refl hs) (.bl _) q)) h
theorem CE.ne (hu : c.X.A.units + 64 < cLine) (h : CE c a Δ μ (fun d1 m => CE c b Δ m (fun d2 m' => ∃ k, EqD d1 d2 k ∧ Q (.bl (!k)) m') Ex) Ex) : CE c (.Compare a [.NotEq] [b] pos) Δ μ Q Ex :=
  CE.cmp (op_neA hu) (nomark _) (fun x y d1 d2 m H QV ⟨k, p, q⟩ hs t1 t2 hQ => r_ne p t1 t2 (hQ _ _ m H (Evo.refl hs) (.bl _) q)) h
theorem CT.eq (hu : c.X.A.units + 64 < cLine) (h : CE c a Δ μ (fun d1 m => CE c b Δ m (fun d2 m' => ∃ k, EqD d1 d2 k ∧ QB k m') Ex) Ex) : CT c (.Compare a [.Eq] [b] pos) Δ μ QB Ex :=
  CT.cmp (op_eqA hu) (nomark _) (fun x y d1 d2 m H QV ⟨k, p, q⟩ hs t1 t2 hQ => r_eq p t1 t2 (hQ _ _ m H (Evo.refl hs) (.bl _) ⟨_, rfl, q⟩)) h
theorem CT.ne (hu : c.X.A.units + 64 < cLine) (h : CE c a Δ μ (fun d1 m => CE c b Δ m (fun d2 m' => ∃ k, EqD d1 d2 k ∧ QB (!k) m') Ex) Ex) : CT c (.Compare a [.NotEq] [b] pos) Δ μ QB Ex :=
  CT.cmp (op_neA hu) (nomark _) (fun x y d1 d2 m H QV ⟨k, p, q⟩ hs t1 t2 hQ => r_ne p t1 t2 (hQ _ _ m H (Evo.refl hs) (.bl _) ⟨_, rfl, q⟩)) h
/-! ### is None -/
def D.isNon : D → Bool
  | .non => true | _ => false
theorem dt_non {x : V} {d : D} {m : Mu} {H : Hp} (t : Dt c.K m H x d) : decide (x = V.non) = d.isNon := by
  cases t <;> first | rfl | exact decide_eq_false (fun z => nomatch z)
theorem CE.isN (h : CE c a Δ μ (fun d1 m => Q (.bl d1.isNon) m) Ex) {j p} : CE c (.Compare a [.Is] [.Constant .none j p] pos) Δ μ Q Ex := by
  intro σ H ok hs QV hQ hX
  refine ⟨_, pe_cmp (pc_isN pe_w), h σ H ok hs _ (fun x d1 m1 H1 e1 t1 q1 => ?_) hX⟩
  show QV (.bl (decide (x = .non))) H1
  rw [dt_non t1]; exact hQ _ _ _ _ e1 (.bl _) q1
theorem CT.isN (h : CE c a Δ μ (fun d1 m => QB d1.isNon m) Ex) {j p} : CT c (.Compare a [.Is] [.Constant .none j p] pos) Δ μ QB Ex := by
  intro σ H ok hs QV hQ hX
  refine ⟨_, pt_cmp (pc_isN pe_w), h σ H ok hs _ (fun x d1 m1 H1 e1 t1 q1 => ?_) hX⟩
  exact ⟨d1.isNon, congrArg V.bl (dt_non t1), hQ _ _ _ e1 q1⟩
theorem CT.notN (h : CE c a Δ μ (fun d1 m => QB (!d1.isNon) m) Ex) {j p} : CT c (.Compare a [.IsNot] [.Constant .none j p] pos) Δ μ QB Ex := by
  intro σ H ok hs QV hQ hX
  refine ⟨_, pt_cmp (pc_notN pe_w), h σ H ok hs _ (fun x d1 m1 H1 e1 t1 q1 => ?_) hX⟩
  exact ⟨!d1.isNon, by rw [dt_non t1], hQ _ _ _ e1 q1⟩
theorem CE.notN (h : CE c a Δ μ (fun d1 m => Q (.bl (!d1.isNon)) m) Ex) {j p} : CE c (.Compare a [.IsNot] [.Constant .none j p] pos) Δ μ Q Ex := by
  intro σ H ok hs QV hQ hX
  refine ⟨_, pe_cmp (pc_notN pe_w), h σ H ok hs _ (fun x d1 m1 H1 e1 t1 q1 => ?_) hX⟩
  show QV (.bl (!decide (x = .non))) H1
  rw [dt_non t1]; exact hQ _ _ _ _ e1 (.bl _) q1

/-! ### chains of two comparisons of ints -/
theorem CE.chain {op op' : CmpOp} {f g : Int → Int → Bool} {d : Expr} (ho : OpR c.X (compareOp op) (rI0 fun i j => .bl (f i j))) (ho' : OpR c.X (compareOp op') (rI0 fun i j => .bl (g i j)))
    (hp : ∀ ta tb tc, PE c.X a ta → PE c.X b tb → PE c.X d tc → PE c.X (.Compare a [op, op'] [b, d] pos) (tChain (rI0 fun i j => .bl (f i j)) (rI0 fun i j => .bl (g i j)) ta tb tc))
    (h : CE c a Δ μ (fun d1 m => CE c b Δ m (fun d2 m' => ∃ i j, d1 = .int i ∧ d2 = .int j ∧ if f i j = true then CE c d Δ m' (fun d3 m2 => ∃ k, d3 = .int k ∧ Q (.bl (g j k)) m2) Ex else Q (.bl false) m') Ex) Ex) :
    CE c (.Compare a [op, op'] [b, d] pos) Δ μ Q Ex := by
  intro σ H ok hs QV hQ hX
  refine ⟨_, hp _ _ _ pe_w pe_w pe_w, ?_⟩
  refine h σ H ok hs _ (fun x d1 m1 H1 e1 t1 q1 => ?_) hX
  refine q1 σ H1 (ok.evo e1) e1.s _ (fun y d2 m2 H2 e2 t2 ⟨i, j, z1, z2, q2⟩ => ?_) (hX.evo e1)
  subst z1; subst z2
  cases t1; cases t2
  refine ⟨i, j, rfl, rfl, f i j, rfl, ?_⟩
  cases hf : f i j with
  | false =>
    rw [hf] at q2
    rw [if_neg (by decide)] at q2
    show (if false = true then _ else _)
    rw [if_neg (by decide)]
    exact hQ _ _ _ _ (e1.trans e2) (.bl _) q2
  | true =>
    rw [hf, if_pos rfl] at q2
    show (if true = true then _ else _)
    rw [if_pos rfl]
    refine q2 σ H2 (ok.evo (e1.trans e2)) e2.s _ (fun z d3 m3 H3 e3 t3 ⟨k, z3, q3⟩ => ?_) (hX.evo (e1.trans e2))
    subst z3
    cases t3
    exact ⟨j, k, rfl, rfl, hQ _ _ _ _ ((e1.trans e2).trans e3) (.bl _) q3⟩
theorem CE.tru_of (h : CE c e Δ μ (fun d m => ∃ k, d = .bl k ∧ QB k m) Ex) (he : ∀ whole, isTrue e c.X.env whole = (do let v ← whole; standAt e.pos; holding [v] (truthy v)) := by intro _; rfl) : CT c e Δ μ QB Ex := by
  intro σ H ok hs QV hQ hX
  refine ⟨_, pt_val pe_w he, h σ H ok hs _ (fun x d1 m1 H1 e1 t1 ⟨k, z, q1⟩ => ?_) hX⟩
  subst z; cases t1
  exact ⟨k, rfl, hQ _ _ _ e1 q1⟩

/-! ### and, or, not, if -/
theorem CE.and {rest : List Expr} (h : CE c a Δ μ (fun d m => ∃ k, d = .bl k ∧ if k = true then CE c (.BoolOp .And (b :: rest) pos) Δ m Q Ex else Q (.bl false) m) Ex) : CE c (.BoolOp .And (a :: b :: rest) pos) Δ μ Q Ex := by
  intro σ H ok hs QV hQ hX
  refine ⟨_, pe_and pe_w pe_w, h σ H ok hs _ (fun x d1 m1 H1 e1 t1 ⟨k, z, q1⟩ => ?_) hX⟩
  subst z; cases t1
  refine ⟨k, rfl, ?_⟩
  cases k with
  | true => rw [if_pos rfl] at q1 ⊢; exact q1 σ H1 (ok.evo e1) e1.s _ (WantV.evo hQ e1) (hX.evo e1)
  | false => rw [if_neg (by decide)] at q1 ⊢; exact hQ _ _ _ _ e1 (.bl _) q1
theorem CE.or {rest : List Expr} (h : CE c a Δ μ (fun d m => ∃ k, d = .bl k ∧ if k = true then Q (.bl true) m else CE c (.BoolOp .Or (b :: rest) pos) Δ m Q Ex) Ex) : CE c (.BoolOp .Or (a :: b :: rest) pos) Δ μ Q Ex := by
  intro σ H ok hs QV hQ hX
  refine ⟨_, pe_or pe_w pe_w, h σ H ok hs _ (fun x d1 m1 H1 e1 t1 ⟨k, z, q1⟩ => ?_) hX⟩
  subst z; cases t1
  refine ⟨k, rfl, ?_⟩
  cases k with
  | false => rw [if_neg (by decide)] at q1 ⊢; exact q1 σ H1 (ok.evo e1) e1.s _ (WantV.evo hQ e1) (hX.evo e1)
  | true => rw [if_pos rfl] at q1 ⊢; exact hQ _ _ _ _ e1 (.bl _) q1
theorem CE.one {op} (h : CE c a Δ μ Q Ex) : CE c (.BoolOp op [a] pos) Δ μ Q Ex := fun σ H ok hs QV hQ hX => ⟨_, pe_one pe_w, h σ H ok hs QV hQ hX⟩
theorem CE.not (h : CE c a Δ μ (fun d m => ∃ k, d = .bl k ∧ Q (.bl (!k)) m) Ex) : CE c (.UnaryOp .Not a pos) Δ μ Q Ex := by
  intro σ H ok hs QV hQ hX
  refine ⟨_, pe_not pe_w, h σ H ok hs _ (fun x d1 m1 H1 e1 t1 ⟨k, z, q1⟩ => ?_) hX⟩
  subst z; cases t1
  exact ⟨k, rfl, hQ _ _ _ _ e1 (.bl _) q1⟩
theorem CE.ifE {t : Expr} (h : CT c t Δ μ (fun k m => if k = true then CE c a Δ m Q Ex else CE c b Δ m Q Ex) Ex) : CE c (.IfExp t a b pos) Δ μ Q Ex := by
  intro σ H ok hs QV hQ hX
  refine ⟨_, pe_ifExp pt_w pe_w pe_w, h σ H ok hs _ (fun k m1 H1 e1 q1 => ?_) hX⟩
  cases k with
  | true => rw [if_pos rfl] at q1 ⊢; exact q1 σ H1 (ok.evo e1) e1.s _ (WantV.evo hQ e1) (hX.evo e1)
  | false => rw [if_neg (by decide)] at q1 ⊢; exact q1 σ H1 (ok.evo e1) e1.s _ (WantV.evo hQ e1) (hX.evo e1)
/-- a chain of and, or as a test: whatever its whole is -/
def CW (c : Ctx) (e : Expr) (Δ : Sl) (μ : Mu) (Q : Bool → Mu → Prop) (Ex : XD) : Prop :=
  ∀ σ H, OkS c.K μ H σ Δ → HS c.K μ H → ∀ QV : Bool → Hp → Prop, (∀ b μ' H', Evo c.K μ H μ' H' → Q b μ' → QV b H') → WantX c Δ σ μ H Ex → ∃ t, PW c.X e t ∧ t σ H QV
def wW (X : Cx) (e : Expr) : TT := fun σ H Q => ∃ t, PW X e t ∧ t σ H Q
theorem pw_w {X : Cx} {e : Expr} : PW X e (wW X e) := ⟨fun wh pins s σ H Q I ⟨_, h, q⟩ => h.run wh pins s σ H Q I q⟩
theorem CT.w (h : CW c e Δ μ QB Ex) : CT c e Δ μ QB Ex := fun σ H ok hs QV hQ hX => let ⟨t, p, q⟩ := h σ H ok hs QV hQ hX; ⟨t, p.pt, q⟩
theorem CW.and1 (h : CT c a Δ μ QB Ex) : CW c (.BoolOp .And [a] pos) Δ μ QB Ex := fun σ H ok hs QV hQ hX => ⟨_, pw_and1 pt_w, h σ H ok hs QV hQ hX⟩
theorem CW.or1 (h : CT c a Δ μ QB Ex) : CW c (.BoolOp .Or [a] pos) Δ μ QB Ex := fun σ H ok hs QV hQ hX => ⟨_, pw_or1 pt_w, h σ H ok hs QV hQ hX⟩
theorem CW.and {rest : List Expr} (h : CT c a Δ μ (fun k m => if k = true then CW c (.BoolOp .And (b :: rest) pos) Δ m QB Ex else QB false m) Ex) : CW c (.BoolOp .And (a :: b :: rest) pos) Δ μ QB Ex := by
  intro σ H ok hs QV hQ hX
  refine ⟨_, pw_and pt_w pw_w, h σ H ok hs _ (fun k m1 H1 e1 q1 => ?_) hX⟩
  cases k with
  | true => rw [if_pos rfl] at q1 ⊢; exact q1 σ H1 (ok.evo e1) e1.s _ (fun b m H' e q => hQ b m H' (e1.trans e) q) (hX.evo e1)
  | false => rw [if_neg (by decide)] at q1 ⊢; exact hQ _ _ _ e1 q1
theorem CW.or {rest : List Expr} (h : CT c a Δ μ (fun k m => if k = true then QB true m else CW c (.BoolOp .Or (b :: rest) pos) Δ m QB Ex) Ex) : CW c (.BoolOp .Or (a :: b :: rest) pos) Δ μ QB Ex := by
  intro σ H ok hs QV hQ hX
  refine ⟨_, pw_or pt_w pw_w, h σ H ok hs _ (fun k m1 H1 e1 q1 => ?_) hX⟩
  cases k with
  | false => rw [if_neg (by decide)] at q1 ⊢; exact q1 σ H1 (ok.evo e1) e1.s _ (fun b m H' e q => hQ b m H' (e1.trans e) q) (hX.evo e1)
  | true => rw [if_pos rfl] at q1 ⊢; exact hQ _ _ _ e1 q1
theorem CT.not (h : CT c a Δ μ (fun k m => QB (!k) m) Ex) : CT c (.UnaryOp .Not a pos) Δ μ QB Ex := fun σ H ok hs QV hQ hX => ⟨_, pt_not pt_w, h σ H ok hs _ (fun k m H' e q => hQ _ _ _ e q) hX⟩

/-! ### arguments, displays -/
theorem CA.nil (q : QA [] μ) : CA c [] Δ μ QA Ex := fun σ H ok hs QV hQ hX => ⟨_, pa_nil, hQ _ _ _ _ (Evo.refl hs) .nil q⟩
theorem CA.cons (h : CE c a Δ μ (fun d m => CA c es Δ m (fun ds m' => QA (d :: ds) m') Ex) Ex) (hst : starEach (a :: es) c.X.env = (false, eval a c.X.env) :: starEach es c.X.env := by rfl) : CA c (a :: es) Δ μ QA Ex := by
  intro σ H ok hs QV hQ hX
  refine ⟨_, pa_cons pe_w pa_w hst, h σ H ok hs _ (fun x d1 m1 H1 e1 t1 q1 => ?_) hX⟩
  refine q1 σ H1 (ok.evo e1) e1.s _ (fun xs ds m2 H2 e2 t2 q2 => ?_) (hX.evo e1)
  exact hQ _ _ _ _ (e1.trans e2) (.cons (e2.dt t1) t2) q2
theorem CA.star {p : Pos} (h : CE c a Δ μ (fun d m => ∃ xs, (d = .tup xs ∨ d = .lst xs ∨ ∃ p, d = .loc p ∧ m p = some (.l xs)) ∧ CA c es Δ m (fun ds m' => QA (xs ++ ds) m') Ex) Ex)
    (hst : starEach (.Starred a p :: es) c.X.env = (true, eval a c.X.env) :: starEach es c.X.env := by rfl) : CA c (.Starred a p :: es) Δ μ QA Ex := by
  intro σ H ok hs QV hQ hX
  refine ⟨_, StX.pa_star pe_w pa_w hst, h σ H ok hs _ (fun x d1 m1 H1 e1 t1 q1 => ?_) hX⟩
  obtain ⟨xs, hd, q1⟩ := q1
  have fin : ∀ {A : Addr} {us : List V}, Dts c.K m1 H1 us xs → wA c.X es σ H1 (fun vs H2 => QV (us ++ vs) H2) := fun {A us} tt =>
    q1 σ H1 (ok.evo e1) e1.s _ (fun ys ds m2 H2 e2 t2 q2 => hQ _ _ _ _ (e1.trans e2) ((e2.dts tt).append t2) q2) (hX.evo e1)
  rcases hd with rfl | rfl | ⟨p, rfl, hm⟩
  · cases t1 with
    | tup h1 h2 => exact ⟨_, _, rfl, .inl h1, fin (A := 0) h2⟩
  · cases t1 with
    | lst h1 h2 => exact ⟨_, _, rfl, .inr h1.sq, fin (A := 0) h2⟩
  · cases t1
    obtain ⟨us, h1, h2⟩ := e1.s p _ hm
    exact ⟨_, _, rfl, .inr (.inl (.inl h1)), fin (A := 0) h2⟩
theorem CE.tup {k} (h : CA c es Δ μ (fun ds m => ds.length ≤ 1000 ∧ Q (.tup ds) m) Ex) : CE c (.Tuple es k pos) Δ μ Q Ex := by
  intro σ H ok hs QV hQ hX
  refine ⟨_, pe_tup pa_w, h σ H ok hs _ (fun xs ds m1 H1 e1 t1 q1 => ?_) hX⟩
  refine ⟨by rw [t1.length]; exact Nat.le_of_lt (small1000 q1.1), fun p hp => ?_⟩
  have s1 := same_new (o := .tup xs) hp
  exact hQ _ _ _ _ (e1.trans (evo_same e1.s s1)) (.tup (SqT.of upd_same) (t1.keep (keeps_same s1))) q1.2
theorem CE.lst (h : CA c es Δ μ (fun ds m => ds.length ≤ 1000 ∧ Q (.lst ds) m) Ex) : CE c (.List es pos) Δ μ Q Ex := by
  intro σ H ok hs QV hQ hX
  refine ⟨_, pe_lst pa_w, h σ H ok hs _ (fun xs ds m1 H1 e1 t1 q1 => ?_) hX⟩
  refine ⟨by rw [t1.length]; exact Nat.le_of_lt (small1000 q1.1), fun p hp => ?_⟩
  have s1 := same_new (o := .lst xs) hp
  exact hQ _ _ _ _ (e1.trans (evo_same e1.s s1)) (.lst ⟨upd_same, e1.s.none hp⟩ (t1.keep (keeps_same s1))) q1.2
/-- .. that will change -/
theorem CE.newl (h : CA c es Δ μ (fun ds m => ds.length ≤ 1000 ∧ ∀ p, m p = none → Q (.loc p) (m.set p (.l ds))) Ex) : CE c (.List es pos) Δ μ Q Ex := by
  intro σ H ok hs QV hQ hX
  refine ⟨_, pe_lst pa_w, h σ H ok hs _ (fun xs ds m1 H1 e1 t1 q1 => ?_) hX⟩
  refine ⟨by rw [t1.length]; exact Nat.le_of_lt (small1000 q1.1), fun p hp => ?_⟩
  have s1 := same_new (o := .lst xs) hp
  exact hQ _ _ _ _ (e1.trans (evo_new (m := .l ds) e1.s s1 hp ⟨xs, upd_same, t1.keep (keeps_new s1 hp)⟩)) (.loc p) (q1.2 p (e1.s.none hp))
end
end AM

set_option autoImplicit false
set_option maxRecDepth 100000
set_option maxHeartbeats 1000000
namespace AM
open PySem L2 PySem.Spec PyProof.Rows
section
variable {c : Ctx} {e a b : Expr} {es : List Expr} {Δ : Sl} {μ : Mu} {Q Q' : D → Mu → Prop} {QB QB' : Bool → Mu → Prop} {QA QA' : List D → Mu → Prop} {Ex Ex' : XD} {pos : Pos} {E E' : DE} {st : Stmt} {sts : List Stmt}

/-! ### blocks -/
theorem CSs.nil (q : E.nx Δ μ) : CSs c [] Δ μ E := fun σ H ok hs Ev S => ⟨_, pss_nil, S.nx _ _ _ _ (Evo.refl hs) ok q⟩
theorem CSs.cons (h : CS c st Δ μ { E with nx := fun Δ' m => CSs c sts Δ' m E }) : CSs c (st :: sts) Δ μ E := by
  intro σ H ok hs Ev S
  refine ⟨_, pss_cons ps_w pss_w, ?_⟩
  refine h σ H ok hs { Ev with nx := wSs c.X sts Ev } ⟨fun σ' Δ' m H' e o q => q σ' H' o e.s Ev (S.evo e), S.rt, S.bk, S.ct, S.ex⟩
theorem CSs.one (h : CS c st Δ μ E) : CSs c [st] Δ μ E := by
  intro σ H ok hs Ev S
  exact ⟨_, pss_one ps_w, h σ H ok hs Ev S⟩
theorem CSs.imp (h : CSs c sts Δ μ E) (hn : ∀ Δ m, E.nx Δ m → E'.nx Δ m) (hr : ∀ d m, E.rt d m → E'.rt d m) (hb : ∀ Δ m, E.bk Δ m → E'.bk Δ m) (hc : ∀ Δ m, E.ct Δ m → E'.ct Δ m) (hx : ∀ C o Δ m, E.ex C o Δ m → E'.ex C o Δ m) : CSs c sts Δ μ E' :=
  fun σ H ok hs Ev S => h σ H ok hs Ev ⟨fun σ' Δ' m H' e o q => S.nx σ' Δ' m H' e o (hn _ _ q), fun v d m H' e t q => S.rt v d m H' e t (hr _ _ q), fun σ' Δ' m H' e o q => S.bk σ' Δ' m H' e o (hb _ _ q), fun σ' Δ' m H' e o q => S.ct σ' Δ' m H' e o (hc _ _ q),
    fun x y C o σ' Δ' m H' e k z q => S.ex x y C o σ' Δ' m H' e k z (hx _ _ _ _ q)⟩
theorem CS.pass (q : E.nx Δ μ) : CS c (.Pass pos) Δ μ E := fun σ H ok hs Ev S => ⟨_, ps_pass, S.nx _ _ _ _ (Evo.refl hs) ok q⟩
theorem CS.brk (q : E.bk Δ μ) : CS c (.Break pos) Δ μ E := fun σ H ok hs Ev S => ⟨_, ps_break, S.bk _ _ _ _ (Evo.refl hs) ok q⟩
theorem CS.cont (q : E.ct Δ μ) : CS c (.Continue pos) Δ μ E := fun σ H ok hs Ev S => ⟨_, ps_continue, S.ct _ _ _ _ (Evo.refl hs) ok q⟩
theorem CS.ret (h : CE c e Δ μ E.rt E.ex) : CS c (.Return (some e) pos) Δ μ E := fun σ H ok hs Ev S => ⟨_, ps_ret pe_w, h σ H ok hs _ S.rt (S.want ok)⟩
theorem CS.retN (q : E.rt .non μ) : CS c (.Return none pos) Δ μ E := fun σ H ok hs Ev S => ⟨_, ps_retN, S.rt _ _ _ _ (Evo.refl hs) .non q⟩
theorem CS.ite {s1 s2 : List Stmt} (h : CT c e Δ μ (fun k m => if k = true then CSs c s1 Δ m E else CSs c s2 Δ m E) E.ex) : CS c (.If e s1 s2 pos) Δ μ E := by
  intro σ H ok hs Ev S
  refine ⟨_, ps_if pt_w pss_w pss_w, h σ H ok hs _ (fun k m H' ev q => ?_) (S.want ok)⟩
  cases k with
  | true => rw [if_pos rfl] at q ⊢; exact q σ H' (ok.evo ev) ev.s Ev (S.evo ev)
  | false => rw [if_neg (by decide)] at q ⊢; exact q σ H' (ok.evo ev) ev.s Ev (S.evo ev)
theorem CS.expr (h : CE c e Δ μ (fun _ m => E.nx Δ m) E.ex) (hsw : swapsWith e none pos.line c.X.env = pure false := by rfl) : CS c (.Expr e pos) Δ μ E := by
  intro σ H ok hs Ev S
  exact ⟨_, ps_expr pe_w hsw, h σ H ok hs _ (fun v d m H' ev dt q => S.nx _ _ _ _ ev (ok.evo ev) q) (S.want ok)⟩
theorem CS.set {i : Nat} {x : Str} {p : Pos} (hi : c.X.N[i]? = some x) (hx : Loc c.X.env.scope x) (h : CE c e Δ μ (fun d m => E.nx (Δ.set i (some d)) m) E.ex) (hN : c.X.N.Nodup)
    (hf : c.X.fn x = true ∨ c.X.env.scope.names.lookup x = some .local) (hsw : swapsWith e (some (.Name x p)) pos.line c.X.env = pure false := by rfl) : CS c (.Assign [.Name x p] e pos) Δ μ E := by
  intro σ H ok hs Ev S
  exact ⟨_, ps_set hN hi hx pe_w hsw hf, h σ H ok hs _ (fun v d m H' ev dt q => S.nx _ _ _ _ ev ((ok.evo ev).set i dt) q) (S.want ok)⟩

/-! ### targets -/
abbrev TGD := D → Sl → Option Sl
structure CG (c : Ctx) (tg : Expr) (g : TGD) : Prop where
  ex : ∃ t, PG c.X tg t ∧ ∀ v d σ H Δ Δ' μ (Q : L2.St → Hp → Prop), OkS c.K μ H σ Δ → Dt c.K μ H v d → g d Δ = some Δ' → (∀ σ', OkS c.K μ H σ' Δ' → Q σ' H) → t v σ H Q
def tgN (i : Nat) : TGD := fun d Δ => some (Δ.set i (some d))
def tgP (i j : Nat) : TGD := fun d Δ => match d with
  | .tup [x, y] => some ((Δ.set i (some x)).set j (some y))
  | _ => none
theorem CG.name {i : Nat} {x : Str} {p : Pos} (hi : c.X.N[i]? = some x) (hx : Loc c.X.env.scope x) (hN : c.X.N.Nodup) (hf : c.X.fn x = true ∨ c.X.env.scope.names.lookup x = some .local) : CG c (.Name x p) (tgN i) :=
  ⟨_, pg_name hN hi hx hf, fun v d σ H Δ Δ' μ Q ok dt e h => by
    cases e
    exact h _ (ok.set i dt)⟩
theorem CG.pair {i j : Nat} {x y : Str} {p q r : Pos} {k} (hc : c.X.calm = true) (hi : c.X.N[i]? = some x) (hx : Loc c.X.env.scope x) (hj : c.X.N[j]? = some y) (hy : Loc c.X.env.scope y) (hN : c.X.N.Nodup)
    (hf : c.X.fn x = true ∨ c.X.env.scope.names.lookup x = some .local) (hf' : c.X.fn y = true ∨ c.X.env.scope.names.lookup y = some .local) : CG c (.Tuple [.Name x p, .Name y q] k r) (tgP i j) := by
  refine ⟨_, pg_tup hc (pgs_cons (pg_name hN hi hx hf) (pgs_cons (pg_name hN hj hy hf') pgs_nil)), fun v d σ H Δ Δ' μ Q ok dt e h => ?_⟩
  unfold tgP at e
  split at e
  · rename_i x1 y1
    cases e
    cases dt with
    | tup h1 h2 =>
      cases h2 with
      | cons a1 a2 =>
        cases a2 with
        | cons b1 b2 =>
          cases b2
          exact ⟨_, _, rfl, h1, rfl, _, _, rfl, _, _, rfl, rfl, h _ ((ok.set i a1).set j b1)⟩
  · cases e
/-- target = e -/
theorem CS.asg {tg : Expr} {g : TGD} (hg : CG c tg g) (h : CE c e Δ μ (fun d m => ∃ Δ', g d Δ = some Δ' ∧ E.nx Δ' m) E.ex) (hs1 : swapsWithSole [tg] e pos.line c.X.env = pure false := by rfl) (hw : swappedStores [tg] e c.X.env = pure none := by rfl)
    (h1 : (assignEach [tg] c.X.env).map (·.2) = [assign tg c.X.env] := by rfl) : CS c (.Assign [tg] e pos) Δ μ E := by
  intro σ H ok hs Ev S
  obtain ⟨t, pg, ht⟩ := hg.ex
  refine ⟨_, ps_asg pe_w pg hs1 hw h1, h σ H ok hs _ (fun v d m H' ev dt ⟨Δ', e1, q⟩ => ?_) (S.want ok)⟩
  exact ht v d σ H' Δ Δ' m Ev.nx (ok.evo ev) dt e1 fun σ' ok' => S.nx _ _ _ _ ev ok' q
/-- a, b = x, y -/
theorem CS.par {i j : Nat} {x y : Str} {px py pt : Pos} {kt k2 pt2} (hc : c.X.calm = true) (hN : c.X.N.Nodup) (hi : c.X.N[i]? = some x) (hj : c.X.N[j]? = some y) (hij : i ≠ j)
    (hx : c.X.env.scope.names.lookup x = some .local) (hy : c.X.env.scope.names.lookup y = some .local) (h : CA c [a, b] Δ μ (fun ds m => ∃ d1 d2, ds = [d1, d2] ∧ E.nx ((Δ.set i (some d1)).set j (some d2)) m) E.ex)
    (hw : swappedStores [.Tuple [.Name x px, .Name y py] kt pt] (.Tuple [a, b] k2 pt2) c.X.env = pure (some [x, y]))
    (hs1 : swapsWithSole [.Tuple [.Name x px, .Name y py] kt pt] (.Tuple [a, b] k2 pt2) pos.line c.X.env = pure false := by rfl) :
    CS c (.Assign [.Tuple [.Name x px, .Name y py] kt pt] (.Tuple [a, b] k2 pt2) pos) Δ μ E := by
  intro σ H ok hs Ev S
  refine ⟨_, ps_par hc hN hi hj hij hx hy pa_w hw hs1, h σ H ok hs _ (fun vs ds m H' ev dt ⟨d1, d2, e1, q⟩ => ?_) (S.want ok)⟩
  subst e1
  cases dt with
  | cons t1 r =>
    cases r with
    | cons t2 r =>
      cases r
      exact ⟨_, _, rfl, S.nx _ _ _ _ ev (((ok.evo ev).set i t1).set j t2) q⟩
/-- o[i] = e, o a list that changes -/
theorem CS.setIx {o i : Expr} {p : Pos} (h : CE c e Δ μ (fun d m => CE c o Δ m (fun d1 m1 => CE c i Δ m1 (fun d2 m2 => ∃ l ds j n, d1 = .loc l ∧ m2 l = some (.l ds) ∧ d2 = .int j ∧ ixN ds.length j = some n ∧ E.nx Δ (m2.set l (.l (ds.set n d)))) E.ex) E.ex) E.ex)
    (ha : ∀ v, assign (.Subscript o i p) c.X.env v = (do
      let ov ← holding [v] (eval o c.X.env)
      let iv ← holding [v, ov] (eval i c.X.env)
      standAt p
      holding [v, ov, iv] (setItem ov iv v)
      release [v, ov, iv] []) := by intro _; rfl)
    (hs1 : swapsWithSole [.Subscript o i p] e pos.line c.X.env = pure false := by rfl) (hw : swappedStores [.Subscript o i p] e c.X.env = pure none := by rfl)
    (h1 : (assignEach [.Subscript o i p] c.X.env).map (·.2) = [assign (.Subscript o i p) c.X.env] := by rfl) : CS c (.Assign [.Subscript o i p] e pos) Δ μ E := by
  intro σ H ok hs Ev S
  refine ⟨_, ps_asg pe_w (pg_sub pe_w pe_w set_list ha) hs1 hw h1, h σ H ok hs _ (fun v d m H1 e1 t1 q => ?_) (S.want ok)⟩
  refine q σ H1 (ok.evo e1) e1.s _ (fun v2 d2 m2 H2 e2 t2 q2 => ?_) ((S.want ok).evo e1)
  refine q2 σ H2 (ok.evo (e1.trans e2)) e2.s _ (fun v3 d3 m3 H3 e3 t3 q3 => ?_) ((S.want ok).evo (e1.trans e2))
  obtain ⟨l, ds, j, n, z1, hm, z2, hn, q⟩ := q3
  subst z1; subst z2
  cases t2; cases t3
  obtain ⟨xs, hx, hd⟩ := e3.s l _ hm
  have hv : Dt c.K m3 H3 v d := (e2.trans e3).dt t1
  have k := keeps_set (m := .l (ds.set n d)) (o := .lst (xs.set n v)) e3.s hm
  have ev := evo_set (m := .l (ds.set n d)) (o := .lst (xs.set n v)) e3.s hm ⟨_, upd_same, (hd.set hv n).keep k⟩
  have eF := ((e1.trans e2).trans e3).trans ev
  exact ⟨l, xs, j, n, rfl, rfl, hx, by rw [hd.length]; exact hn, S.nx _ _ _ _ eF (ok.evo eF) q⟩

/-! ### attributes -/
/-- what may be asked of an instance -/
def InsAt (m : Mu) (d : D) (C : Addr) (fs : List (Str × D)) : Prop := d = .ins C fs ∨ ∃ p, d = .loc p ∧ m p = some (.o C fs)
theorem InsAt.at {K : PySem.W.Frag} {m : Mu} {H : Hp} {d : D} {C : Addr} {fs : List (Str × D)} {v : V} (h : InsAt m d C fs) (hs : HS K m H) (t : Dt K m H v d) : ∃ p dx gs, v = .ref p ∧ H p = some (.ins C dx gs) ∧ Dfs K m H gs fs := by
  rcases h with rfl | ⟨p, rfl, hm⟩
  · cases t with
    | ins h1 h2 h3 => exact ⟨_, _, _, rfl, h1, h3⟩
  · cases t
    obtain ⟨dx, gs, h1, h2⟩ := hs p _ hm
    exact ⟨p, dx, gs, rfl, h1, h2⟩
theorem CE.fld {f : Str} (h : CE c e Δ μ (fun d m => ∃ C fs v, InsAt m d C fs ∧ Cls c.K C ∧ NoAttr c.K C f ∧ lookF f fs = some v ∧ Q v m) Ex) (hb : attributeBase e f c.X.env (eval e c.X.env) = eval e c.X.env := by rfl) : CE c (.Attribute e f pos) Δ μ Q Ex := by
  intro σ H ok hs QV hQ hX
  refine ⟨_, pe_fld pe_w hb, h σ H ok hs _ (fun x d m H' ev t ⟨C, fs, v, hi, hc, hn, hl, q⟩ => ?_) hX⟩
  obtain ⟨p, dx, gs, z, h1, h2⟩ := hi.at ev.s t
  obtain ⟨u, h3, h4⟩ := h2.look hl
  exact ⟨p, C, dx, gs, u, z, h1, hc, hn, h3, hQ _ _ _ _ ev h4 q⟩
theorem CS.fld {o : Expr} {f : Str} {p : Pos} (h : CE c e Δ μ (fun d m => CE c o Δ m (fun d1 m1 => ∃ C fs a, d1 = .loc a ∧ m1 a = some (.o C fs) ∧ Cls c.K C ∧ NoAttr c.K C f ∧ fs.length < 1000 ∧ E.nx Δ (m1.set a (.o C (setF f d fs)))) E.ex) E.ex)
    (hsw : swapsWith e (some (.Attribute o f p)) pos.line c.X.env = pure false := by rfl) : CS c (.Assign [.Attribute o f p] e pos) Δ μ E := by
  intro σ H ok hs Ev S
  refine ⟨_, ps_fld pe_w pe_w hsw, h σ H ok hs _ (fun v d m H1 e1 t1 q => ?_) (S.want ok)⟩
  refine q σ H1 (ok.evo e1) e1.s _ (fun v2 d2 m2 H2 e2 t2 q2 => ?_) ((S.want ok).evo e1)
  obtain ⟨C, fs, a, z, hm, hc, hn, hl, q⟩ := q2
  subst z
  cases t2
  obtain ⟨dx, gs, h1, h2⟩ := e2.s a _ hm
  have k := keeps_set (m := .o C (setF f d fs)) (o := .ins C dx (putF f v gs)) e2.s hm
  have ev := evo_set (m := .o C (setF f d fs)) (o := .ins C dx (putF f v gs)) e2.s hm ⟨_, _, upd_same, (Dfs.put (e2.dt t1) h2).keep k⟩
  have eF := (e1.trans e2).trans ev
  exact ⟨a, C, dx, gs, rfl, h1, hc, hn, by rw [h2.length]; exact hl, S.nx _ _ _ _ eF (ok.evo eF) q⟩
/-- o.f += e of ints -/
theorem CS.fldAdd {o : Expr} {f : Str} {p : Pos} (h : CE c o Δ μ (fun d1 m => ∃ C fs a i, d1 = .loc a ∧ m a = some (.o C fs) ∧ Cls c.K C ∧ NoAttr c.K C f ∧ lookF f fs = some (.int i) ∧ fs.length < 1000 ∧
      CE c e Δ m (fun d2 m1 => ∃ j, d2 = .int j ∧ m1 a = some (.o C fs) ∧ E.nx Δ (m1.set a (.o C (setF f (.int (i + j)) fs)))) E.ex) E.ex) : CS c (.AugAssign (.Attribute o f p) .Add e pos) Δ μ E := by
  intro σ H ok hs Ev S
  refine ⟨_, ps_fldaug pe_w pe_w in_add, h σ H ok hs _ (fun v d m H1 e1 t1 q => ?_) (S.want ok)⟩
  obtain ⟨C, fs, a, i, z, hm, hc, hn, hk, hl, q⟩ := q
  subst z
  cases t1
  obtain ⟨dx, gs, h1, h2⟩ := e1.s a _ hm
  obtain ⟨u, h3, h4⟩ := h2.look hk
  cases h4
  refine ⟨a, C, dx, gs, _, rfl, h1, hc, hn, h3, ?_⟩
  refine q σ H1 (ok.evo e1) e1.s _ (fun v2 d2 m2 H2 e2 t2 q2 => ?_) ((S.want ok).evo e1)
  obtain ⟨j, z, hm2, q⟩ := q2
  subst z
  cases t2
  obtain ⟨dx2, gs2, h5, h6⟩ := e2.s a _ hm2
  have k := keeps_set (m := .o C (setF f (.int (i + j)) fs)) (o := .ins C dx2 (putF f (.int (i + j)) gs2)) e2.s hm2
  have ev := evo_set (m := .o C (setF f (.int (i + j)) fs)) (o := .ins C dx2 (putF f (.int (i + j)) gs2)) e2.s hm2 ⟨_, _, upd_same, (Dfs.put (.int (i + j)) h6).keep k⟩
  have eF := (e1.trans e2).trans ev
  exact ⟨i, j, rfl, rfl, dx2, gs2, h5, by rw [h6.length]; exact hl, S.nx _ _ _ _ eF (ok.evo eF) q⟩

/-! ### what defs promise -/
abbrev SpD := List D → Mu → (D → Mu → Prop) → (Addr → Option (List (Str × D)) → Mu → Prop) → Prop
def toSp (K : PySem.W.Frag) (s : SpD) : Sp := fun vs H QV EV => ∃ ds μ Q Ex, Dts K μ H vs ds ∧ HS K μ H ∧ s ds μ Q Ex ∧ (∀ v d μ' H', Evo K μ H μ' H' → Dt K μ' H' v d → Q d μ' → QV v H') ∧
  ∀ cls dict C o μ' H', Evo K μ H μ' H' → XAt K μ' H' cls dict C o → Ex C o μ' → EV cls dict H'
end

section
variable {P : Program} {w : World} {K : PySem.W.Frag} {mg : Str → Option Value} {base : Heap}
/-- the context of a def's body -/
def dctx (P : Program) (w : World) (K : PySem.W.Frag) (mg : Str → Option Value) (base : Heap) (N : List Str) (qual : Str) (sc : Scope) (f : Addr) (cdv : Value) (A : Around) (outer : List Env) (s : Shared) (H : Hp) (E : XK) : Ctx :=
  ⟨cxOf (L2.CX P w) P w K mg base N qual sc f cdv A outer s H E, fun cls d _ H' => E cls d H', takes_of rfl rfl rfl rfl, passes_of rfl⟩
/-- the same where nothing may leave it -/
def nctx (P : Program) (w : World) (K : PySem.W.Frag) (mg : Str → Option Value) (base : Heap) (N : List Str) (qual : Str) (sc : Scope) (f : Addr) (cdv : Value) (A : Around) (outer : List Env) (s : Shared) (H : Hp) (E : XK) : Ctx :=
  ⟨(cxOf CX0 P w K mg base N qual sc f cdv A outer s H E).nox, fun _ _ _ _ => False, takes0, PassesOwn.never⟩
def startD (N : List Str) (ds : List D) : Sl := ds.map some ++ List.replicate (N.length - ds.length) none
theorem ok_start {μ : Mu} {H : Hp} {N : List Str} : ∀ {vs : List V} {ds : List D}, Dts K μ H vs ds → OkS K μ H (L2.start N vs) (startD N ds) := by
  intro vs ds h
  unfold L2.start startD
  refine ⟨by simp [h.length], fun i d q => ?_⟩
  by_cases hi : i < ds.length
  · rw [List.getElem?_append_left (by simpa using hi), List.getElem?_map] at q
    cases e : ds[i]? with
    | none => rw [e] at q; cases q
    | some d' =>
      rw [e] at q
      cases q
      obtain ⟨v, h1, h2⟩ := h.get e
      refine ⟨v, ?_, h2⟩
      have hl := h.length
      rw [List.getElem?_append_left (by simp; omega), List.getElem?_map, h1]; rfl
  · rw [List.getElem?_append_right (by simp; omega)] at q
    rw [List.getElem?_replicate] at q
    split at q <;> cases q
abbrev FnD (P : Program) (w : World) (K : PySem.W.Frag) (mg : Str → Option Value) (base : Heap) (CX : CXT) (k : Nat) (f : Addr) (fd : FuncData) (ps : List Str) (s : SpD) : Prop := FnOk P w K mg base CX k f fd ps (toSp K s)
theorem okD {x qual : Str} {st : Stmt} {f : Addr} {fd : FuncData} {N ps : List Str} {k : Nat} {s : SpD} (F : Fun K x qual st f fd) (S : FnScope N ps (defScope st)) (len : ∀ ds m Q E, s ds m Q E → ds.length = ps.length)
    (body : ∀ (cdv : Value) (A : Around) (outer : List Env) (s0 : Shared) (H : Hp) (E : XK), Room k (A.deeper (envOfC qual (defScope st) s0.heap.objs.size f cdv)) → ∀ ds m Q Ex, s ds m Q Ex →
      CSs (dctx P w K mg base N qual (defScope st) f cdv A outer s0 H E) (defBody st) (startD N ds) m { nx := fun _ m => Q .non m, rt := Q, ex := fun C o _ m => Ex C o m }) : FnD P w K mg base (L2.CX P w) (k + 1) f fd ps s := by
  refine F.okX S (fun vs H Q E ⟨ds, m, _, _, h1, _, h2, _⟩ => h1.length.trans (len _ _ _ _ h2)) (fun cdv A outer s0 H vs QV E hr ⟨ds, m, Q, Ex, h1, h2, h3, h4, h5⟩ => ?_)
  exact body cdv A outer s0 H E hr ds m Q Ex h3 (L2.start N vs) H (ok_start h1) h2 { nx := fun _ H' => QV .non H', rt := QV }
    ⟨fun _ _ m' H' e _ q => h4 _ _ m' H' e .non q, h4, fun _ _ _ _ _ _ z => z.elim, fun _ _ _ _ _ _ z => z.elim, fun x y C o _ _ m' H' e _ z q => h5 x y C o m' H' e z q⟩
theorem okN {x qual : Str} {st : Stmt} {f : Addr} {fd : FuncData} {N ps : List Str} {k : Nat} {s : SpD} (F : Fun K x qual st f fd) (S : FnScope N ps (defScope st)) (len : ∀ ds m Q E, s ds m Q E → ds.length = ps.length)
    (body : ∀ (cdv : Value) (A : Around) (outer : List Env) (s0 : Shared) (H : Hp) (E : XK), Room k (A.deeper (envOfC qual (defScope st) s0.heap.objs.size f cdv)) → ∀ ds m Q Ex, s ds m Q Ex →
      CSs (nctx P w K mg base N qual (defScope st) f cdv A outer s0 H E) (defBody st) (startD N ds) m { nx := fun _ m => Q .non m, rt := Q }) : FnD P w K mg base CX0 (k + 1) f fd ps s := by
  refine F.ok S (fun vs H Q E ⟨ds, m, _, _, h1, _, h2, _⟩ => h1.length.trans (len _ _ _ _ h2)) (fun cdv A outer s0 H vs QV E hr ⟨ds, m, Q, Ex, h1, h2, h3, h4, h5⟩ => ?_)
  exact body cdv A outer s0 H E hr ds m Q Ex h3 (L2.start N vs) H (ok_start h1) h2 { nx := fun _ H' => QV .non H', rt := QV }
    ⟨fun _ _ m' H' e _ q => h4 _ _ m' H' e .non q, h4, fun _ _ _ _ _ _ z => z.elim, fun _ _ _ _ _ _ z => z.elim, fun x y C o _ _ m' H' e _ z q => q.elim⟩
end

section
variable {c : Ctx} {e a b : Expr} {es : List Expr} {Δ : Sl} {μ : Mu} {Q Q' : D → Mu → Prop} {QB QB' : Bool → Mu → Prop} {QA QA' : List D → Mu → Prop} {Ex Ex' : XD} {pos p apos : Pos} {E E' : DE} {st : Stmt} {sts : List Stmt}
variable {k : Nat} {f C : Addr} {fd : FuncData} {ps : List Str} {s : SpD} {x m : Str} {CXc : CXT}
/-- how a callee's exceptions reach a wish -/
def CXOk (c : Ctx) (CXc : CXT) : Prop := ∀ σ, PassesAt CXc c.X σ (WE c.W σ)
theorem cxL : CXOk c (L2.CX c.X.prog c.X.w) := fun σ => passAt c.tk σ
/-- a def of the module under the name x: what callers want of it -/
structure Fn (c : Ctx) (x : Str) (k : Nat) (s : SpD) : Prop where
  ex : ∃ (CXc : CXT) (f : Addr) (fd : FuncData) (ps : List Str), CXOk c CXc ∧ FnD c.X.prog c.X.w c.K c.X.mg c.X.base CXc k f fd ps s ∧ c.X.mg x = some (.ref f) ∧ PySem.W.keepIn c.K (.ref f) = true ∧ Binds c.K fd ps []
theorem toSp_of {K : PySem.W.Frag} {ds : List D} {m : Mu} {H : Hp} {vs : List V} {QV : VK} {EV : XK} {Ex : Addr → Option (List (Str × D)) → Mu → Prop} (t : Dts K m H vs ds) (hs : HS K m H) (h : s ds m Q Ex) (h1 : ∀ v d μ' H', Evo K m H μ' H' → Dt K μ' H' v d → Q d μ' → QV v H')
    (h2 : ∀ cls dict C o μ' H', Evo K m H μ' H' → XAt K μ' H' cls dict C o → Ex C o μ' → EV cls dict H') : toSp K s vs H QV EV := ⟨ds, m, Q, Ex, t, hs, h, h1, h2⟩
theorem CE.call (F : Fn c x k s) (hr : Room k c.X.A) (h : CA c (e :: es) Δ μ (fun ds m => s ds m Q (fun C o m' => Ex C o Δ m')) Ex) (hg : Gl c.X x := by rfl) (hdb : (x == ("__debug__" : Str)) = false := by decide)
    (he : starEach (e :: es) c.X.env = (false, eval e c.X.env) :: starEach es c.X.env := by rfl) (hpl : (backTo pos (starEach es c.X.env)).any (·.1) = false := by rfl) : CE c (.Call (.Name x p) (e :: es) [] pos) Δ μ Q Ex := by
  intro σ H ok hs QV hQ hX
  obtain ⟨CXc, f, fd, ps, hx, G, hm, hk, hb⟩ := F.ex
  refine ⟨_, pe_callS G hr hg hm hk hb hx pa_w hdb he hpl, h σ H ok hs _ (fun vs ds m H' ev t q => ?_) hX⟩
  exact toSp_of t ev.s q (WantV.evo hQ ev) (hX.evo ev)
theorem run_fnS0 {pins : List (Addr × Obj)} {σ : L2.St} {H : Hp} {s0 : Shared} {QV : VK} (G : FnD c.X.prog c.X.w c.K c.X.mg c.X.base CXc k f fd ps s) (hr : Room k c.X.A) (hb : Binds c.K fd ps []) (hx : CXOk c CXc) (I : Inv c.X pins σ H s0) (h : toSp c.K s [] H QV (WE c.W σ)) :
    wpAny (model c.X.prog c.X.w) c.X.A (call (.ref f) []) (EP c.X pins σ QV) c.X.xe s0 := run_fnS (E := WE c.W) G hr hb (hx σ) I .nil h
theorem CE.call0 (F : Fn c x k s) (hr : Room k c.X.A) (h : s [] μ Q (fun C o m' => Ex C o Δ m')) (hg : Gl c.X x := by rfl) (hdb : (x == ("__debug__" : Str)) = false := by decide) : CE c (.Call (.Name x p) [] [] pos) Δ μ Q Ex := by
  intro σ H ok hs QV hQ hX
  obtain ⟨CXc, f, fd, ps, hx, G, hm, hk, hb⟩ := F.ex
  refine ⟨fun σ H QV => toSp c.K s [] H QV (WE c.W σ), ⟨fun pins s0 σ H QV I h => ?_⟩, toSp_of .nil hs h hQ hX⟩
  refine wpAny_Call_Name_kw (ld_glob I hg hm ?_ hdb)
  exact PySem.W.callWith_K0 I.kIn hk (run_fnS0 G hr hb hx I h)
/-- a method of the class at C -/
structure Mth (c : Ctx) (C : Addr) (m : Str) (k : Nat) (s : SpD) : Prop where
  ex : ∃ (CXc : CXT) (f : Addr) (fd : FuncData) (ps : List Str), CXOk c CXc ∧ FnD c.X.prog c.X.w c.K c.X.mg c.X.base CXc k f fd ps s ∧ Meth c.K C m f ∧ Binds c.K fd ps []
  cl : Cls c.K C
theorem CE.meth {o : Expr} {pl : Sem Bool} (F : Mth c C m k s) (hr : Room k c.X.A) (h : CE c o Δ μ (fun d m1 => ∃ fs, InsAt m1 d C fs ∧ lookF m fs = none ∧ CA c (e :: es) Δ m1 (fun ds m' => s (d :: ds) m' Q (fun C o m' => Ex C o Δ m')) Ex) Ex)
    (hst : starEach (e :: es) c.X.env = (false, eval e c.X.env) :: starEach es c.X.env := by rfl) (hpl : (backTo pos (starEach es c.X.env)).any (·.1) = false := by rfl)
    (ht : eval (.Call (.Attribute o m apos) (e :: es) [] pos) c.X.env = (do
      let ov ← eval o c.X.env
      standAt apos.atName
      let (f, first) ← holding [ov] (getMethod ov m pl)
      callWith pos f first (backTo pos (starEach (e :: es) c.X.env)) (backToKw pos (keywordEach [] c.X.env))) := by rfl) : CE c (.Call (.Attribute o m apos) (e :: es) [] pos) Δ μ Q Ex := by
  intro σ H ok hs QV hQ hX
  obtain ⟨CXc, f, fd, ps, hx, G, hm, hb⟩ := F.ex
  refine ⟨fun σ H QV => wE c.X o σ H fun x H1 => ∃ a dx fs, x = .ref a ∧ H1 a = some (.ins C dx fs) ∧ fs.lookup m = none ∧ wA c.X (e :: es) σ H1 fun vs H2 => toSp c.K s (x :: vs) H2 QV (WE c.W σ), ⟨fun pins s0 σ H QV I h => ?_⟩, ?_⟩
  · refine PySem.W.methodCall_KW (pl := pl) (thn (pe_w.run pins s0 σ H _ I h) fun u s1 ⟨x, H1, I1, rx, a, dx, fs, ex, ea, l, q⟩ => ?_) ht
    subst ex
    obtain rfl : u = Value.ref a := rx
    refine getmeth_ok I1 ea F.cl hm l ?_
    refine PySem.W.callWith_K (first := [.ref a]) (h₀ := c.X.base) I.ok.mod.kin hm.kp (thn (pa_w.run pos pins s1 σ H1 _ I1 q) fun us s2 ⟨vs, H2, I2, r, q2⟩ => ⟨I2.kIn, ?_⟩) hst hpl
    exact run_fnS (us := .ref a :: us) (vs := .ref a :: vs) (E := WE c.W) G hr hb (hx σ) I2 (.cons rfl r) q2
  · refine h σ H ok hs _ (fun v d m1 H1 ev t ⟨fs, hi, hl, q⟩ => ?_) hX
    obtain ⟨p, dx, gs, z, h1, h2⟩ := hi.at ev.s t
    subst z
    refine ⟨p, dx, gs, rfl, h1, h2.look0 hl, q σ H1 (ok.evo ev) ev.s _ (fun vs ds m2 H2 e2 t2 q2 => ?_) (hX.evo ev)⟩
    exact toSp_of (.cons (e2.dt t) t2) e2.s q2 (WantV.evo hQ (ev.trans e2)) (hX.evo (ev.trans e2))
theorem CE.meth0 {o : Expr} {pl : Sem Bool} (F : Mth c C m k s) (hr : Room k c.X.A) (h : CE c o Δ μ (fun d m1 => ∃ fs, InsAt m1 d C fs ∧ lookF m fs = none ∧ s [d] m1 Q (fun C o m' => Ex C o Δ m')) Ex)
    (ht : eval (.Call (.Attribute o m apos) [] [] pos) c.X.env = (do
      let ov ← eval o c.X.env
      standAt apos.atName
      let (f, first) ← holding [ov] (getMethod ov m pl)
      callWith pos f first (backTo pos (starEach [] c.X.env)) (backToKw pos (keywordEach [] c.X.env))) := by rfl) : CE c (.Call (.Attribute o m apos) [] [] pos) Δ μ Q Ex := by
  intro σ H ok hs QV hQ hX
  obtain ⟨CXc, f, fd, ps, hx, G, hm, hb⟩ := F.ex
  refine ⟨fun σ H QV => wE c.X o σ H fun x H1 => ∃ a dx fs, x = .ref a ∧ H1 a = some (.ins C dx fs) ∧ fs.lookup m = none ∧ toSp c.K s [x] H1 QV (WE c.W σ), ⟨fun pins s0 σ H QV I h => ?_⟩, ?_⟩
  · refine PySem.W.methodCall_KW (pl := pl) (thn (pe_w.run pins s0 σ H _ I h) fun u s1 ⟨x, H1, I1, rx, a, dx, fs, ex, ea, l, q⟩ => ?_) ht
    subst ex
    obtain rfl : u = Value.ref a := rx
    refine getmeth_ok I1 ea F.cl hm l ?_
    exact PySem.W.callWith_K0 (first := [.ref a]) I1.kIn hm.kp (run_fnS (us := [.ref a]) (vs := [.ref a]) (E := WE c.W) G hr hb (hx σ) I1 (.cons rfl .nil) q)
  · refine h σ H ok hs _ (fun v d m1 H1 ev t ⟨fs, hi, hl, q⟩ => ?_) hX
    obtain ⟨p, dx, gs, z, h1, h2⟩ := hi.at ev.s t
    subst z
    exact ⟨p, dx, gs, rfl, h1, h2.look0 hl, toSp_of (.cons t .nil) ev.s q (WantV.evo hQ ev) (hX.evo ev)⟩
/-- a property -/
theorem CE.prop {g : Str} (hp : ∃ pa fa fd ps, PropOf c.K C g pa fa ∧ FnD c.X.prog c.X.w c.K c.X.mg c.X.base (L2.CX c.X.prog c.X.w) k fa fd ps s ∧ Binds c.K fd ps []) (hcl : Cls c.K C) (hr : Room (k + 1) c.X.A)
    (h : CE c e Δ μ (fun d m1 => ∃ fs, InsAt m1 d C fs ∧ s [d] m1 Q (fun _ _ _ => False)) Ex) (hab : attributeBase e g c.X.env (eval e c.X.env) = eval e c.X.env := by rfl) : CE c (.Attribute e g pos) Δ μ Q Ex := by
  intro σ H ok hs QV hQ hX
  obtain ⟨pa, fa, fd, ps, hpr, G, hb⟩ := hp
  refine ⟨_, pe_prop pe_w hcl hpr G hr hb .nil (passL (X := c.X.nox)) hab, h σ H ok hs _ (fun v d m1 H1 ev t ⟨fs, hi, q⟩ => ?_) hX⟩
  obtain ⟨p, dx, gs, z, h1, h2⟩ := hi.at ev.s t
  subst z
  exact ⟨p, dx, gs, rfl, h1, toSp_of (.cons t .nil) ev.s q (WantV.evo hQ ev) (fun _ _ _ _ _ _ _ _ z => z.elim)⟩
/-- C(..) -/
structure Cns (c : Ctx) (x : Str) (C : Addr) (k : Nat) (s : SpD) : Prop where
  ex : ∃ (CXc : CXT) (f : Addr) (fd : FuncData) (ps : List Str), CXOk c CXc ∧ FnD c.X.prog c.X.w c.K c.X.mg c.X.base CXc k f fd ps s ∧ Mk c.K C f ∧ c.X.mg x = some (.ref C) ∧ Binds c.K fd ps []
theorem CE.make (F : Cns c x C k s) (hr : Room (k + 1) c.X.A)
    (h : CA c (e :: es) Δ μ (fun ds m1 => ∀ p, m1 p = none → s (.loc p :: ds) (m1.set p (.o C [])) (fun d m2 => d = .non ∧ Q (.loc p) m2) (fun C o m' => Ex C o Δ m')) Ex) (hg : Gl c.X x := by rfl) (hdb : (x == ("__debug__" : Str)) = false := by decide)
    (he : starEach (e :: es) c.X.env = (false, eval e c.X.env) :: starEach es c.X.env := by rfl) (hpl : (backTo pos (starEach es c.X.env)).any (·.1) = false := by rfl) : CE c (.Call (.Name x p) (e :: es) [] pos) Δ μ Q Ex := by
  intro σ H ok hs QV hQ hX
  obtain ⟨CXc, f, fd, ps, hx, G, M, hm, hb⟩ := F.ex
  refine ⟨fun σ H QV => wA c.X (e :: es) σ H fun vs H1 => ∀ x dx, H1 x = none → H1 dx = none → dx ≠ x → toSp c.K s (.ref x :: vs) (upd (upd H1 dx (.own x)) x (.ins C dx [])) (fun v H2 => v = .non ∧ QV (.ref x) H2) (WE c.W σ), ⟨fun pins s0 σ H QV I h => ?_⟩, ?_⟩
  · refine wpAny_Call_Name_kw (ld_glob I hg hm ?_ hdb)
    refine PySem.W.callWith_K (h₀ := c.X.base) I.ok.mod.kin M.kp (thn (pa_w.run pos pins s0 σ H _ I h) fun us s1 ⟨vs, H1, I1, r, q⟩ => ⟨I1.kIn, ?_⟩) he hpl
    have hq := q (s1.heap.objs.size + 1) s1.heap.objs.size (I1.hok.fresh (Nat.le_succ _)) (I1.hok.fresh (Nat.le_refl _)) (Nat.ne_of_lt (Nat.lt_succ_self _))
    have I2 := Inv.made (C := C) I1
    have r2 : Vals (V.ref (s1.heap.objs.size + 1) :: vs) (Value.ref (s1.heap.objs.size + 1) :: us) := .cons rfl r
    have hl : (Value.ref (s1.heap.objs.size + 1) :: us ++ []).length = ps.length := by
      have e := r2.length
      rw [G.len _ _ _ _ hq] at e
      rw [List.append_nil]
      exact e.symm
    have hbb := hb _ (Value.ref (s1.heap.objs.size + 1) :: us) I2.kIn hl
    rw [List.append_nil] at hbb
    refine wpAny_call (make_map (f := f) I1.kIn M.makes M.init (beq_iff_eq.mp M.fn) (codeAny_mono (G.run _ c.X.stack _ _ ⟨Value.ref (s1.heap.objs.size + 1) :: us, []⟩ (Value.ref (s1.heap.objs.size + 1) :: us) _ _ (WE c.W σ) (hr.make C us [])
      (I2.env0.make C us []) hbb r2 hq) fun r s' hq' => ?_))
    cases r with
    | error e => exact hx σ pins _ _ e s' I2 hq'
    | ok fl =>
      cases fl with
      | ret u =>
        obtain ⟨v, H', I3, rv, ev, q3⟩ := I2.after hq'
        subst ev
        exact ⟨rv, ⟨V.ref (s1.heap.objs.size + 1), H', I3, rfl, q3⟩⟩
      | next => exact False.elim hq'
      | brk => exact False.elim hq'
      | cont => exact False.elim hq'
  · refine h σ H ok hs _ (fun vs ds m1 H1 ev t q => ?_) hX
    intro p dx hp hdx hne
    have e1 : Evo c.K m1 H1 m1 (upd H1 dx (.own p)) := evo_same ev.s (same_new hdx)
    have hp1 : (upd H1 dx (.own p)) p = none := by rw [upd_ne (Ne.symm hne)]; exact hp
    have e2 : Evo c.K m1 (upd H1 dx (.own p)) (m1.set p (.o C [])) (upd (upd H1 dx (.own p)) p (.ins C dx [])) := evo_new (m := .o C []) e1.s (same_new hp1) hp1 ⟨dx, [], upd_same, .nil⟩
    have e3 := e1.trans e2
    refine toSp_of (.cons (.loc p) (e3.dts t)) e3.s (q p (ev.s.none hp)) (fun v d m2 H2 e4 t2 ⟨z, q2⟩ => ?_) (hX.evo (ev.trans e3))
    subst z
    cases t2
    exact ⟨rfl, hQ _ _ _ _ ((ev.trans e3).trans e4) (.loc p) q2⟩
theorem CE.freezeO (h : CE c e Δ μ (fun d m => ∃ p C fs, d = .loc p ∧ m p = some (.o C fs) ∧ Q (.ins C fs) (m.del p)) Ex) : CE c e Δ μ Q Ex := fun σ H ok hs QV hQ hX =>
  h σ H ok hs QV (fun v d m H' ev dt ⟨p, C, fs, z, hm, q⟩ => by
    subst z
    cases dt
    exact hQ _ _ _ _ (ev.trans (evo_del ev.s)) (frozen_o ev.s hm) q) hX
end
end AM

set_option autoImplicit false
set_option maxRecDepth 100000
set_option maxHeartbeats 1000000
namespace AM
open PySem L2 PySem.Spec PyProof.Rows
section
variable {c : Ctx} {e a b : Expr} {es : List Expr} {Δ : Sl} {μ : Mu} {Q Q' : D → Mu → Prop} {QB QB' : Bool → Mu → Prop} {QA QA' : List D → Mu → Prop} {Ex Ex' : XD} {pos p apos : Pos} {E E' : DE} {st : Stmt} {sts : List Stmt}

theorem bv_abs : bootBuiltins "abs" = some (.builtin "abs") := by decide +kernel
theorem bv_max : bootBuiltins "max" = some (.builtin "max") := by decide +kernel
theorem bv_min : bootBuiltins "min" = some (.builtin "min") := by decide +kernel
theorem bv_sum : bootBuiltins "sum" = some (.builtin "sum") := by decide +kernel
theorem bv_all : bootBuiltins "all" = some (.builtin "all") := by decide +kernel
theorem bv_isinstance : bootBuiltins "isinstance" = some (.builtin "isinstance") := by decide +kernel
theorem bv_int : bootBuiltins "int" = some (.type "int") := by decide +kernel
theorem bv_str : bootBuiltins "str" = some (.type "str") := by decide +kernel
theorem bv_list : bootBuiltins "list" = some (.type "list") := by decide +kernel
theorem bv_tuple : bootBuiltins "tuple" = some (.type "tuple") := by decide +kernel
theorem bv_bool : bootBuiltins "bool" = some (.type "bool") := by decide +kernel
theorem bv_dict : bootBuiltins "dict" = some (.type "dict") := by decide +kernel
/-! ### built-in calls by values -/
def PC1 (c : Ctx) (r : List V → Hp → VK → Prop) (ds : List D) (m : Mu) (Q : D → Mu → Prop) : Prop :=
  ∀ vs H QV, HS c.K m H → Dts c.K m H vs ds → WantV c m H Q QV → r vs H QV
theorem CE.cb {id : String} {r : List V → Hp → VK → Prop} {x : Str} (hc : CallR c.X (.builtin id) r) (hm : c.X.mg x = none) (hv : bootBuiltins x = some (.builtin id)) (h : CA c (e :: es) Δ μ (fun ds m => PC1 c r ds m Q) Ex) (hg : Gl c.X x := by rfl)
    (hn : x ≠ "__name__" := by decide) (hdb : (x == ("__debug__" : Str)) = false := by decide)
    (he : starEach (e :: es) c.X.env = (false, eval e c.X.env) :: starEach es c.X.env := by rfl) (hpl : (backTo pos (starEach es c.X.env)).any (·.1) = false := by rfl) : CE c (.Call (.Name x p) (e :: es) [] pos) Δ μ Q Ex := by
  intro σ H ok hs QV hQ hX
  refine ⟨_, pe_callB hc hg hm hv pa_w hn hdb he hpl, h σ H ok hs _ (fun vs ds m H' ev t q => ?_) hX⟩
  exact q vs H' QV ev.s t (WantV.evo hQ ev)
theorem CE.ct {T : String} {r : List V → Hp → VK → Prop} {x : Str} (hc : CallR c.X (.type T) r) (hm : c.X.mg x = none) (hv : bootBuiltins x = some (.type T)) (h : CA c (e :: es) Δ μ (fun ds m => PC1 c r ds m Q) Ex) (hg : Gl c.X x := by rfl)
    (hn : x ≠ "__name__" := by decide) (hdb : (x == ("__debug__" : Str)) = false := by decide)
    (he : starEach (e :: es) c.X.env = (false, eval e c.X.env) :: starEach es c.X.env := by rfl) (hpl : (backTo pos (starEach es c.X.env)).any (·.1) = false := by rfl) : CE c (.Call (.Name x p) (e :: es) [] pos) Δ μ Q Ex := by
  intro σ H ok hs QV hQ hX
  refine ⟨_, pe_callTy hc hg hm hv pa_w hn hdb he hpl, h σ H ok hs _ (fun vs ds m H' ev t q => ?_) hX⟩
  exact q vs H' QV ev.s t (WantV.evo hQ ev)

/-- the items of what has items: a list, a tuple, a list that changes -/
def SeqD (m : Mu) (d : D) (ds : List D) : Prop := d = .tup ds ∨ d = .lst ds ∨ ∃ l, d = .loc l ∧ m l = some (.l ds)
theorem SeqD.at {K : PySem.W.Frag} {m : Mu} {H : Hp} {d : D} {ds : List D} {v : V} (h : SeqD m d ds) (hs : HS K m H) (t : Dt K m H v d) : ∃ q xs, v = .ref q ∧ (SqL K H q xs ∨ SqT K H q xs) ∧ Dts K m H xs ds := by
  rcases h with rfl | rfl | ⟨l, rfl, hm⟩
  · cases t with
    | tup h1 h2 => exact ⟨_, _, rfl, .inr h1, h2⟩
  · cases t with
    | lst h1 h2 => exact ⟨_, _, rfl, .inl h1.sq, h2⟩
  · cases t
    obtain ⟨xs, h1, h2⟩ := hs l _ hm
    exact ⟨l, xs, rfl, .inl (.inl (.inl h1)), h2⟩
/-- a list, changing or not -/
def LstD (m : Mu) (d : D) (ds : List D) : Prop := d = .lst ds ∨ ∃ l, d = .loc l ∧ m l = some (.l ds)
theorem LstD.at {K : PySem.W.Frag} {m : Mu} {H : Hp} {d : D} {ds : List D} {v : V} (h : LstD m d ds) (hs : HS K m H) (t : Dt K m H v d) : ∃ q xs, v = .ref q ∧ SqL K H q xs ∧ Dts K m H xs ds := by
  rcases h with rfl | ⟨l, rfl, hm⟩
  · cases t with
    | lst h1 h2 => exact ⟨_, _, rfl, h1.sq, h2⟩
  · cases t
    obtain ⟨xs, h1, h2⟩ := hs l _ hm
    exact ⟨l, xs, rfl, .inl (.inl h1), h2⟩
theorem LstD.seq {m : Mu} {d : D} {ds : List D} (h : LstD m d ds) : SeqD m d ds := h.elim (fun h => .inr (.inl h)) fun h => .inr (.inr h)
theorem CE.len (hm : c.X.mg "len" = none) (h : CE c e Δ μ (fun d m => ∃ ds, SeqD m d ds ∧ Q (.int ds.length) m) Ex) (hg : Gl c.X "len" := by rfl)
    (he : starEach [e] c.X.env = (false, eval e c.X.env) :: starEach [] c.X.env := by rfl) (hpl : (backTo pos (starEach [] c.X.env)).any (·.1) = false := by rfl) : CE c (.Call (.Name "len" p) [e] [] pos) Δ μ Q Ex :=
  CE.cb (call_len_seq) hm PySem.boot_len (CA.cons (h.imp fun d m ⟨ds, hs, q⟩ => CA.nil fun vs H QV hH t hQ => by
    cases t with
    | cons t1 r =>
      cases r
      obtain ⟨l, xs, z, hq, h2⟩ := hs.at hH t1
      subst z
      refine ⟨l, xs, rfl, hq, ?_⟩
      rw [h2.length]
      exact hQ _ _ _ _ (Evo.refl hH) (.int _) q) he) hg (by decide) (by decide) he hpl
theorem CE.abs (hm : c.X.mg "abs" = none) (h : CE c e Δ μ (fun d m => ∃ i, d = .int i ∧ Q (.int (if i < 0 then -i else i)) m) Ex) (hg : Gl c.X "abs" := by rfl)
    (he : starEach [e] c.X.env = (false, eval e c.X.env) :: starEach [] c.X.env := by rfl) (hpl : (backTo pos (starEach [] c.X.env)).any (·.1) = false := by rfl) : CE c (.Call (.Name "abs" p) [e] [] pos) Δ μ Q Ex :=
  CE.cb (call_abs) hm bv_abs (CA.cons (h.imp fun d m ⟨i, z, q⟩ => CA.nil fun vs H QV hH t hQ => by
    subst z
    cases t with
    | cons t1 r => cases r; cases t1; exact ⟨i, rfl, hQ _ _ _ _ (Evo.refl hH) (.int _) q⟩) he) hg (by decide) (by decide) he hpl
theorem CE.intI (hm : c.X.mg "int" = none) (h : CE c e Δ μ (fun d m => (∃ i, d = .int i ∧ Q (.int i) m) ∨ (∃ k, d = .bl k ∧ Q (.int (if k then 1 else 0)) m)) Ex) (hg : Gl c.X "int" := by rfl)
    (he : starEach [e] c.X.env = (false, eval e c.X.env) :: starEach [] c.X.env := by rfl) (hpl : (backTo pos (starEach [] c.X.env)).any (·.1) = false := by rfl) : CE c (.Call (.Name "int" p) [e] [] pos) Δ μ Q Ex :=
  CE.ct (call_int1) hm bv_int (CA.cons (h.imp fun d m h => CA.nil fun vs H QV hH t hQ => by
    rcases h with ⟨i, z, q⟩ | ⟨i, z, q⟩
    · subst z
      cases t with
      | cons t1 r => cases r; cases t1; exact .inl ⟨i, rfl, hQ _ _ _ _ (Evo.refl hH) (.int _) q⟩
    · subst z
      cases t with
      | cons t1 r => cases r; cases t1; exact .inr ⟨i, rfl, hQ _ _ _ _ (Evo.refl hH) (.int _) q⟩) he) hg (by decide) (by decide) he hpl
theorem CE.intS (hm : c.X.mg "int" = none) (h : CE c e Δ μ (fun d m => ∃ i n, d = .str i ∧ PySem.intText? i = some n ∧ i.length ≤ 640 ∧ Q (.int n) m) Ex) (hg : Gl c.X "int" := by rfl)
    (he : starEach [e] c.X.env = (false, eval e c.X.env) :: starEach [] c.X.env := by rfl) (hpl : (backTo pos (starEach [] c.X.env)).any (·.1) = false := by rfl) : CE c (.Call (.Name "int" p) [e] [] pos) Δ μ Q Ex :=
  CE.ct (call_int_str) hm bv_int (CA.cons (h.imp fun d m ⟨i, n, z, h1, h2, q⟩ => CA.nil fun vs H QV hH t hQ => by
    subst z
    cases t with
    | cons t1 r => cases r; cases t1; exact ⟨i, n, rfl, h1, h2, hQ _ _ _ _ (Evo.refl hH) (.int _) q⟩) he) hg (by decide) (by decide) he hpl
def rStr : List V → Hp → VK → Prop := fun xs H Q => (∃ i, xs = [.int i] ∧ i.natAbs.log2 < 1920 ∧ Q (.str (toString i)) H) ∨ (∃ a, xs = [.str a] ∧ Q (.str a) H)
theorem CE.strA (hm : c.X.mg "str" = none) (h : CE c e Δ μ (fun d m => (∃ i, d = .int i ∧ i.natAbs.log2 < 1920 ∧ Q (.str (toString i)) m) ∨ (∃ s, d = .str s ∧ Q (.str s) m)) Ex) (hg : Gl c.X "str" := by rfl)
    (he : starEach [e] c.X.env = (false, eval e c.X.env) :: starEach [] c.X.env := by rfl) (hpl : (backTo pos (starEach [] c.X.env)).any (·.1) = false := by rfl) : CE c (.Call (.Name "str" p) [e] [] pos) Δ μ Q Ex :=
  CE.ct (r := rStr) (call_str_int.or SkE.call_str_str) hm bv_str (CA.cons (h.imp fun d m h => CA.nil fun vs H QV hH t hQ => by
    rcases h with ⟨i, z, hl, q⟩ | ⟨i, z, q⟩
    · subst z
      cases t with
      | cons t1 r => cases r; cases t1; exact .inl ⟨i, rfl, hl, hQ _ _ _ _ (Evo.refl hH) (.str _) q⟩
    · subst z
      cases t with
      | cons t1 r => cases r; cases t1; exact .inr ⟨i, rfl, hQ _ _ _ _ (Evo.refl hH) (.str _) q⟩) he) hg (by decide) (by decide) he hpl
theorem CE.max2 (hcalm : c.X.calm = true) (hm : c.X.mg "max" = none) (h : CA c [a, b] Δ μ (fun ds m => ∃ i j, ds = [.int i, .int j] ∧ Q (.int (if j > i then j else i)) m) Ex) (hg : Gl c.X "max" := by rfl)
    (he : starEach [a, b] c.X.env = (false, eval a c.X.env) :: starEach [b] c.X.env := by rfl) (hpl : (backTo pos (starEach [b] c.X.env)).any (·.1) = false := by rfl) : CE c (.Call (.Name "max" p) [a, b] [] pos) Δ μ Q Ex :=
  CE.cb (call_max2 hcalm) hm bv_max (h.imp fun d m ⟨i, j, z, q⟩ vs H QV hH t hQ => by
    subst z
    cases t with
    | cons t1 r => cases r with
      | cons t2 r => cases r; cases t1; cases t2; exact ⟨i, j, rfl, hQ _ _ _ _ (Evo.refl hH) (.int _) q⟩) hg (by decide) (by decide) he hpl
theorem CE.min2 (hcalm : c.X.calm = true) (hm : c.X.mg "min" = none) (h : CA c [a, b] Δ μ (fun ds m => ∃ i j, ds = [.int i, .int j] ∧ Q (.int (if j < i then j else i)) m) Ex) (hg : Gl c.X "min" := by rfl)
    (he : starEach [a, b] c.X.env = (false, eval a c.X.env) :: starEach [b] c.X.env := by rfl) (hpl : (backTo pos (starEach [b] c.X.env)).any (·.1) = false := by rfl) : CE c (.Call (.Name "min" p) [a, b] [] pos) Δ μ Q Ex :=
  CE.cb (call_min2 hcalm) hm bv_min (h.imp fun d m ⟨i, j, z, q⟩ vs H QV hH t hQ => by
    subst z
    cases t with
    | cons t1 r => cases r with
      | cons t2 r => cases r; cases t1; cases t2; exact ⟨i, j, rfl, hQ _ _ _ _ (Evo.refl hH) (.int _) q⟩) hg (by decide) (by decide) he hpl
theorem CE.sum (hcalm : c.X.calm = true) (hm : c.X.mg "sum" = none) (h : CE c e Δ μ (fun d m => ∃ ns : List Int, LstD m d (ns.map .int) ∧ Q (.int ns.sum) m) Ex) (hg : Gl c.X "sum" := by rfl)
    (he : starEach [e] c.X.env = (false, eval e c.X.env) :: starEach [] c.X.env := by rfl) (hpl : (backTo pos (starEach [] c.X.env)).any (·.1) = false := by rfl) : CE c (.Call (.Name "sum" p) [e] [] pos) Δ μ Q Ex :=
  CE.cb (cr_sum hcalm) hm bv_sum (CA.cons (h.imp fun d m ⟨ns, hs, q⟩ => CA.nil fun vs H QV hH t hQ => by
    cases t with
    | cons t1 r =>
      cases r
      obtain ⟨l, xs, z, hq, h2⟩ := hs.at hH t1
      subst z
      have e := h2.of_ints
      subst e
      exact ⟨l, ns, rfl, hq, hQ _ _ _ _ (Evo.refl hH) (.int _) q⟩) he) hg (by decide) (by decide) he hpl
theorem CE.all (hcalm : c.X.calm = true) (hm : c.X.mg "all" = none) (h : CE c e Δ μ (fun d m => ∃ ns : List Bool, LstD m d (ns.map .bl) ∧ Q (.bl (ns.all id)) m) Ex) (hg : Gl c.X "all" := by rfl)
    (he : starEach [e] c.X.env = (false, eval e c.X.env) :: starEach [] c.X.env := by rfl) (hpl : (backTo pos (starEach [] c.X.env)).any (·.1) = false := by rfl) : CE c (.Call (.Name "all" p) [e] [] pos) Δ μ Q Ex :=
  CE.cb (cr_all hcalm) hm bv_all (CA.cons (h.imp fun d m ⟨ns, hs, q⟩ => CA.nil fun vs H QV hH t hQ => by
    cases t with
    | cons t1 r =>
      cases r
      obtain ⟨l, xs, z, hq, h2⟩ := hs.at hH t1
      subst z
      have e := h2.of_bls
      subst e
      exact ⟨l, ns, rfl, hq, hQ _ _ _ _ (Evo.refl hH) (.bl _) q⟩) he) hg (by decide) (by decide) he hpl
/-- list(xs), as data -/
theorem CE.listOf (hm : c.X.mg "list" = none) (h : CE c e Δ μ (fun d m => ∃ ds, SeqD m d ds ∧ Q (.lst ds) m) Ex) (hg : Gl c.X "list" := by rfl)
    (he : starEach [e] c.X.env = (false, eval e c.X.env) :: starEach [] c.X.env := by rfl) (hpl : (backTo pos (starEach [] c.X.env)).any (·.1) = false := by rfl) : CE c (.Call (.Name "list" p) [e] [] pos) Δ μ Q Ex :=
  CE.ct (call_list_of) hm bv_list (CA.cons (h.imp fun d m ⟨ds, hs, q⟩ => CA.nil fun vs H QV hH t hQ => by
    cases t with
    | cons t1 r =>
      cases r
      obtain ⟨l, xs, z, hq, h2⟩ := hs.at hH t1
      subst z
      refine ⟨l, xs, rfl, hq, fun n hn => ?_⟩
      have s1 := same_new (o := .lst xs) hn
      exact hQ _ _ _ _ (evo_same hH s1) (.lst ⟨upd_same, hH.none hn⟩ (h2.keep (keeps_same s1))) q) he) hg (by decide) (by decide) he hpl
/-- tuple(xs) -/
theorem CE.tupleOf (hm : c.X.mg "tuple" = none) (h : CE c e Δ μ (fun d m => ∃ ds, SeqD m d ds ∧ Q (.tup ds) m) Ex) (hg : Gl c.X "tuple" := by rfl)
    (he : starEach [e] c.X.env = (false, eval e c.X.env) :: starEach [] c.X.env := by rfl) (hpl : (backTo pos (starEach [] c.X.env)).any (·.1) = false := by rfl) : CE c (.Call (.Name "tuple" p) [e] [] pos) Δ μ Q Ex :=
  CE.ct (call_tuple_of) hm bv_tuple (CA.cons (h.imp fun d m ⟨ds, hs, q⟩ => CA.nil fun vs H QV hH t hQ => by
    cases t with
    | cons t1 r =>
      cases r
      obtain ⟨l, xs, z, hq, h2⟩ := hs.at hH t1
      subst z
      rcases hq with hq | hq
      · refine ⟨l, xs, rfl, .inl ⟨hq, fun n hn => ?_⟩⟩
        have s1 := same_new (o := .tup xs) hn
        exact hQ _ _ _ _ (evo_same hH s1) (.tup (SqT.of upd_same) (h2.keep (keeps_same s1))) q
      · exact ⟨l, xs, rfl, .inr ⟨hq, hQ _ _ _ _ (Evo.refl hH) (.tup hq h2) q⟩⟩) he) hg (by decide) (by decide) he hpl

/-! ### isinstance of data -/
def D.tyN : D → Option String
  | .non => some "NoneType" | .bl _ => some "bool" | .int _ => some "int" | .str _ => some "str" | .tup _ => some "tuple" | .lst _ => some "list" | _ => none
theorem tyx {K : PySem.W.Frag} {m : Mu} {H : Hp} {v : V} {d : D} {n : String} (t : Dt K m H v d) (h : d.tyN = some n) : TyX K H v (.type n) := by
  cases t with
  | non => cases h; exact .base .non
  | bl b => cases h; exact .base (.bl b)
  | int b => cases h; exact .base (.int b)
  | str b => cases h; exact .base (.str b)
  | ty _ => cases h
  | loc _ => cases h
  | ins _ _ _ => cases h
  | fz _ _ => cases h
  | tup h1 _ =>
    cases h
    rcases h1 with (h1 | ⟨o, h1⟩) | ⟨o, its, n, h1, h2, _⟩
    · exact .base (.tup h1)
    · exact .fTuple h1
    · exact .kTuple h1 h2
  | lst h1 _ =>
    cases h
    exact .base (.lst h1.1)
def isT (n T : String) : Bool := n == T || (n == "bool" && T == "int")
theorem kitB_is {n T : String} (hn : n ∈ ["NoneType", "bool", "int", "str", "tuple", "list"]) (hT : T ∈ ["bool", "int", "str", "tuple", "list", "dict"]) : kitB n T = some (isT n T) := by
  have z : ∀ n ∈ ["NoneType", "bool", "int", "str", "tuple", "list"], ∀ T ∈ ["bool", "int", "str", "tuple", "list", "dict"], kitB n T = some (isT n T) := by decide +kernel
  exact z n hn T hT
theorem tyN_mem {d : D} {n : String} (h : d.tyN = some n) : n ∈ ["NoneType", "bool", "int", "str", "tuple", "list"] := by
  cases d <;> cases h <;> decide
/-- isinstance(e, T), T a built-in class -/
theorem CE.isi {T : Str} {TS : String} {p2 : Pos} (hm : c.X.mg "isinstance" = none) (hmT : c.X.mg T = none) (hvT : bootBuiltins T = some (.type TS)) (hT : TS ∈ ["bool", "int", "str", "tuple", "list", "dict"])
    (h : CE c e Δ μ (fun d m => ∃ n, d.tyN = some n ∧ Q (.bl (isT n TS)) m) Ex) (hg : Gl c.X "isinstance" := by rfl) (hgT : Gl c.X T := by rfl) (hnT : T ≠ "__name__" := by decide) (hdT : (T == ("__debug__" : Str)) = false := by decide)
    (he : starEach [e, .Name T p2] c.X.env = (false, eval e c.X.env) :: starEach [.Name T p2] c.X.env := by rfl) (he2 : starEach [.Name T p2] c.X.env = (false, eval (.Name T p2) c.X.env) :: starEach [] c.X.env := by rfl)
    (hpl : (backTo pos (starEach [.Name T p2] c.X.env)).any (·.1) = false := by rfl) : CE c (.Call (.Name "isinstance" p) [e, .Name T p2] [] pos) Δ μ Q Ex :=
  CE.cb (call_isi) hm bv_isinstance (CA.cons (h.imp fun d m ⟨n, hn, q⟩ => CA.cons (CE.k (v := .ty TS) (d := .ty TS) (pe_bltn hgT hmT hvT rfl hnT hdT) (fun _ _ => .ty _) (CA.nil fun vs H QV hH t hQ => by
    cases t with
    | cons t1 r =>
      cases r with
      | cons t2 r =>
        cases r; cases t2
        exact ⟨_, _, _, _, _, rfl, .ty _, tyx t1 hn, kit_ty (kitB_is (tyN_mem hn) hT), hQ _ _ _ _ (Evo.refl hH) (.bl _) q⟩)) he2) he) hg (by decide) (by decide) he hpl
/-- isinstance(e, C), C an own class -/
theorem CE.isiC {x : Str} {C : Addr} {p2 : Pos} (hm : c.X.mg "isinstance" = none) (hmC : c.X.mg x = some (.ref C))
    (h : CE c e Δ μ (fun d m => ∃ t k, (∀ v H, HS c.K m H → Dt c.K m H v d → TyX c.K H v t) ∧ PySem.W.kitOne c.K t (.ref C) = some k ∧ Q (.bl k) m) Ex) (hg : Gl c.X "isinstance" := by rfl) (hgC : Gl c.X x := by rfl) (hdT : (x == ("__debug__" : Str)) = false := by decide)
    (he : starEach [e, .Name x p2] c.X.env = (false, eval e c.X.env) :: starEach [.Name x p2] c.X.env := by rfl) (he2 : starEach [.Name x p2] c.X.env = (false, eval (.Name x p2) c.X.env) :: starEach [] c.X.env := by rfl)
    (hpl : (backTo pos (starEach [.Name x p2] c.X.env)).any (·.1) = false := by rfl) : CE c (.Call (.Name "isinstance" p) [e, .Name x p2] [] pos) Δ μ Q Ex :=
  CE.cb (call_isi) hm bv_isinstance (CA.cons (h.imp fun d m ⟨t, k, hn, hk, q⟩ => CA.cons (CE.k (v := .ref C) (d := .loc C) (pe_glob hgC hmC rfl hdT) (fun _ _ => .loc _) (CA.nil fun vs H QV hH t hQ => by
    cases t with
    | cons t1 r =>
      cases r with
      | cons t2 r =>
        cases r; cases t2
        exact ⟨_, _, _, _, _, rfl, .own C, hn _ _ hH t1, hk, hQ _ _ _ _ (Evo.refl hH) (.bl _) q⟩)) he2) he) hg (by decide) (by decide) he hpl

/-! ### in -/
def D.flat : D → Bool
  | .non => true | .bl _ => true | .int _ => true | .str _ => true | _ => false
def eqFD : D → D → Bool
  | .int i, .int j => i == j
  | .str i, .str j => i == j
  | .bl i, .bl j => i == j
  | .non, .non => true
  | .bl b, .int j => (if b then 1 else 0) == j
  | .int j, .bl b => j == (if b then 1 else 0)
  | _, _ => false
def inD (d : D) (ds : List D) : Bool := ds.any fun y => eqFD y d
end
end AM

set_option autoImplicit false
set_option maxRecDepth 100000
set_option maxHeartbeats 1000000
namespace AM
open PySem L2 PySem.Spec PyProof.Rows
section
variable {K : PySem.W.Frag} {m : Mu} {H : Hp}
theorem flat_of {v : V} {d : D} (t : Dt K m H v d) (h : d.flat = true) : flatV v = true := by
  cases t <;> first | rfl | cases h
theorem eqV_of {v u : V} {d e : D} (t : Dt K m H v d) (r : Dt K m H u e) (h : d.flat = true) (h' : e.flat = true) : eqV v u = eqFD d e := by
  cases t <;> first | (cases r <;> first | rfl | cases h') | cases h
theorem flats_of : ∀ {xs : List V} {ds : List D}, Dts K m H xs ds → ds.all D.flat = true → xs.all flatV = true
  | _, _, .nil, _ => rfl
  | _, _, .cons t r, h => by
    rw [List.all_cons, Bool.and_eq_true] at h ⊢
    exact ⟨flat_of t h.1, flats_of r h.2⟩
theorem inV_of {v : V} {d : D} (t : Dt K m H v d) (hd : d.flat = true) : ∀ {xs : List V} {ds : List D}, Dts K m H xs ds → ds.all D.flat = true → inV v xs = inD d ds
  | _, _, .nil, _ => rfl
  | _, _, .cons t1 r, h => by
    rw [List.all_cons, Bool.and_eq_true] at h
    have ih := inV_of t hd r h.2
    unfold inV inD at ih ⊢
    rw [List.any_cons, List.any_cons, ih, eqV_of t1 t h.1 hd]
theorem dts_at {xs : List V} {ds : List D} {j : Int} {d : D} (t : Dts K m H xs ds) (h : atI ds j = some d) : ∃ v, atI xs j = some v ∧ Dt K m H v d := by
  unfold atI at h ⊢
  rw [t.length]
  cases e : ixN ds.length j with
  | none => rw [e] at h; cases h
  | some n =>
    rw [e] at h
    exact t.get h
def cutD (xs : List D) (lo hi : Option Int) : List D := (xs.drop (HT.sIx xs.length 0 lo)).take (HT.sIx xs.length xs.length hi - HT.sIx xs.length 0 lo)
theorem cut_of {xs : List V} {ds : List D} (t : Dts K m H xs ds) (lo hi : Option Int) : Dts K m H (cutV xs lo hi) (cutD ds lo hi) := by
  unfold cutV cutD
  rw [t.length]
  exact (t.drop _).take _
end
section
variable {c : Ctx} {e a b : Expr} {es : List Expr} {Δ : Sl} {μ : Mu} {Q Q' : D → Mu → Prop} {QB QB' : Bool → Mu → Prop} {QA QA' : List D → Mu → Prop} {Ex Ex' : XD} {pos p apos : Pos} {E E' : DE} {st : Stmt} {sts : List Stmt}
/-! ### in -/
abbrev PIn (neg : Bool) (Q : D → Mu → Prop) : D → D → Mu → Prop := fun d1 d2 m => ∃ ds, SeqD m d2 ds ∧ d1.flat = true ∧ ds.all D.flat = true ∧ Q (.bl (if neg then !inD d1 ds else inD d1 ds)) m
theorem r_in {neg : Bool} (x y : V) (d1 d2 : D) (m : Mu) (H : Hp) (QV : VK) (pp : PIn neg Q d1 d2 m) (hs : HS c.K m H) (t1 : Dt c.K m H x d1) (t2 : Dt c.K m H y d2) (hQ : WantV c m H Q QV) : rIn c.K neg x y H QV := by
  obtain ⟨ds, hd, h1, h2, q⟩ := pp
  obtain ⟨l, xs, z, hq, h3⟩ := hd.at hs t2
  subst z
  refine ⟨l, xs, rfl, hq, flat_of t1 h1, flats_of h3 h2, ?_⟩
  rw [inV_of t1 h1 h3 h2]
  exact hQ _ _ _ _ (Evo.refl hs) (.bl _) q
theorem CE.inq (h : CE c a Δ μ (fun d1 m => CE c b Δ m (fun d2 m' => PIn false Q d1 d2 m') Ex) Ex) (hm : behindInMarks .In b = false := by rfl) : CE c (.Compare a [.In] [b] pos) Δ μ Q Ex := CE.cmp op_in_seq hm r_in h
theorem CE.notin (h : CE c a Δ μ (fun d1 m => CE c b Δ m (fun d2 m' => PIn true Q d1 d2 m') Ex) Ex) (hm : behindInMarks .NotIn b = false := by rfl) : CE c (.Compare a [.NotIn] [b] pos) Δ μ Q Ex := CE.cmp op_notIn_seq hm r_in h
theorem CT.inq (h : CE c a Δ μ (fun d1 m => CE c b Δ m (fun d2 m' => PIn false (fun d m' => ∃ k, d = .bl k ∧ QB k m') d1 d2 m') Ex) Ex) (hm : behindInMarks .In b = false := by rfl) : CT c (.Compare a [.In] [b] pos) Δ μ QB Ex := CT.cmp op_in_seq hm r_in h
theorem CT.notin (h : CE c a Δ μ (fun d1 m => CE c b Δ m (fun d2 m' => PIn true (fun d m' => ∃ k, d = .bl k ∧ QB k m') d1 d2 m') Ex) Ex) (hm : behindInMarks .NotIn b = false := by rfl) : CT c (.Compare a [.NotIn] [b] pos) Δ μ QB Ex := CT.cmp op_notIn_seq hm r_in h

/-! ### places, slices -/
theorem CE.ix (h : CE c a Δ μ (fun d1 m => CE c b Δ m (fun d2 m' => ∃ ds j v, SeqD m' d1 ds ∧ d2 = .int j ∧ atI ds j = some v ∧ Q v m') Ex) Ex) (hp : PlainIx b := by exact fun _ _ => rfl) : CE c (.Subscript a b pos) Δ μ Q Ex := by
  intro σ H ok hs QV hQ hX
  refine ⟨_, pe_ix ix_seq pe_w pe_w hp, ?_⟩
  refine h σ H ok hs _ (fun x d1 m1 H1 e1 t1 q1 => ?_) hX
  refine q1 σ H1 (ok.evo e1) e1.s _ (fun y d2 m2 H2 e2 t2 ⟨ds, j, v, hd, z, hv, q⟩ => ?_) (hX.evo e1)
  subst z
  cases t2
  obtain ⟨l, xs, z, hq, h3⟩ := hd.at e2.s (e2.dt t1)
  subst z
  obtain ⟨u, h4, h5⟩ := dts_at h3 hv
  have fin := hQ _ _ _ _ (e1.trans e2) h5 q
  rcases hq with hq | hq
  · exact .inl ⟨l, xs, j, u, rfl, rfl, hq, h4, fin⟩
  · exact .inr (.inl ⟨l, xs, j, u, rfl, rfl, hq, h4, fin⟩)
def CO (c : Ctx) (e : Option Expr) (Δ : Sl) (μ : Mu) (Q : Option Int → Mu → Prop) (Ex : XD) : Prop :=
  ∀ σ H, OkS c.K μ H σ Δ → HS c.K μ H → ∀ QV : Option Int → Hp → Prop, (∀ o μ' H', Evo c.K μ H μ' H' → Q o μ' → QV o H') → WantX c Δ σ μ H Ex → ∃ t, PO c.X e t ∧ t σ H QV
theorem CO.none {QO : Option Int → Mu → Prop} (q : QO none μ) : CO c none Δ μ QO Ex := fun σ H ok hs QV hQ hX => ⟨_, po_none, hQ _ _ _ (Evo.refl hs) q⟩
theorem CO.some {QO : Option Int → Mu → Prop} (h : CE c e Δ μ (fun d m => ∃ i, d = .int i ∧ QO (some i) m) Ex) : CO c (some e) Δ μ QO Ex := fun σ H ok hs QV hQ hX => ⟨_, po_some pe_w, h σ H ok hs _ (fun v d m H' ev t ⟨i, z, q⟩ => by
  subst z; cases t
  exact ⟨i, rfl, hQ _ _ _ ev q⟩) hX⟩
def wO (X : Cx) (e : Option Expr) : TO := fun σ H Q => ∃ t, PO X e t ∧ t σ H Q
theorem po_w {X : Cx} {e : Option Expr} : PO X e (wO X e) := ⟨fun pins s σ H Q I ⟨_, h, q⟩ => h.run pins s σ H Q I q⟩
def rSlX (K : PySem.W.Frag) : V → Option Int → Option Int → Hp → VK → Prop := fun x lo hi H Q => rSlL K x lo hi H Q ∨ rSlA K x lo hi H Q
theorem CE.sl {lo hi : Option Expr} {p2 : Pos} (h : CE c a Δ μ (fun d m => CO c lo Δ m (fun l m1 => CO c hi Δ m1 (fun u m2 => (∃ ds, LstD m2 d ds ∧ Q (.lst (cutD ds l u)) m2) ∨ ∃ ds, d = .tup ds ∧ Q (.tup (cutD ds l u)) m2) Ex) Ex) Ex) : CE c (.Subscript a (.Slice lo hi none p2) pos) Δ μ Q Ex := by
  intro σ H ok hs QV hQ hX
  refine ⟨_, pe_slice (r := rSlX c.K) (sl_list.or sl_tupA) pe_w po_w po_w, ?_⟩
  refine h σ H ok hs _ (fun x d m1 H1 e1 t1 q1 => ?_) hX
  refine q1 σ H1 (ok.evo e1) e1.s _ (fun l m2 H2 e2 q2 => ?_) (hX.evo e1)
  refine q2 σ H2 (ok.evo (e1.trans e2)) e2.s _ (fun u m3 H3 e3 q3 => ?_) (hX.evo (e1.trans e2))
  have e := (e1.trans e2).trans e3
  rcases q3 with ⟨ds, hd, q⟩ | ⟨ds, z, q⟩
  · obtain ⟨r, xs, z, hq, h3⟩ := hd.at e3.s ((e2.trans e3).dt t1)
    subst z
    refine .inl ⟨r, xs, rfl, hq, fun n hn => ?_⟩
    have s1 := same_new (o := .lst (cutV xs l u)) hn
    exact hQ _ _ _ _ (e.trans (evo_same e3.s s1)) (.lst ⟨upd_same, e3.s.none hn⟩ ((cut_of h3 l u).keep (keeps_same s1))) q
  · subst z
    cases (e2.trans e3).dt t1 with
    | tup hq h3 =>
      rename_i r xs
      refine .inr ⟨r, xs, rfl, hq, fun hw => ?_, fun hw n hn => ?_⟩
      · have ec : cutD ds l u = ds := by
          unfold cutD
          rw [← h3.length, hw.1, hw.2, List.drop_zero, h3.length]
          exact List.take_length
        rw [ec] at q
        exact hQ _ _ _ _ e (.tup hq h3) q
      · have s1 := same_new (o := .tup (cutV xs l u)) hn
        exact hQ _ _ _ _ (e.trans (evo_same e3.s s1)) (.tup (SqT.of upd_same) ((cut_of h3 l u).keep (keeps_same s1))) q

/-! ### + and * of lists and tuples -/
theorem LstD.lst {K : PySem.W.Frag} {m : Mu} {H : Hp} {d : D} {ds : List D} {v : V} (h : LstD m d ds) (hs : HS K m H) (t : Dt K m H v d) : ∃ q xs, v = .ref q ∧ H q = some (.lst xs) ∧ Dts K m H xs ds := by
  rcases h with rfl | ⟨l, rfl, hm⟩
  · cases t with
    | lst h1 h2 => exact ⟨_, _, rfl, h1.1, h2⟩
  · cases t
    obtain ⟨xs, h1, h2⟩ := hs l _ hm
    exact ⟨l, xs, rfl, h1, h2⟩
theorem big {n : Nat} (h : n ≤ 1000000) : n ≤ sizeLine := Nat.le_trans h (by decide)
theorem bigl {n : Nat} (h : n ≤ 1000000) : n < sizeLine := Nat.lt_of_le_of_lt h (by decide)
/-! ### methods of lists and texts -/
def PM (c : Ctx) (r : V → List V → Hp → VK → Prop) (d : D) (ds : List D) (m : Mu) (Q : D → Mu → Prop) : Prop :=
  ∀ v vs H QV, HS c.K m H → Dt c.K m H v d → Dts c.K m H vs ds → WantV c m H Q QV → r v vs H QV
theorem tyV_list {l : Addr} {ds : List D} {m : Mu} {H : Hp} (hs : HS c.K m H) (hm : m l = some (.l ds)) : tyV c.K "list" (.ref l) H := by
  obtain ⟨xs, h1, _⟩ := hs l _ hm
  exact .inl ⟨rfl, xs, .inl (.inl h1)⟩
theorem CE.bmL {id : String} {r : V → List V → Hp → VK → Prop} {o : Expr} {name : Str} (slot : Slot "list" name id) (hty : typeOf (.builtin id) = pure (.type "method_descriptor")) (hmt : MtR c.X id r)
    (h : CE c o Δ μ (fun d m => ∃ l ds, d = .loc l ∧ m l = some (.l ds) ∧ CA c (e :: es) Δ m (fun vs m' => PM c r d vs m' Q) Ex) Ex)
    (hp : ∀ to ta, PE c.X o to → PA c.X (e :: es) ta → PE c.X (.Call (.Attribute o name apos) (e :: es) [] pos) (tBM c.K "list" r to ta)) : CE c (.Call (.Attribute o name apos) (e :: es) [] pos) Δ μ Q Ex := by
  intro σ H ok hs QV hQ hX
  refine ⟨_, hp _ _ pe_w pa_w, h σ H ok hs _ (fun v d m1 H1 e1 t1 ⟨l, ds, z, hm, q⟩ => ?_) hX⟩
  subst z
  cases t1
  refine ⟨tyV_list e1.s hm, q σ H1 (ok.evo e1) e1.s _ (fun vs us m2 H2 e2 t2 q2 => ?_) (hX.evo e1)⟩
  exact q2 _ vs H2 QV e2.s (.loc l) t2 (WantV.evo hQ (e1.trans e2))
theorem CE.bmL0 {id : String} {r : V → List V → Hp → VK → Prop} {o : Expr} {name : Str} (slot : Slot "list" name id) (hty : typeOf (.builtin id) = pure (.type "method_descriptor")) (hmt : MtR c.X id r)
    (h : CE c o Δ μ (fun d m => ∃ l ds, d = .loc l ∧ m l = some (.l ds) ∧ PM c r d [] m Q) Ex)
    (hp : ∀ to, PE c.X o to → PE c.X (.Call (.Attribute o name apos) [] [] pos) (tBM0 c.K "list" r to)) : CE c (.Call (.Attribute o name apos) [] [] pos) Δ μ Q Ex := by
  intro σ H ok hs QV hQ hX
  refine ⟨_, hp _ pe_w, h σ H ok hs _ (fun v d m1 H1 e1 t1 ⟨l, ds, z, hm, q⟩ => ?_) hX⟩
  subst z
  cases t1
  exact ⟨tyV_list e1.s hm, q _ [] H1 QV e1.s (.loc l) .nil (WantV.evo hQ e1)⟩
theorem pm_append {l : Addr} {ds : List D} {d : D} {m : Mu} (hm : m l = some (.l ds)) (hl : ds.length ≤ 1000000) (q : Q .non (m.set l (.l (ds ++ [d])))) : PM c rAppend (.loc l) [d] m Q := by
  intro v vs H QV hs t1 t2 hQ
  cases t1
  cases t2 with
  | cons t2 r =>
    cases r
    obtain ⟨xs, h1, h2⟩ := hs l _ hm
    have k := keeps_set (m := .l (ds ++ [d])) (o := .lst (xs ++ [‹V›])) hs hm
    exact ⟨l, xs, _, rfl, rfl, h1, by rw [h2.length]; exact bigl hl, hQ _ _ _ _ (evo_set (m := .l (ds ++ [d])) hs hm ⟨_, upd_same, (h2.append (.cons t2 .nil)).keep k⟩) .non q⟩
theorem pm_extend {l : Addr} {ds es : List D} {d : D} {m : Mu} (hm : m l = some (.l ds)) (hd : LstD m d es) (hl : ds.length + es.length ≤ 1000000) (q : Q .non (m.set l (.l (ds ++ es)))) : PM c rExtend (.loc l) [d] m Q := by
  intro v vs H QV hs t1 t2 hQ
  cases t1
  cases t2 with
  | cons t2 r =>
    cases r
    obtain ⟨xs, h1, h2⟩ := hs l _ hm
    obtain ⟨b, ys, z, h3, h4⟩ := hd.lst hs t2
    subst z
    have k := keeps_set (m := .l (ds ++ es)) (o := .lst (xs ++ ys)) hs hm
    exact ⟨l, b, xs, ys, rfl, rfl, h1, h3, by rw [h2.length, h4.length]; exact big hl, hQ _ _ _ _ (evo_set (m := .l (ds ++ es)) hs hm ⟨_, upd_same, (h2.append h4).keep k⟩) .non q⟩
theorem pm_pop {l : Addr} {ds : List D} {d : D} {m : Mu} (hm : m l = some (.l ds)) (hd : ds[ds.length - 1]? = some d) (q : Q d (m.set l (.l ds.dropLast))) : PM c rPop (.loc l) [] m Q := by
  intro v vs H QV hs t1 t2 hQ
  cases t1
  cases t2
  obtain ⟨xs, h1, h2⟩ := hs l _ hm
  obtain ⟨u, h3, h4⟩ := h2.get hd
  have k := keeps_set (m := .l ds.dropLast) (o := .lst xs.dropLast) hs hm
  exact ⟨l, xs, u, rfl, rfl, h1, by rw [h2.length]; exact h3, hQ _ _ _ _ (evo_set (m := .l ds.dropLast) hs hm ⟨_, upd_same, h2.dropLast.keep k⟩) (h4.keep k) q⟩
theorem pm_popAt {l : Addr} {ds : List D} {d : D} {i : Int} {n : Nat} {m : Mu} (hm : m l = some (.l ds)) (hi : -(2 ^ 63) ≤ i) (hi' : i < 2 ^ 63) (hn : seqIndex? i ds.length = some n) (hd : ds[n]? = some d) (q : Q d (m.set l (.l (ds.eraseIdx n)))) : PM c rPopAt (.loc l) [.int i] m Q := by
  intro v vs H QV hs t1 t2 hQ
  cases t1
  cases t2 with
  | cons t2 r =>
    cases r; cases t2
    obtain ⟨xs, h1, h2⟩ := hs l _ hm
    obtain ⟨u, h3, h4⟩ := h2.get hd
    have k := keeps_set (m := .l (ds.eraseIdx n)) (o := .lst (xs.eraseIdx n)) hs hm
    exact ⟨l, xs, i, n, u, rfl, rfl, h1, hi, hi', by rw [h2.length]; exact hn, h3, hQ _ _ _ _ (evo_set (m := .l (ds.eraseIdx n)) hs hm ⟨_, upd_same, (h2.eraseIdx n).keep k⟩) (h4.keep k) q⟩
theorem CE.join {o : Expr} (h : CE c o Δ μ (fun d m => ∃ sep, d = .str sep ∧ CE c e Δ m (fun d2 m' => ∃ ys : List Str, LstD m' d2 (ys.map .str) ∧ (ys.map (·.length)).sum + ys.length * sep.length ≤ 1000000 ∧ Q (.str (Txt.join sep ys)) m') Ex) Ex)
    (hs : starEach [e] c.X.env = [(false, eval e c.X.env)] := by rfl) (hbase : attributeBase o "join" c.X.env (eval o c.X.env) = eval o c.X.env := by rfl) (hline : (apos.endLine == pos.line) = true := by rfl) : CE c (.Call (.Attribute o "join" apos) [e] [] pos) Δ μ Q Ex := by
  intro σ H ok hss QV hQ hX
  refine ⟨_, pe_join pe_w pe_w hs hbase hline, h σ H ok hss _ (fun v d m1 H1 e1 t1 ⟨sep, z, q⟩ => ?_) hX⟩
  subst z
  cases t1
  refine ⟨⟨_, rfl⟩, q σ H1 (ok.evo e1) e1.s _ (fun v2 d2 m2 H2 e2 t2 ⟨ys, hd, hl, q2⟩ => ?_) (hX.evo e1)⟩
  obtain ⟨l, xs, z, hq, h3⟩ := hd.at e2.s t2
  subst z
  have e := h3.of_strs
  subst e
  exact ⟨sep, l, ys, rfl, rfl, .inl hq, Nat.le_trans hl (by decide), hQ _ _ _ _ (e1.trans e2) (.str _) q2⟩
theorem CE.split {o : Expr} (h : CE c o Δ μ (fun d m => ∃ s, d = .str s ∧ CE c e Δ m (fun d2 m' => ∃ sep, d2 = .str sep ∧ (sep.length == 0) = false ∧ s.length + 2 ≤ 1000000 ∧ Q (.lst ((Txt.split s sep).map .str)) m') Ex) Ex)
    (hs : starEach [e] c.X.env = [(false, eval e c.X.env)] := by rfl) (hbase : attributeBase o "split" c.X.env (eval o c.X.env) = eval o c.X.env := by rfl) (hline : (apos.endLine == pos.line) = true := by rfl) : CE c (.Call (.Attribute o "split" apos) [e] [] pos) Δ μ Q Ex := by
  intro σ H ok hss QV hQ hX
  refine ⟨_, pe_split pe_w pe_w hs hbase hline, h σ H ok hss _ (fun v d m1 H1 e1 t1 ⟨s, z, q⟩ => ?_) hX⟩
  subst z
  cases t1
  refine ⟨⟨_, rfl⟩, q σ H1 (ok.evo e1) e1.s _ (fun v2 d2 m2 H2 e2 t2 ⟨sep, z, h1, h2, q2⟩ => ?_) (hX.evo e1)⟩
  subst z
  cases t2
  refine ⟨s, sep, rfl, rfl, h1, big h2, fun n hn => ?_⟩
  have s1 := same_new (o := .lst ((Txt.split s sep).map V.str)) hn
  exact hQ _ _ _ _ ((e1.trans e2).trans (evo_same e2.s s1)) (.lst ⟨upd_same, e2.s.none hn⟩ (Dts.strs _)) q2
end

/-! ### what is walked -/
structure Walks (K : PySem.W.Frag) (J : It) (ds : List D) (μ0 : Mu) (H0 : Hp) : Prop where
  go : ∀ μ H i, Evo K μ0 H0 μ H → i < ds.length → J.go i H
  yld : ∀ μ H i x H', Evo K μ0 H0 μ H → i < ds.length → J.yld i H x H' → ∃ d, ds[i]? = some d ∧ Dt K μ H' x d ∧ Evo K μ H μ H'
  stop : ∀ μ H, Evo K μ0 H0 μ H → J.stop ds.length H
def CI (c : Ctx) (tg e : Expr) (Δ : Sl) (μ : Mu) (Q : List D → Mu → Prop) (Ex : XD) : Prop :=
  ∀ σ H, OkS c.K μ H σ Δ → HS c.K μ H → ∀ R : It → Hp → Prop, (∀ J ds μ' H', Evo c.K μ H μ' H' → Walks c.K J ds μ' H' → Q ds μ' → R J H') → WantX c Δ σ μ H Ex → ∃ w, PI c.X tg e w ∧ w σ H R
def wI (X : Cx) (tg e : Expr) : TI := fun σ H R => ∃ w, PI X tg e w ∧ w σ H R
section
variable {c : Ctx} {e a b tg : Expr} {es : List Expr} {Δ : Sl} {μ : Mu} {Q Q' : D → Mu → Prop} {QB QB' : Bool → Mu → Prop} {QA QA' : List D → Mu → Prop} {Ex Ex' : XD} {pos p apos : Pos} {E E' : DE} {st : Stmt} {sts : List Stmt}
/-- a list that stays -/
def StayL (d : D) (ds : List D) : Prop := d = .lst ds ∨ d = .fz ds
theorem StayL.at {K : PySem.W.Frag} {m : Mu} {H : Hp} {d : D} {ds : List D} {v : V} (h : StayL d ds) (t : Dt K m H v d) : ∃ q xs, v = .ref q ∧ SqL K H q xs ∧ Dts K m H xs ds := by
  rcases h with rfl | rfl
  · cases t with
    | lst h1 h2 => exact ⟨_, _, rfl, h1.sq, h2⟩
  · cases t with
    | fz h1 h2 => exact ⟨_, _, rfl, h1.sq, h2⟩
theorem CI.list (h : CE c e Δ μ (fun d m => ∃ ds, StayL d ds ∧ QA ds m) Ex) : CI c tg e Δ μ QA Ex := by
  intro σ H ok hs R hR hX
  refine ⟨_, pi_list pe_w, h σ H ok hs _ (fun v d m H1 ev t ⟨ds, hd, q⟩ => ?_) hX⟩
  obtain ⟨l, xs, z, hq, h3⟩ := hd.at t
  subst z
  refine ⟨l, rfl, ⟨xs, hq⟩, hR _ ds _ _ ev ⟨fun μ2 H2 i e2 hi => ?_, fun μ2 H2 i x H' e2 hi y => ?_, fun μ2 H2 e2 => ?_⟩ q⟩
  · obtain ⟨l', ys, z, h4, h5⟩ := hd.at (e2.dt t)
    cases z
    exact ⟨ys, ys[i]'(by rw [h5.length]; exact hi), h4, by simp⟩
  · obtain ⟨rfl, y⟩ := y
    obtain ⟨l', ys, z, h4, h5⟩ := hd.at (e2.dt t)
    cases z
    obtain ⟨d', h6, h7⟩ := h5.get' (y ys h4)
    exact ⟨d', h6, h7, Evo.refl e2.s⟩
  · obtain ⟨l', ys, z, h4, h5⟩ := hd.at (e2.dt t)
    cases z
    exact ⟨ys, h4, by rw [h5.length]; exact Nat.le_refl _⟩
theorem CI.tup (h : CE c e Δ μ (fun d m => ∃ ds, d = .tup ds ∧ QA ds m) Ex) : CI c tg e Δ μ QA Ex := by
  intro σ H ok hs R hR hX
  refine ⟨_, pi_tup pe_w, h σ H ok hs _ (fun v d m H1 ev t ⟨ds, hd, q⟩ => ?_) hX⟩
  subst hd
  cases t with
  | tup hq h3 =>
    rename_i l xs
    have at_ : ∀ {μ2 H2}, Evo c.K m H1 μ2 H2 → ∃ ys, SqT c.K H2 l ys ∧ Dts c.K μ2 H2 ys ds := fun {μ2 H2} e2 => ⟨xs, e2.k.t _ _ hq, e2.dts h3⟩
    refine ⟨l, rfl, ⟨xs, hq⟩, hR _ ds _ _ ev ⟨fun μ2 H2 i e2 hi => ?_, fun μ2 H2 i x H' e2 hi y => ?_, fun μ2 H2 e2 => ?_⟩ q⟩
    · obtain ⟨ys, h4, h5⟩ := at_ e2
      exact ⟨ys, ys[i]'(by rw [h5.length]; exact hi), h4, by simp⟩
    · obtain ⟨rfl, y⟩ := y
      obtain ⟨ys, h4, h5⟩ := at_ e2
      obtain ⟨d', h6, h7⟩ := h5.get' (y ys h4)
      exact ⟨d', h6, h7, Evo.refl e2.s⟩
    · obtain ⟨ys, h4, h5⟩ := at_ e2
      exact ⟨ys, h4, by rw [h5.length]; exact Nat.le_refl _⟩
/-- the ints from lo, n of them, by steps of s -/
def rngD (lo s : Int) (n : Nat) : List D := (List.range n).map fun (i : Nat) => .int (lo + (i : Int) * s)
theorem rngD_len (lo s : Int) (n : Nat) : (rngD lo s n).length = n := by unfold rngD; simp
theorem rngD_get {lo s : Int} {n i : Nat} (h : i < n) : (rngD lo s n)[i]? = some (.int (lo + (i : Int) * s)) := by
  unfold rngD; simp [h]
theorem walks_rng {K : PySem.W.Frag} {m : Mu} {H : Hp} {lo : Int} {n : Nat} : Walks K (Itr lo n) (rngD lo 1 n) m H :=
  ⟨fun μ2 H2 i _ hi => by rw [rngD_len] at hi; exact hi, fun μ2 H2 i x H' e2 hi y => by
    rw [rngD_len] at hi
    obtain ⟨rfl, rfl⟩ := y
    exact ⟨_, rngD_get hi, by rw [Int.mul_one]; exact .int _, Evo.refl e2.s⟩, fun μ2 H2 _ => by rw [rngD_len]; exact Nat.le_refl _⟩
theorem walks_rngC {K : PySem.W.Frag} {m : Mu} {H : Hp} {lo s : Int} {n : Nat} : Walks K (Itc lo s n) (rngD lo s n) m H :=
  ⟨fun μ2 H2 i _ hi => by rw [rngD_len] at hi; exact hi, fun μ2 H2 i x H' e2 hi y => by
    rw [rngD_len] at hi
    obtain ⟨rfl, rfl⟩ := y
    exact ⟨_, rngD_get hi, .int _, Evo.refl e2.s⟩, fun μ2 H2 _ => by rw [rngD_len]; exact Nat.le_refl _⟩
theorem CI.range1 (hm : c.X.mg "range" = none) (h : CE c e Δ μ (fun d m => ∃ j, d = .int j ∧ -(2 ^ 62) ≤ j ∧ j < 2 ^ 62 ∧ QA (rngD 0 1 j.toNat) m) Ex) (hg : Gl c.X "range" := by rfl)
    (hst : starEach [e] c.X.env = [(false, eval e c.X.env)] := by rfl) : CI c tg (.Call (.Name "range" p) [e] [] pos) Δ μ QA Ex := by
  intro σ H ok hs R hR hX
  refine ⟨_, pi_range1 hg hm (pa_cons pe_w pa_nil hst) hst, h σ H ok hs _ (fun v d m H1 ev t ⟨j, z, h1, h2, q⟩ => ?_) hX⟩
  subst z
  cases t
  exact ⟨j, rfl, h1, h2, hR _ _ _ _ ev walks_rng q⟩
theorem CI.range2 (hm : c.X.mg "range" = none) (h : CA c [a, b] Δ μ (fun ds m => ∃ i j, ds = [.int i, .int j] ∧ (-(2 ^ 62) ≤ i ∧ i < 2 ^ 62 ∧ -(2 ^ 62) ≤ j ∧ j < 2 ^ 62) ∧ QA (rngD i 1 (j - i).toNat) m) Ex) (hg : Gl c.X "range" := by rfl)
    (hst : starEach [a, b] c.X.env = [(false, eval a c.X.env), (false, eval b c.X.env)] := by rfl) (hst2 : starEach [b] c.X.env = [(false, eval b c.X.env)] := by rfl) : CI c tg (.Call (.Name "range" p) [a, b] [] pos) Δ μ QA Ex := by
  intro σ H ok hs R hR hX
  refine ⟨_, pi_range2 hg hm pa_w hst hst2, h σ H ok hs _ (fun vs ds m H1 ev t ⟨i, j, z, h1, q⟩ => ?_) hX⟩
  subst z
  cases t with
  | cons t r => cases r with
    | cons t2 r =>
      cases r; cases t; cases t2
      exact ⟨i, j, rfl, h1, hR _ _ _ _ ev walks_rng q⟩
theorem CI.range3 {d : Expr} (hm : c.X.mg "range" = none) (h : CA c [a, b, d] Δ μ (fun ds m => ∃ i j s n, ds = [.int i, .int j, .int s] ∧ RgC i j s n ∧ QA (rngD i s n) m) Ex) (hg : Gl c.X "range" := by rfl)
    (hst : starEach [a, b, d] c.X.env = (false, eval a c.X.env) :: starEach [b, d] c.X.env := by rfl) (hpl : (backTo pos (starEach [b, d] c.X.env)).any (·.1) = false := by rfl) : CI c tg (.Call (.Name "range" p) [a, b, d] [] pos) Δ μ QA Ex := by
  intro σ H ok hs R hR hX
  refine ⟨_, pi_range3 hg hm pa_w hst hpl, h σ H ok hs _ (fun vs ds m H1 ev t ⟨i, j, s, n, z, h1, q⟩ => ?_) hX⟩
  subst z
  cases t with
  | cons t r => cases r with
    | cons t2 r => cases r with
      | cons t3 r =>
        cases r; cases t; cases t2; cases t3
        exact ⟨i, j, s, n, rfl, h1, hR _ _ _ _ ev walks_rngC q⟩
/-- the items with their places -/
def enumD (ds : List D) : List D := (List.range ds.length).map fun i => .tup [.int (i : Nat), ds.getD i .non]
theorem enumD_len (ds : List D) : (enumD ds).length = ds.length := by unfold enumD; simp
theorem enumD_get {ds : List D} {i : Nat} {d : D} (h : ds[i]? = some d) : (enumD ds)[i]? = some (.tup [.int (i : Nat), d]) := by
  have hl : i < ds.length := (List.getElem?_eq_some_iff.mp h).1
  have e : ds.getD i .non = d := by rw [List.getD_eq_getElem?_getD, h]; rfl
  unfold enumD
  rw [List.getElem?_map, List.getElem?_range hl, Option.map_some, e]
theorem CI.enum {elts : List Expr} {kk : Nat} {tpos : Pos} (hm : c.X.mg "enumerate" = none) (h : CE c e Δ μ (fun d m => ∃ ds, StayL d ds ∧ QA (enumD ds) m) Ex) (hg : Gl c.X "enumerate" := by rfl)
    (hst : starEach [e] c.X.env = [(false, eval e c.X.env)] := by rfl) : CI c (.Tuple elts kk tpos) (.Call (.Name "enumerate" p) [e] [] pos) Δ μ QA Ex := by
  intro σ H ok hs R hR hX
  refine ⟨_, pi_enum hg hm (pa_cons pe_w pa_nil hst) hst, h σ H ok hs _ (fun v d m H1 ev t ⟨es, hd, q⟩ => ?_) hX⟩
  · obtain ⟨l, xs, z, hq, h3⟩ := hd.at t
    · subst z
      refine ⟨l, xs, rfl, hq, hR _ (enumD es) _ _ ev ⟨fun μ2 H2 i e2 hi => ?_, fun μ2 H2 i x H' e2 hi y => ?_, fun μ2 H2 e2 => ?_⟩ q⟩
      · rw [enumD_len] at hi
        obtain ⟨l', ys, z, h4, h5⟩ := hd.at (e2.dt t)
        cases z
        exact ⟨ys, ys[i]'(by rw [h5.length]; exact hi), h4, by simp⟩
      · obtain ⟨T, u, rfl, hT, rfl, y⟩ := y
        obtain ⟨l', ys, z, h4, h5⟩ := hd.at (e2.dt t)
        cases z
        obtain ⟨d', h6, h7⟩ := h5.get' (y ys h4)
        have s1 := same_new (o := .tup [.int (i : Nat), u]) hT
        exact ⟨_, enumD_get h6, .tup (SqT.of upd_same) (.cons (.int _) (.cons (h7.keep (keeps_same s1)) .nil)), evo_same e2.s s1⟩
      · obtain ⟨l', ys, z, h4, h5⟩ := hd.at (e2.dt t)
        cases z
        exact ⟨ys, h4, by rw [h5.length, enumD_len]; exact Nat.le_refl _⟩

/-! ### for, while -/
theorem CS.for {g : TGD} {body : List Stmt} (hc : c.X.calm = true) (hg : CG c tg g)
    (h : CI c tg e Δ μ (fun ds m => ∃ I : Nat → Sl → Mu → Prop, I 0 Δ m ∧
      (∀ i d Δ' m', ds[i]? = some d → I i Δ' m' → ∃ Δ2, g d Δ' = some Δ2 ∧ CSs c body Δ2 m' { E with nx := I (i + 1), ct := I (i + 1), bk := E.nx }) ∧ (∀ Δ' m', I ds.length Δ' m' → E.nx Δ' m')) E.ex)
    (hf : ∀ x, foldedSetIterable e c.X.env x = pure x := by intro _; rfl) : CS c (.For tg e body [] pos) Δ μ E := by
  intro σ H ok hs Ev S
  obtain ⟨t, pg, ht⟩ := hg.ex
  obtain ⟨w, hw, q⟩ := h σ H ok hs (fun (J : It) (H1 : Hp) => ∃ W : Nat → Nat → L2.St → Hp → Prop, (∃ m, W 0 m σ H1) ∧ ∀ i m σ H, W i m σ H →
      (J.stop i H ∧ Ev.nx σ H) ∨ (J.go i H ∧ ∃ N : L2.St → Hp → Prop, (∀ σ' H', N σ' H' → ∃ m', m' < m ∧ W (i + 1) m' σ' H') ∧ ∀ x H', J.yld i H x H' → t x σ H' fun σ2 H2 => wSs c.X body { Ev with nx := N, ct := N, bk := Ev.nx } σ2 H2)) (fun J ds m H1 ev W ⟨I, h0, hst, hd⟩ => by
    refine ⟨fun i k σ' H' => k = ds.length - i ∧ i ≤ ds.length ∧ ∃ Δ' m', Evo c.K m H1 m' H' ∧ OkS c.K m' H' σ' Δ' ∧ I i Δ' m', ⟨ds.length, by simp, Nat.zero_le _, Δ, m, Evo.refl ev.s, ok.evo ev, h0⟩, ?_⟩
    rintro i k σ' H' ⟨rfl, hi, Δ', m', e1, ok', hI⟩
    by_cases hlt : i < ds.length
    · refine .inr ⟨W.go _ _ _ e1 hlt, fun σ2 H2 => i + 1 ≤ ds.length ∧ ∃ Δ2 m2, Evo c.K m H1 m2 H2 ∧ OkS c.K m2 H2 σ2 Δ2 ∧ I (i + 1) Δ2 m2, fun σ2 H2 ⟨hl, r⟩ => ⟨ds.length - (i + 1), by omega, rfl, hl, r⟩, fun x H2 y => ?_⟩
      obtain ⟨d, hd', dt, e2⟩ := W.yld _ _ _ _ _ e1 hlt y
      obtain ⟨Δ2, hg2, hb⟩ := hst i d Δ' m' hd' hI
      refine ht x d σ' H2 Δ' Δ2 m' _ (ok'.evo e2) dt hg2 fun σ3 ok3 => ?_
      have eA := (ev.trans e1).trans e2
      have eB := e1.trans e2
      exact hb σ3 H2 ok3 e2.s _ ⟨fun σ4 Δ4 m4 H4 e4 o4 q => ⟨hlt, Δ4, m4, eB.trans e4, o4, q⟩, S.rt.evo eA, fun σ4 Δ4 m4 H4 e4 o4 q => S.nx _ _ _ _ (eA.trans e4) o4 q, fun σ4 Δ4 m4 H4 e4 o4 q => ⟨hlt, Δ4, m4, eB.trans e4, o4, q⟩,
        fun a b C o σ4 Δ4 m4 H4 e4 k z q => S.ex _ _ _ _ _ _ _ _ (eA.trans e4) k z q⟩
    · have ei : i = ds.length := by omega
      subst ei
      exact .inl ⟨W.stop _ _ e1, S.nx _ _ _ _ (ev.trans e1) ok' (hd _ _ hI)⟩) (S.want ok)
  exact ⟨_, ps_for c.po hc hw pg pss_w hf, q⟩
theorem CS.while {t : Expr} {body : List Stmt} (I : Nat → Sl → Mu → Prop) (n0 : Nat) (h0 : I n0 Δ μ)
    (h : ∀ n Δ' m', I n Δ' m' → CT c t Δ' m' (fun k m2 => if k = true then CSs c body Δ' m2 { E with nx := fun Δ2 m3 => ∃ n', n' < n ∧ I n' Δ2 m3, ct := fun Δ2 m3 => ∃ n', n' < n ∧ I n' Δ2 m3, bk := E.nx } else E.nx Δ' m2) E.ex) : CS c (.While t body [] pos) Δ μ E := by
  intro σ H ok hs Ev S
  refine ⟨_, ps_while c.po pt_w pss_w, fun n σ' H' => ∃ Δ' m', Evo c.K μ H m' H' ∧ OkS c.K m' H' σ' Δ' ∧ I n Δ' m', ⟨n0, Δ, μ, Evo.refl hs, ok, h0⟩, ?_⟩
  rintro n σ' H' ⟨Δ', m', e1, ok', hI⟩
  refine h n Δ' m' hI σ' H' ok' e1.s _ (fun k m2 H2 e2 q => ?_) ((S.evo e1).want ok')
  have eA := e1.trans e2
  cases k with
  | true =>
    rw [if_pos rfl] at q ⊢
    refine ⟨fun σ3 H3 => ∃ n', n' < n ∧ ∃ Δ3 m3, Evo c.K μ H m3 H3 ∧ OkS c.K m3 H3 σ3 Δ3 ∧ I n' Δ3 m3, fun σ3 H3 ⟨n', hl, r⟩ => ⟨n', hl, r⟩, ?_⟩
    exact q σ' H2 (ok'.evo e2) e2.s _ ⟨fun σ4 Δ4 m4 H4 e4 o4 ⟨n', hl, q⟩ => ⟨n', hl, Δ4, m4, eA.trans e4, o4, q⟩, S.rt.evo eA, fun σ4 Δ4 m4 H4 e4 o4 q => S.nx _ _ _ _ (eA.trans e4) o4 q, fun σ4 Δ4 m4 H4 e4 o4 ⟨n', hl, q⟩ => ⟨n', hl, Δ4, m4, eA.trans e4, o4, q⟩,
        fun a b C o σ4 Δ4 m4 H4 e4 k z q => S.ex _ _ _ _ _ _ _ _ (eA.trans e4) k z q⟩
  | false =>
    rw [if_neg (by decide)] at q ⊢
    exact S.nx _ _ _ _ eA (ok'.evo e2) q
end
end AM

set_option autoImplicit false
set_option maxRecDepth 100000
set_option maxHeartbeats 1000000
namespace AM
open PySem L2 PySem.Spec PyProof.Rows
/-! ### comprehensions -/
def Ctx.blk (c : Ctx) (s : Shared) (H : Hp) (scope : Scope) (C : Addr) (cl : List (Str × Addr)) (fp : List Addr) : Ctx :=
  ⟨c.X.blk s H scope (compEnvC scope cl C c.X.env) fp, fun _ _ _ _ => False, takes_none5, PassesOwn.never⟩
def wipeD (Δ : Sl) : List Nat → Sl
  | [] => Δ
  | v :: vs => (wipeD Δ vs).set v none
theorem ok_wipe {K : PySem.W.Frag} {μ : Mu} {H : Hp} {σ : L2.St} {Δ : Sl} (h : OkS K μ H σ Δ) : ∀ vs : List Nat, OkS K μ H (wipe σ vs) (wipeD Δ vs)
  | [] => h
  | v :: vs => (ok_wipe h vs).unset v
structure CGB (c : Ctx) (scope : Scope) (vs : List Nat) (tg : Expr) (g : TGD) : Prop where
  ex : ∃ t, (∀ s H C cl fp, PG (c.blk s H scope C cl fp).X tg t) ∧ ∀ v d σ H Δ Δ' μ (Q : L2.St → Hp → Prop), OkS c.K μ H (wipe σ vs) Δ → Dt c.K μ H v d → g d Δ = some Δ' → (∀ σ', OkS c.K μ H σ' Δ' → wipe σ' vs = wipe σ vs → Q σ' H) → t v (wipe σ vs) H Q
section
variable {c : Ctx} {e a b tg : Expr} {es : List Expr} {Δ : Sl} {μ : Mu} {Q Q' : D → Mu → Prop} {QB QB' : Bool → Mu → Prop} {QA QA' : List D → Mu → Prop} {Ex Ex' : XD} {pos p apos : Pos} {E E' : DE} {st : Stmt} {sts : List Stmt} {scope : Scope}
theorem CGB.name {i : Nat} {x : Str} {p : Pos} (hi : c.X.N[i]? = some x) (hN : c.X.N.Nodup) (hx : ∀ s H C cl fp, Loc (c.blk s H scope C cl fp).X.env.scope x) (hf : ∀ s H C cl fp, (c.blk s H scope C cl fp).X.fn x = true ∨ (c.blk s H scope C cl fp).X.env.scope.names.lookup x = some .local) : CGB c scope [i] (.Name x p) (tgN i) :=
  ⟨_, fun s H C cl fp => pg_name (X := (c.blk s H scope C cl fp).X) hN hi (hx s H C cl fp) (hf s H C cl fp), fun v d σ H Δ Δ' μ Q ok dt e h => by
    cases e
    refine h _ (ok.set i dt) ?_
    show (((σ.set i none).set i (some v)).set i none) = σ.set i none
    rw [List.set_set, List.set_set]⟩
theorem CGB.pair {i j : Nat} {x y : Str} {p q r : Pos} {k} (hc : c.X.calm = true) (hi : c.X.N[i]? = some x) (hj : c.X.N[j]? = some y) (hij : i ≠ j) (hN : c.X.N.Nodup)
    (hx : ∀ s H C cl fp, Loc (c.blk s H scope C cl fp).X.env.scope x ∧ Loc (c.blk s H scope C cl fp).X.env.scope y) (hf : ∀ s H C cl fp, (c.blk s H scope C cl fp).X.fn x = true ∨ (c.blk s H scope C cl fp).X.env.scope.names.lookup x = some .local)
    (hf' : ∀ s H C cl fp, (c.blk s H scope C cl fp).X.fn y = true ∨ (c.blk s H scope C cl fp).X.env.scope.names.lookup y = some .local) : CGB c scope [i, j] (.Tuple [.Name x p, .Name y q] k r) (tgP i j) := by
  refine ⟨gTup c.K 2 (gCons (gName i) (gCons (gName j) gNil)), fun s H C cl fp => pg_tup (X := (c.blk s H scope C cl fp).X) (n := 2) hc (pgs_cons (pg_name (X := (c.blk s H scope C cl fp).X) hN hi (hx s H C cl fp).1 (hf s H C cl fp)) (pgs_cons (pg_name (X := (c.blk s H scope C cl fp).X) hN hj (hx s H C cl fp).2 (hf' s H C cl fp)) pgs_nil)), fun v d σ H Δ Δ' μ Q ok dt e h => ?_⟩
  unfold tgP at e
  split at e
  · rename_i x1 y1
    cases e
    cases dt with
    | tup h1 h2 =>
      cases h2 with
      | cons a1 a2 =>
        cases a2 with
        | cons b1 b2 =>
          cases b2
          refine ⟨_, _, rfl, h1, rfl, _, _, rfl, _, _, rfl, rfl, h _ ((ok.set i a1).set j b1) ?_⟩
          show ((((((σ.set j none).set i none).set i _).set j _).set j none).set i none) = (σ.set j none).set i none
          rw [List.set_set, List.set_set, List.set_comm _ _ (Ne.symm hij), List.set_set, List.set_comm _ _ hij, List.set_set]
  · cases e
/-- one turn: the tests, the element -/
abbrev AllB (c : Ctx) (scope : Scope) (P : Ctx → Prop) : Prop := ∀ s H C cl fp, P (c.blk s H scope C cl fp)
def LT (c : Ctx) (scope : Scope) (ifs : List Expr) (elt : Expr) (Δ : Sl) (μ : Mu) (P : Option D → Mu → Prop) : Prop := match ifs with
  | [] => AllB c scope fun c => CE c elt Δ μ (fun d m => P (some d) m) noX
  | [t] => ∃ k, (AllB c scope fun c => CT c t Δ μ (fun k' m => k' = k ∧ m = μ) noX) ∧ (k = true → AllB c scope fun c => CE c elt Δ μ (fun d m => P (some d) m) noX) ∧ (k = false → P none μ)
  | _ => False
def wTs (X : Cx) (ifs : List Expr) : TT := fun σ H Q => ∃ t, PTs X ifs t ∧ t σ H Q
theorem pts_w {X : Cx} {ifs : List Expr} : PTs X ifs (wTs X ifs) := ⟨fun pins s σ H Q I ⟨_, h, q⟩ => h.run pins s σ H Q I q⟩
def ttB (c : Ctx) (scope : Scope) (ifs : List Expr) : TT := fun σ H Q => ∀ s H0 C cl fp, wTs (c.blk s H0 scope C cl fp).X ifs σ H Q
def teB (c : Ctx) (scope : Scope) (elt : Expr) : TE := fun σ H Q => ∀ s H0 C cl fp, wE (c.blk s H0 scope C cl fp).X elt σ H Q
theorem pts_b {ifs : List Expr} (s : Shared) (H : Hp) (C : Addr) (cl : List (Str × Addr)) (fp : List Addr) : PTs (c.blk s H scope C cl fp).X ifs (ttB c scope ifs) := ⟨fun pins s1 σ H1 Q I h => pts_w.run pins s1 σ H1 Q I (h s H C cl fp)⟩
theorem pe_b {elt : Expr} (s : Shared) (H : Hp) (C : Addr) (cl : List (Str × Addr)) (fp : List Addr) : PE (c.blk s H scope C cl fp).X elt (teB c scope elt) := ⟨fun pins s1 σ H1 Q I h => pe_w.run pins s1 σ H1 Q I (h s H C cl fp)⟩
/-- what a comprehension's turns must do -/
def LcD (c : Ctx) (scope : Scope) (vs : List Nat) (g : TGD) (ifs : List Expr) (elt : Expr) (Δ : Sl) (Q : D → Mu → Prop) (ds : List D) (m : Mu) : Prop :=
  ds.length ≤ 100000 ∧ ∃ I : Nat → List D → Mu → Prop, I 0 [] m ∧
    (∀ i d acc m' L, ds[i]? = some d → I i acc m' → m' L = none → ∃ Δ2, g d (wipeD Δ vs) = some Δ2 ∧
      LT c scope ifs elt Δ2 (m'.set L (.l acc)) (fun o m2 => ∃ m3, m2 = m3.set L (.l acc) ∧ m3 L = none ∧ I (i + 1) (acc ++ o.toList) m3)) ∧
    (∀ acc m', I ds.length acc m' → Q (.lst acc) m')
theorem lc_core {ifs : List Expr} {elt : Expr} {g : TGD} {vs : List Nat} {t : TG} {J : It} {ds : List D} {m : Mu} {H1 : Hp} {σ : L2.St} {QV : VK}
    (ht : ∀ v d σ H Δ Δ' μ (Q : L2.St → Hp → Prop), OkS c.K μ H (wipe σ vs) Δ → Dt c.K μ H v d → g d Δ = some Δ' → (∀ σ', OkS c.K μ H σ' Δ' → wipe σ' vs = wipe σ vs → Q σ' H) → t v (wipe σ vs) H Q)
    (hs : HS c.K m H1) (ok : OkS c.K m H1 σ Δ) (W : Walks c.K J ds m H1) (hlen : ds.length ≤ 100000) (I : Nat → List D → Mu → Prop) (h0 : I 0 [] m)
    (hstep : ∀ i d acc m' L, ds[i]? = some d → I i acc m' → m' L = none → ∃ Δ2, g d (wipeD Δ vs) = some Δ2 ∧ LT c scope ifs elt Δ2 (m'.set L (.l acc)) (fun o m2 => ∃ m3, m2 = m3.set L (.l acc) ∧ m3 L = none ∧ I (i + 1) (acc ++ o.toList) m3))
    (L : Addr) (hL : H1 L = none) (hfin : ∀ acc m' H', m' L = none → Evo c.K m H1 (m'.set L (.l acc)) H' → I ds.length acc m' → QV (.ref L) H') :
    ∃ W : Nat → Nat → Hp → Prop, (∃ m, W 0 m (upd H1 L (.lst []))) ∧ ∀ i m H, W i m H →
      (J.stop i H ∧ QV (.ref L) H) ∨ (J.go i H ∧ ∃ Nx : Hp → Prop, (∀ H', Nx H' → ∃ m', m' < m ∧ W (i + 1) m' H') ∧ ∀ x H', J.yld i H x H' → t x (wipe σ vs) H' fun σ2 H2 => wipe σ2 vs = wipe σ vs ∧
        ttB c scope ifs σ2 H2 fun b H3 =>
          if b = true then teB c scope elt σ2 H3 fun y H4 => ∃ acc, H4 L = some (.lst acc) ∧ acc.length < sizeLine ∧ Nx (upd H4 L (.lst (acc ++ [y]))) else Nx H3) := by
  have hmL : m L = none := hs.none hL
  have s0 := same_new (o := .lst []) hL
  have e0 : Evo c.K m H1 (m.set L (.l [])) (upd H1 L (.lst [])) := evo_new (m := .l []) hs s0 hL ⟨[], upd_same, .nil⟩
  refine ⟨fun i k H' => k = ds.length - i ∧ i ≤ ds.length ∧ ∃ acc m', m' L = none ∧ Evo c.K m H1 (m'.set L (.l acc)) H' ∧ I i acc m' ∧ acc.length ≤ i, ⟨ds.length, by simp, Nat.zero_le _, [], m, hmL, e0, h0, Nat.le_refl _⟩, ?_⟩
  rintro i k H' ⟨rfl, hi, acc, m', hm', e1, hI, hacc⟩
  by_cases hlt : i < ds.length
  · refine .inr ⟨W.go _ _ _ e1 hlt, fun H2 => i + 1 ≤ ds.length ∧ ∃ acc m', m' L = none ∧ Evo c.K m H1 (m'.set L (.l acc)) H2 ∧ I (i + 1) acc m' ∧ acc.length ≤ i + 1, fun H2 ⟨hl, r⟩ => ⟨ds.length - (i + 1), by omega, rfl, hl, r⟩, fun x H2 y => ?_⟩
    obtain ⟨d, hd', dt, e2⟩ := W.yld _ _ _ _ _ e1 hlt y
    obtain ⟨Δ2, hg2, hb⟩ := hstep i d acc m' L hd' hI hm'
    have eA := e1.trans e2
    refine ht x d σ H2 _ Δ2 _ _ (ok_wipe (ok.evo eA) vs) dt hg2 fun σ3 ok3 hw => ⟨hw, ?_⟩
    have app : ∀ {y : V} {d2 : D} {m3 : Mu} {H4 : Hp}, Evo c.K (m'.set L (.l acc)) H2 (m3.set L (.l acc)) H4 → m3 L = none → Dt c.K (m3.set L (.l acc)) H4 y d2 → I (i + 1) (acc ++ [d2]) m3 →
        ∃ acc, H4 L = some (.lst acc) ∧ acc.length < sizeLine ∧ (fun H2 => i + 1 ≤ ds.length ∧ ∃ acc m', m' L = none ∧ Evo c.K m H1 (m'.set L (.l acc)) H2 ∧ I (i + 1) acc m' ∧ acc.length ≤ i + 1) (upd H4 L (.lst (acc ++ [y]))) := fun {y d2 m3 H4} e4 hm3 dy hI3 => by
      obtain ⟨xs, h1, h2⟩ := e4.s L (.l acc) Mu.set_same
      have kk := keeps_set (m := .l (acc ++ [d2])) (o := .lst (xs ++ [y])) e4.s (p := L) Mu.set_same
      have e5 := evo_set (m := .l (acc ++ [d2])) (o := .lst (xs ++ [y])) e4.s (p := L) Mu.set_same ⟨_, upd_same, (h2.append (.cons dy .nil)).keep kk⟩
      rw [Mu.set_set] at e5
      refine ⟨xs, h1, by rw [h2.length]; exact bigl (by omega), hlt, acc ++ [d2], m3, hm3, (eA.trans e4).trans e5, hI3, by rw [List.length_append]; exact Nat.add_le_add_right hacc 1⟩
    have elem : ∀ {H3 : Hp}, Evo c.K (m'.set L (.l acc)) H2 (m'.set L (.l acc)) H3 → (AllB c scope fun c => CE c elt Δ2 (m'.set L (.l acc)) (fun d m2 => ∃ m3, m2 = m3.set L (.l acc) ∧ m3 L = none ∧ I (i + 1) (acc ++ (some d).toList) m3) noX) →
        teB c scope elt σ3 H3 fun y H4 => ∃ acc, H4 L = some (.lst acc) ∧ acc.length < sizeLine ∧ (fun H2 => i + 1 ≤ ds.length ∧ ∃ acc m', m' L = none ∧ Evo c.K m H1 (m'.set L (.l acc)) H2 ∧ I (i + 1) acc m' ∧ acc.length ≤ i + 1) (upd H4 L (.lst (acc ++ [y]))) := fun {H3} e3 hel => by
      intro s5 H5 C5 cl5 fp5
      refine hel s5 H5 C5 cl5 fp5 σ3 H3 (ok3.evo e3) e3.s _ (fun y d2 m2 H4 e4 t4 ⟨m3, z, hm3, hI3⟩ => ?_) (fun _ _ _ _ _ _ _ _ z => z.elim)
      subst z
      exact app (e3.trans e4) hm3 t4 hI3
    intro s0 H0 C0 cl0 fp0
    cases ifs with
    | nil =>
      refine ⟨tYes, pts_nil, ?_⟩
      unfold tYes
      dsimp only
      rw [if_pos rfl]
      exact elem (Evo.refl e2.s) hb
    | cons tt r =>
      cases r with
      | cons t2 r2 => exact hb.elim
      | nil =>
        obtain ⟨k, hk, hyes, hno⟩ := hb
        refine ⟨_, pts_one pt_w, ?_⟩
        refine hk s0 H0 C0 cl0 fp0 σ3 H2 ok3 e2.s _ (fun kb m2 H3 e3 ⟨z1, z2⟩ => ?_) (fun _ _ _ _ _ _ _ _ z => z.elim)
        subst z1; subst z2
        cases kb with
        | true =>
          exact iteT (elem e3 (hyes rfl))
        | false =>
          obtain ⟨m3, z, hm3, hI3⟩ := hno rfl
          exact iteF ⟨hlt, acc, m3, hm3, by rw [← z]; exact eA.trans e3, by simpa using hI3, Nat.le_succ_of_le hacc⟩
  · have ei : i = ds.length := by omega
    subst ei
    exact .inl ⟨W.stop _ _ e1, hfin _ _ _ hm' e1 hI⟩
theorem lc_main {ifs : List Expr} {elt : Expr} {g : TGD} {vs : List Nat} {t : TG} {J : It} {ds : List D} {m : Mu} {H1 : Hp} {σ : L2.St} {QV : VK}
    (ht : ∀ v d σ H Δ Δ' μ (Q : L2.St → Hp → Prop), OkS c.K μ H (wipe σ vs) Δ → Dt c.K μ H v d → g d Δ = some Δ' → (∀ σ', OkS c.K μ H σ' Δ' → wipe σ' vs = wipe σ vs → Q σ' H) → t v (wipe σ vs) H Q)
    (hs : HS c.K m H1) (ok : OkS c.K m H1 σ Δ) (W : Walks c.K J ds m H1) (h : LcD c scope vs g ifs elt Δ Q ds m) (hQ : WantV c m H1 Q QV) :
    ∀ L, H1 L = none → ∃ W : Nat → Nat → Hp → Prop, (∃ m, W 0 m (upd H1 L (.lst []))) ∧ ∀ i m H, W i m H →
      (J.stop i H ∧ QV (.ref L) H) ∨ (J.go i H ∧ ∃ Nx : Hp → Prop, (∀ H', Nx H' → ∃ m', m' < m ∧ W (i + 1) m' H') ∧ ∀ x H', J.yld i H x H' → t x (wipe σ vs) H' fun σ2 H2 => wipe σ2 vs = wipe σ vs ∧
        ttB c scope ifs σ2 H2 fun b H3 =>
          if b = true then teB c scope elt σ2 H3 fun y H4 => ∃ acc, H4 L = some (.lst acc) ∧ acc.length < sizeLine ∧ Nx (upd H4 L (.lst (acc ++ [y]))) else Nx H3) := by
  intro L hL
  obtain ⟨hlen, I, h0, hstep, hd⟩ := h
  refine lc_core ht hs ok W hlen I h0 hstep L hL fun acc m' H' hm' e1 hI => ?_
  have e2 := evo_del (p := L) e1.s
  have fr := frozen_l (p := L) e1.s Mu.set_same
  rw [Mu.del_set hm'] at e2 fr
  exact hQ _ _ _ _ (e1.trans e2) fr (hd _ _ hI)
/-- .. whose list will change -/
def LcDL (c : Ctx) (scope : Scope) (vs : List Nat) (g : TGD) (ifs : List Expr) (elt : Expr) (Δ : Sl) (Q : D → Mu → Prop) (ds : List D) (m : Mu) : Prop :=
  ds.length ≤ 100000 ∧ ∃ I : Nat → List D → Mu → Prop, I 0 [] m ∧
    (∀ i d acc m' L, ds[i]? = some d → I i acc m' → m' L = none → ∃ Δ2, g d (wipeD Δ vs) = some Δ2 ∧
      LT c scope ifs elt Δ2 (m'.set L (.l acc)) (fun o m2 => ∃ m3, m2 = m3.set L (.l acc) ∧ m3 L = none ∧ I (i + 1) (acc ++ o.toList) m3)) ∧
    (∀ acc m' p, m' p = none → I ds.length acc m' → Q (.loc p) (m'.set p (.l acc)))
theorem lc_mainL {ifs : List Expr} {elt : Expr} {g : TGD} {vs : List Nat} {t : TG} {J : It} {ds : List D} {m : Mu} {H1 : Hp} {σ : L2.St} {QV : VK}
    (ht : ∀ v d σ H Δ Δ' μ (Q : L2.St → Hp → Prop), OkS c.K μ H (wipe σ vs) Δ → Dt c.K μ H v d → g d Δ = some Δ' → (∀ σ', OkS c.K μ H σ' Δ' → wipe σ' vs = wipe σ vs → Q σ' H) → t v (wipe σ vs) H Q)
    (hs : HS c.K m H1) (ok : OkS c.K m H1 σ Δ) (W : Walks c.K J ds m H1) (h : LcDL c scope vs g ifs elt Δ Q ds m) (hQ : WantV c m H1 Q QV) :
    ∀ L, H1 L = none → ∃ W : Nat → Nat → Hp → Prop, (∃ m, W 0 m (upd H1 L (.lst []))) ∧ ∀ i m H, W i m H →
      (J.stop i H ∧ QV (.ref L) H) ∨ (J.go i H ∧ ∃ Nx : Hp → Prop, (∀ H', Nx H' → ∃ m', m' < m ∧ W (i + 1) m' H') ∧ ∀ x H', J.yld i H x H' → t x (wipe σ vs) H' fun σ2 H2 => wipe σ2 vs = wipe σ vs ∧
        ttB c scope ifs σ2 H2 fun b H3 =>
          if b = true then teB c scope elt σ2 H3 fun y H4 => ∃ acc, H4 L = some (.lst acc) ∧ acc.length < sizeLine ∧ Nx (upd H4 L (.lst (acc ++ [y]))) else Nx H3) := by
  intro L hL
  obtain ⟨hlen, I, h0, hstep, hd⟩ := h
  exact lc_core ht hs ok W hlen I h0 hstep L hL fun acc m' H' hm' e1 hI => hQ _ _ _ _ e1 (.loc L) (hd _ _ _ hm' hI)
/-- [elt for target in iter if ..] -/
theorem CE.lc {iter elt : Expr} {ifs : List Expr} {own : List (Str × Nat)} {g : TGD} (hc : c.X.calm = true) (hN : c.X.N.Nodup) (hok : BlkOk c.X.N c.X.env.scope scope own) (hg : CGB c scope (own.map (·.2)) tg g)
    (h : CI c tg iter Δ μ (LcD c scope (own.map (·.2)) g ifs elt Δ Q) Ex) (hf : ∀ x, foldedSetIterable iter c.X.env x = pure x := by intro _; rfl) : CE c (.ListComp elt [⟨tg, iter, ifs, 0⟩] scope pos) Δ μ Q Ex := by
  intro σ H ok hs QV hQ hX
  obtain ⟨t, pg, ht⟩ := hg.ex
  obtain ⟨w, hw, q⟩ := h σ H ok hs (fun (J : It) (H1 : Hp) => ∀ L, H1 L = none → ∃ W : Nat → Nat → Hp → Prop, (∃ m, W 0 m (upd H1 L (.lst []))) ∧ ∀ i m H, W i m H →
      (J.stop i H ∧ QV (.ref L) H) ∨ (J.go i H ∧ ∃ Nx : Hp → Prop, (∀ H', Nx H' → ∃ m', m' < m ∧ W (i + 1) m' H') ∧ ∀ x H', J.yld i H x H' → t x (wipe σ (own.map (·.2))) H' fun σ2 H2 => wipe σ2 (own.map (·.2)) = wipe σ (own.map (·.2)) ∧
        ttB c scope ifs σ2 H2 fun b H3 =>
          if b = true then teB c scope elt σ2 H3 fun y H4 => ∃ acc, H4 L = some (.lst acc) ∧ acc.length < sizeLine ∧ Nx (upd H4 L (.lst (acc ++ [y]))) else Nx H3))
    (fun J ds m H1 ev W hl => lc_main ht ev.s (ok.evo ev) W hl (WantV.evo hQ ev)) hX
  exact ⟨_, pe_lc hc hN hw hok (fun s H C cl fp => pg s H C cl fp) (fun s H C cl fp => pts_b (c := c) s H C cl fp) (fun s H C cl fp => pe_b (c := c) s H C cl fp) hf, q⟩
/-- y = [..] on one line -/
theorem CS.setLc {iter elt : Expr} {ifs : List Expr} {own : List (Str × Nat)} {g : TGD} {i : Nat} {y : Str} {py spos : Pos} (hc : c.X.calm = true) (hN : c.X.N.Nodup) (hy : c.X.N[i]? = some y) (hyl : c.X.env.scope.names.lookup y = some .local)
    (hsw : swapsWith (.ListComp elt [⟨tg, iter, ifs, 0⟩] scope pos) (some (.Name y py)) spos.line c.X.env = pure true) (hok : BlkOk c.X.N c.X.env.scope scope own) (hg : CGB c scope (own.map (·.2)) tg g)
    (h : CI c tg iter Δ μ (LcD c scope (own.map (·.2)) g ifs elt Δ (fun d m => E.nx (Δ.set i (some d)) m)) E.ex) (hf : ∀ x, foldedSetIterable iter c.X.env x = pure x := by intro _; rfl) : CS c (.Assign [.Name y py] (.ListComp elt [⟨tg, iter, ifs, 0⟩] scope pos) spos) Δ μ E := by
  intro σ H ok hs Ev S
  obtain ⟨t, pg, ht⟩ := hg.ex
  obtain ⟨w, hw, q⟩ := h σ H ok hs (fun (J : It) (H1 : Hp) => ∀ L, H1 L = none → ∃ W : Nat → Nat → Hp → Prop, (∃ m, W 0 m (upd H1 L (.lst []))) ∧ ∀ i' m H, W i' m H →
      (J.stop i' H ∧ gName i (.ref L) σ H Ev.nx) ∨ (J.go i' H ∧ ∃ Nx : Hp → Prop, (∀ H', Nx H' → ∃ m', m' < m ∧ W (i' + 1) m' H') ∧ ∀ x H', J.yld i' H x H' → t x (wipe σ (own.map (·.2))) H' fun σ2 H2 => wipe σ2 (own.map (·.2)) = wipe σ (own.map (·.2)) ∧
        ttB c scope ifs σ2 H2 fun b H3 =>
          if b = true then teB c scope elt σ2 H3 fun y H4 => ∃ acc, H4 L = some (.lst acc) ∧ acc.length < sizeLine ∧ Nx (upd H4 L (.lst (acc ++ [y]))) else Nx H3))
    (fun J ds m H1 ev W hl => lc_main (QV := fun v H => gName i v σ H Ev.nx) ht ev.s (ok.evo ev) W hl (fun v d m2 H2 e2 t2 q2 => S.nx _ _ _ _ (ev.trans e2) ((ok.evo (ev.trans e2)).set i t2) q2)) (S.want ok)
  exact ⟨_, ps_setLc hc hN hy hyl hsw hw hok (fun s H C cl fp => pg s H C cl fp) (fun s H C cl fp => pts_b (c := c) s H C cl fp) (fun s H C cl fp => pe_b (c := c) s H C cl fp) hf, q⟩
end
end AM

set_option autoImplicit false
set_option maxRecDepth 100000
set_option maxHeartbeats 1000000
namespace AM
open PySem L2 PySem.Spec PyProof.Rows
section
variable {X : Cx} {C : Addr} {bmB : List Value} {B newId initId : String}
/-- x(), x an own exception class without own __init__ -/
theorem pmk_own0 {x : Str} {p pos : Pos} (F : ExcBaseFacts B newId initId bmB) (q : PySem.W.excIn X.K C bmB newId = true) (gC : X.mg x = some (.ref C)) (kC : PySem.W.keepIn X.K (.ref C) = true) (r : Raises X (.ref C)) (hg : Gl X x)
    (hdb : (x == ("__debug__" : Str)) = false := by decide) : PMk X (.Call (.Name x p) [] [] pos) (fun _ H Q => Q (.ref C) none H) := by
  intro pins s σ H Q I h
  refine wpAny_Call_Name_kw (ld_glob I hg gC ?_ hdb)
  refine PySem.W.callWith_K0 I.kIn kC ?_
  show wpAny _ _ (call (.ref C) []) _ _ _
  obtain ⟨bm, N, nm, qn, bs, hdct, sn, sub, ab, col, dd, k0, k1, k2, k3, k5, mN, hC, hN, hni, T⟩ := exc_obj I.kIn q
  refine wpAny_call_exc_subT F T hC hN hni (fun h' e hm => ?_) (by show 0 ≤ sizeLine; exact Nat.zero_le _)
  exact mk_of I hm r h (I.hok.gone hm.new)
end
/-- an own exception class of the module, over ValueError, without own __init__ -/
structure ExcC (K : PySem.W.Frag) (mg : Str → Option Value) (x : Str) (C : Addr) : Prop where
  q : PySem.W.excIn K C [.type "ValueError", .type "Exception", .type "BaseException", .type "object"] "ValueError.__new__" = true
  g : mg x = some (.ref C)
  k : PySem.W.keepIn K (.ref C) = true
  b : PySem.W.subIn K (.ref C) (.type "BaseException") = some true
  t : PySem.W.typeIn K (.ref C) = some (.type "type")
section
variable {c : Ctx} {e a b : Expr} {es : List Expr} {Δ : Sl} {μ : Mu} {E : DE} {x : Str} {C : Addr} {p pos pos2 : Pos}
theorem CS.raise (T : ExcC c.K c.X.mg x C) (hc : c.X.calm = true) (q : E.ex C none Δ μ) (hg : Gl c.X x := by rfl) (hdb : (x == ("__debug__" : Str)) = false := by decide) : CS c (.Raise (some (.Call (.Name x p) [] [] pos)) none pos2) Δ μ E := by
  intro σ H ok hs Ev S
  refine ⟨_, ps_raise hc c.tk (pmk_own0 PySem.F.excBase_ValueError T.q T.g T.k (raises_own T.b T.t) hg hdb), ?_⟩
  exact S.ex _ _ C none _ _ _ _ (Evo.refl hs) ok ⟨rfl, rfl⟩ q
/-! ### try -/
def Ctx.sui (c : Ctx) (a : Addr) (pn : List (Addr × Obj)) : Ctx := ⟨c.X.suite a pn, fun _ _ _ _ => False, takes_none5, PassesOwn.never⟩
def HdD (c : Ctx) (E : DE) : List (Addr × List Stmt) → XD
  | [] => E.ex
  | (Ci, su) :: r => fun C o Δ μ => ∃ b, PySem.W.exmOne c.K (.ref C) (.ref Ci) = some b ∧ (b = true → ∀ a pn, CSs (c.sui a pn) su Δ μ { E with ex := noX }) ∧ (b = false → HdD c E r C o Δ μ)
inductive HdsD (c : Ctx) : List ExceptHandler → List (Addr × List Stmt) → Prop
  | nil : HdsD c [] []
  | cons {x : Str} {Ci : Addr} {b₀ : Stmt} {su : List Stmt} {np pos' : Pos} {hds : List ExceptHandler} {l : List (Addr × List Stmt)} (hc : Names c.X x (.ref Ci)) (r : HdsD c hds l) : HdsD c (.ExceptHandler (some (.Name x np)) none (b₀ :: su) pos' :: hds) ((Ci, b₀ :: su) :: l)
def suTS (c : Ctx) (su : List Stmt) : Addr → Value → Option Addr → TS := fun a cls d D σ H => ∀ oe pn, Zc cls d oe → (∃ vs, oe.data = .fields vs) → wSs (c.sui a ((a, oe) :: pn)).X su D σ H
def suL (c : Ctx) (l : List (Addr × List Stmt)) : List (Value × (Addr → Value → Option Addr → TS)) := l.map fun r => (Value.ref r.1, suTS c r.2)
theorem HdsD.ok {hds : List ExceptHandler} {l : List (Addr × List Stmt)} (h : HdsD c hds l) : HdsOk c.X hds (suL c l) := by
  induction h with
  | nil => exact .nil
  | cons hc r ih => exact .cons hc (fun a oe cls d pn hz hf => ⟨fun pins s σ H D I h => pss_w.run pins s σ H D I (h oe pn hz hf)⟩) ih
theorem wMany_of {H : Hp} {μ μ' : Mu} {H' : Hp} {Δ' : Sl} {σ' : L2.St} {Ev : Ends} {cls : Value} {dict : Option Addr} {o : Option (List (Str × D))} (S : Sim c μ H E Ev) (ev : Evo c.K μ H μ' H') (ok : OkS c.K μ' H' σ' Δ') (xa : XAt c.K μ' H' cls dict C o) :
    ∀ l : List (Addr × List Stmt), HdD c E l C o Δ' μ' → wMany c.K c.W Ev (suL c l) cls dict σ' H'
  | [], h => S.ex _ _ _ _ _ _ _ _ ev ok xa h
  | (Ci, su) :: r, ⟨b, h1, h2, h3⟩ => by
    have ec : cls = .ref C := by cases o <;> exact xa.1
    refine ⟨b, by rw [ec]; exact h1, fun hb a ha oe pn hz hf => ?_, fun hb => wMany_of S ev ok xa r (h3 hb)⟩
    exact h2 hb a ((a, oe) :: pn) σ' H' ok ev.s Ev ⟨fun σ2 Δ2 m H2 e2 o2 q => S.nx _ _ _ _ (ev.trans e2) o2 q, S.rt.evo ev, fun σ2 Δ2 m H2 e2 o2 q => S.bk _ _ _ _ (ev.trans e2) o2 q, fun σ2 Δ2 m H2 e2 o2 q => S.ct _ _ _ _ (ev.trans e2) o2 q, fun _ _ _ _ _ _ _ _ _ _ _ z => z.elim⟩
theorem CS.try {body : List Stmt} {h₀ : ExceptHandler} {hds : List ExceptHandler} {l : List (Addr × List Stmt)} (hs1 : c.X.stack = c.X.env :: c.X.outer) (hf : c.X.env.frame = some c.X.env.locals) (hh : HdsD c (h₀ :: hds) l)
    (hb : ∀ (W : WX) (pn : List (Addr × Obj)) (xe : Value → Shared → Prop) (tk : Takes (c.X.tr pn xe) W) (po : PassesOwn (model c.X.prog c.X.w) c.X.A c.X.env xe), CSs ⟨c.X.tr pn xe, W, tk, po⟩ body Δ μ { E with ex := HdD c E l }) : CS c (.Try body (h₀ :: hds) [] [] pos) Δ μ E := by
  intro σ H ok hs Ev S
  refine ⟨_, ps_try_many (tb := fun W D σ H => ∀ pn xe, Takes (c.X.tr pn xe) W → PassesOwn (model c.X.prog c.X.w) c.X.A c.X.env xe → wSs (c.X.tr pn xe) body D σ H) hs1 hf c.tk (fun W pn xe tk po => ⟨fun pins s σ H D I h => pss_w.run pins s σ H D I (h pn xe tk po)⟩) hh.ok, ?_⟩
  intro pn xe tk po
  exact hb _ pn xe tk po σ H ok hs Ev ⟨S.nx, S.rt, S.bk, S.ct, fun cls dict C o σ' Δ' m' H' e o' xa q => wMany_of S e o' xa l q⟩
end
end AM

set_option autoImplicit false
set_option maxRecDepth 100000
set_option maxHeartbeats 1000000
namespace AM
open PySem L2 PySem.Spec PyProof.Rows
/-! ### what a walk asks, by names (each with its answers) -/
def aI (d : D) (R : Int → Prop) : Prop := ∃ i, d = .int i ∧ R i
theorem aI.mk {i : Int} {R : Int → Prop} (h : R i) : aI (.int i) R := ⟨i, rfl, h⟩
def aII (d1 d2 : D) (R : Int → Int → Prop) : Prop := ∃ i j, d1 = .int i ∧ d2 = .int j ∧ R i j
theorem aII.mk {i j : Int} {R : Int → Int → Prop} (h : R i j) : aII (.int i) (.int j) R := ⟨i, j, rfl, rfl, h⟩
def aB (d : D) (R : Bool → Prop) : Prop := ∃ k, d = .bl k ∧ R k
theorem aB.mk {k : Bool} {R : Bool → Prop} (h : R k) : aB (.bl k) R := ⟨k, rfl, h⟩
def aS (d : D) (R : Str → Prop) : Prop := ∃ k, d = .str k ∧ R k
theorem aS.mk {k : Str} {R : Str → Prop} (h : R k) : aS (.str k) R := ⟨k, rfl, h⟩
def aEq (d1 d2 : D) (R : Bool → Prop) : Prop := ∃ k, EqD d1 d2 k ∧ R k
theorem aEq.int {i j : Int} {R : Bool → Prop} (h : R (decide (i = j))) : aEq (.int i) (.int j) R := ⟨_, .int _ _, h⟩
theorem aEq.str {i j : Str} {R : Bool → Prop} (h : R (decide (i = j))) : aEq (.str i) (.str j) R := ⟨_, .str _ _, h⟩
theorem aEq.bl {i j : Bool} {R : Bool → Prop} (h : R (decide (i = j))) : aEq (.bl i) (.bl j) R := ⟨_, .bl _ _, h⟩
theorem aEq.py {d e : D} {R : Bool → Prop} (h1 : d.isPy = true) (h2 : e.isPy = true) (h3 : d.py.depth ≤ 64) (h4 : e.py.depth ≤ 64) (h : R (PyData.eqv d.py e.py)) : aEq d e R := ⟨_, .py _ _ h1 h2 h3 h4, h⟩
def aSeq (m : Mu) (d : D) (R : List D → Prop) : Prop := ∃ ds, SeqD m d ds ∧ R ds
theorem aSeq.tup {m : Mu} {ds : List D} {R : List D → Prop} (h : R ds) : aSeq m (.tup ds) R := ⟨ds, .inl rfl, h⟩
theorem aSeq.lst {m : Mu} {ds : List D} {R : List D → Prop} (h : R ds) : aSeq m (.lst ds) R := ⟨ds, .inr (.inl rfl), h⟩
theorem aSeq.loc {m : Mu} {l : Addr} {ds : List D} {R : List D → Prop} (hm : m l = some (.l ds)) (h : R ds) : aSeq m (.loc l) R := ⟨ds, .inr (.inr ⟨l, rfl, hm⟩), h⟩
def aLst (m : Mu) (d : D) (R : List D → Prop) : Prop := ∃ ds, LstD m d ds ∧ R ds
theorem aLst.lst {m : Mu} {ds : List D} {R : List D → Prop} (h : R ds) : aLst m (.lst ds) R := ⟨ds, .inl rfl, h⟩
theorem aLst.loc {m : Mu} {l : Addr} {ds : List D} {R : List D → Prop} (hm : m l = some (.l ds)) (h : R ds) : aLst m (.loc l) R := ⟨ds, .inr ⟨l, rfl, hm⟩, h⟩
def aStay (d : D) (R : List D → Prop) : Prop := ∃ ds, StayL d ds ∧ R ds
theorem aStay.lst {ds : List D} {R : List D → Prop} (h : R ds) : aStay (.lst ds) R := ⟨ds, .inl rfl, h⟩
theorem aStay.fz {ds : List D} {R : List D → Prop} (h : R ds) : aStay (.fz ds) R := ⟨ds, .inr rfl, h⟩
def aTup (d : D) (R : List D → Prop) : Prop := ∃ ds, d = .tup ds ∧ R ds
theorem aTup.mk {ds : List D} {R : List D → Prop} (h : R ds) : aTup (.tup ds) R := ⟨ds, rfl, h⟩
def aLoc (m : Mu) (d : D) (R : Addr → List D → Prop) : Prop := ∃ l ds, d = .loc l ∧ m l = some (.l ds) ∧ R l ds
theorem aLoc.mk {m : Mu} {l : Addr} {ds : List D} {R : Addr → List D → Prop} (hm : m l = some (.l ds)) (h : R l ds) : aLoc m (.loc l) R := ⟨l, ds, rfl, hm, h⟩
def aObj (m : Mu) (d : D) (R : Addr → List (Str × D) → Prop) : Prop := ∃ C fs, InsAt m d C fs ∧ R C fs
theorem aObj.ins {m : Mu} {C : Addr} {fs : List (Str × D)} {R : Addr → List (Str × D) → Prop} (h : R C fs) : aObj m (.ins C fs) R := ⟨C, fs, .inl rfl, h⟩
theorem aObj.loc {m : Mu} {l C : Addr} {fs : List (Str × D)} {R : Addr → List (Str × D) → Prop} (hm : m l = some (.o C fs)) (h : R C fs) : aObj m (.loc l) R := ⟨C, fs, .inr ⟨l, rfl, hm⟩, h⟩
def aAt (ds : List D) (j : Int) (R : D → Prop) : Prop := ∃ v, atI ds j = some v ∧ R v
theorem aAt.mk {ds : List D} {j : Int} {v : D} {R : D → Prop} (hv : atI ds j = some v) (h : R v) : aAt ds j R := ⟨v, hv, h⟩
def aTy (d : D) (R : String → Prop) : Prop := ∃ n, d.tyN = some n ∧ R n
theorem aTy.mk {d : D} {n : String} {R : String → Prop} (hn : d.tyN = some n) (h : R n) : aTy d R := ⟨n, hn, h⟩
def aLook (f : Str) (fs : List (Str × D)) (R : D → Prop) : Prop := ∃ v, lookF f fs = some v ∧ R v
theorem aLook.mk {f : Str} {fs : List (Str × D)} {v : D} {R : D → Prop} (hv : lookF f fs = some v) (h : R v) : aLook f fs R := ⟨v, hv, h⟩
/-- + of ints, of lists, of tuples -/
def aPlus (m : Mu) (d1 d2 : D) (R : D → Prop) : Prop := (∃ i j, d1 = .int i ∧ d2 = .int j ∧ R (.int (i + j))) ∨ (∃ ds es, LstD m d1 ds ∧ LstD m d2 es ∧ ds.length + es.length ≤ 1000000 ∧ R (.lst (ds ++ es))) ∨
  ∃ ds es, d1 = .tup ds ∧ d2 = .tup es ∧ ds.length + es.length ≤ 1000000 ∧ R (.tup (ds ++ es))
theorem aPlus.int {m : Mu} {i j : Int} {R : D → Prop} (h : R (.int (i + j))) : aPlus m (.int i) (.int j) R := .inl ⟨i, j, rfl, rfl, h⟩
theorem aPlus.lst {m : Mu} {d1 d2 : D} {ds es : List D} {R : D → Prop} (h1 : LstD m d1 ds) (h2 : LstD m d2 es) (hl : ds.length + es.length ≤ 1000000) (h : R (.lst (ds ++ es))) : aPlus m d1 d2 R := .inr (.inl ⟨ds, es, h1, h2, hl, h⟩)
theorem aPlus.tup {m : Mu} {ds es : List D} {R : D → Prop} (hl : ds.length + es.length ≤ 1000000) (h : R (.tup (ds ++ es))) : aPlus m (.tup ds) (.tup es) R := .inr (.inr ⟨ds, es, rfl, rfl, hl, h⟩)
/-- * of ints, of a list and an int -/
def aTimes (m : Mu) (d1 d2 : D) (R : D → Prop) : Prop := (∃ i j, d1 = .int i ∧ d2 = .int j ∧ CMul i j ∧ R (.int (i * j))) ∨ (∃ ds k, LstD m d1 ds ∧ d2 = .int k ∧ -(2 ^ 63) ≤ k ∧ k < 2 ^ 63 ∧ ds.length * k.toNat ≤ 1000000 ∧ R (.lst (List.replicate k.toNat ds).flatten))
theorem aTimes.int {m : Mu} {i j : Int} {R : D → Prop} (hc : CMul i j) (h : R (.int (i * j))) : aTimes m (.int i) (.int j) R := .inl ⟨i, j, rfl, rfl, hc, h⟩
theorem aTimes.lst {m : Mu} {ds : List D} {k : Int} {R : D → Prop} (h1 : -(2 ^ 63) ≤ k ∧ k < 2 ^ 63 ∧ ds.length * k.toNat ≤ 1000000) (h : R (.lst (List.replicate k.toNat ds).flatten)) : aTimes m (.lst ds) (.int k) R := .inr ⟨ds, k, .inl rfl, rfl, h1.1, h1.2.1, h1.2.2, h⟩
def aIn (m : Mu) (d1 d2 : D) (R : Bool → Prop) : Prop := ∃ ds, SeqD m d2 ds ∧ d1.flat = true ∧ ds.all D.flat = true ∧ R (inD d1 ds)
theorem aIn.mk {m : Mu} {d1 d2 : D} {ds : List D} {R : Bool → Prop} (h1 : SeqD m d2 ds) (h2 : d1.flat = true) (h3 : ds.all D.flat = true) (h : R (inD d1 ds)) : aIn m d1 d2 R := ⟨ds, h1, h2, h3, h⟩
def aSl (m : Mu) (d : D) (l u : Option Int) (R : D → Prop) : Prop := (∃ ds, LstD m d ds ∧ R (.lst (cutD ds l u))) ∨ ∃ ds, d = .tup ds ∧ R (.tup (cutD ds l u))
theorem aSl.lst {m : Mu} {ds : List D} {l u : Option Int} {R : D → Prop} (h : R (.lst (cutD ds l u))) : aSl m (.lst ds) l u R := .inl ⟨ds, .inl rfl, h⟩
theorem aSl.loc {m : Mu} {p : Addr} {ds : List D} {l u : Option Int} {R : D → Prop} (hm : m p = some (.l ds)) (h : R (.lst (cutD ds l u))) : aSl m (.loc p) l u R := .inl ⟨ds, .inr ⟨p, rfl, hm⟩, h⟩
theorem aSl.tup {m : Mu} {ds : List D} {l u : Option Int} {R : D → Prop} (h : R (.tup (cutD ds l u))) : aSl m (.tup ds) l u R := .inr ⟨ds, rfl, h⟩

/-! ### facts over the whole run -/
/-- a def of the module, whoever calls it -/
structure FnG (P : Program) (w : World) (K : PySem.W.Frag) (mg : Str → Option Value) (base : Heap) (x : Str) (k : Nat) (s : SpD) : Prop where
  ex : ∃ (f : Addr) (fd : FuncData) (ps : List Str), FnD P w K mg base (L2.CX P w) k f fd ps s ∧ mg x = some (.ref f) ∧ PySem.W.keepIn K (.ref f) = true ∧ Binds K fd ps []
theorem FnG.at {c : Ctx} {x : Str} {k : Nat} {s : SpD} (h : FnG c.X.prog c.X.w c.K c.X.mg c.X.base x k s) : Fn c x k s := let ⟨f, fd, ps, a, b, d, e⟩ := h.ex; ⟨_, f, fd, ps, cxL, a, b, d, e⟩
/-- where a def stands -/
structure Df (K : PySem.W.Frag) (mg : Str → Option Value) (x : Str) (st : Stmt) (ps : List Str) : Prop where
  ex : ∃ (f : Addr) (fd : FuncData), Fun K x x st f fd ∧ mg x = some (.ref f) ∧ Binds K fd ps []
theorem gD {P : Program} {w : World} {K : PySem.W.Frag} {mg : Str → Option Value} {base : Heap} {x : Str} {st : Stmt} {N ps : List Str} {k : Nat} {s : SpD} (h : Df K mg x st ps) (S : FnScope N ps (defScope st)) (len : ∀ ds m Q E, s ds m Q E → ds.length = ps.length)
    (body : ∀ (f : Addr) (cdv : Value) (A : Around) (outer : List Env) (s0 : Shared) (H : Hp) (E : XK), Room k (A.deeper (envOfC x (defScope st) s0.heap.objs.size f cdv)) → ∀ ds m Q Ex, s ds m Q Ex →
      CSs (dctx P w K mg base N x (defScope st) f cdv A outer s0 H E) (defBody st) (startD N ds) m { nx := fun _ m => Q .non m, rt := Q, ex := fun C o _ m => Ex C o m }) : FnG P w K mg base x (k + 1) s := by
  obtain ⟨f, fd, F, hm, hb⟩ := h.ex
  exact ⟨f, fd, ps, okD F S len (body f), hm, F.kp, hb⟩
theorem FnG.mono {P : Program} {w : World} {K : PySem.W.Frag} {mg : Str → Option Value} {base : Heap} {x : Str} {j k : Nat} {s : SpD} (h : FnG P w K mg base x j s) (hl : j ≤ k) : FnG P w K mg base x k s :=
  let ⟨f, fd, ps, a, b, d, e⟩ := h.ex; ⟨f, fd, ps, FnOk.mono a hl, b, d, e⟩
/-- a method of a class of the module -/
structure MtG (P : Program) (w : World) (K : PySem.W.Frag) (mg : Str → Option Value) (base : Heap) (C : Addr) (m : Str) (k : Nat) (s : SpD) : Prop where
  ex : ∃ (f : Addr) (fd : FuncData) (ps : List Str), FnD P w K mg base (L2.CX P w) k f fd ps s ∧ Meth K C m f ∧ Binds K fd ps []
  cl : Cls K C
theorem MtG.at {c : Ctx} {C : Addr} {m : Str} {k : Nat} {s : SpD} (h : MtG c.X.prog c.X.w c.K c.X.mg c.X.base C m k s) : Mth c C m k s := let ⟨f, fd, ps, a, b, d⟩ := h.ex; ⟨⟨_, f, fd, ps, cxL, a, b, d⟩, h.cl⟩
structure Dm (K : PySem.W.Frag) (C : Addr) (m qual : Str) (st : Stmt) (ps : List Str) : Prop where
  ex : ∃ (f : Addr) (fd : FuncData), Fun K m qual st f fd ∧ Meth K C m f ∧ Binds K fd ps []
  cl : Cls K C
theorem gM {P : Program} {w : World} {K : PySem.W.Frag} {mg : Str → Option Value} {base : Heap} {C : Addr} {m0 qual : Str} {st : Stmt} {N ps : List Str} {k : Nat} {s : SpD} (h : Dm K C m0 qual st ps) (S : FnScope N ps (defScope st)) (len : ∀ ds m Q E, s ds m Q E → ds.length = ps.length)
    (body : ∀ (f : Addr) (cdv : Value) (A : Around) (outer : List Env) (s0 : Shared) (H : Hp) (E : XK), Room k (A.deeper (envOfC qual (defScope st) s0.heap.objs.size f cdv)) → ∀ ds m Q Ex, s ds m Q Ex →
      CSs (dctx P w K mg base N qual (defScope st) f cdv A outer s0 H E) (defBody st) (startD N ds) m { nx := fun _ m => Q .non m, rt := Q, ex := fun C o _ m => Ex C o m }) : MtG P w K mg base C m0 (k + 1) s := by
  obtain ⟨f, fd, F, hm, hb⟩ := h.ex
  exact ⟨⟨f, fd, ps, okD F S len (body f), hm, hb⟩, h.cl⟩
theorem MtG.mono {P : Program} {w : World} {K : PySem.W.Frag} {mg : Str → Option Value} {base : Heap} {C : Addr} {x : Str} {j k : Nat} {s : SpD} (h : MtG P w K mg base C x j s) (hl : j ≤ k) : MtG P w K mg base C x k s :=
  let ⟨f, fd, ps, a, b, d⟩ := h.ex; ⟨⟨f, fd, ps, FnOk.mono a hl, b, d⟩, h.cl⟩
/-- a class that is called -/
structure CnG (P : Program) (w : World) (K : PySem.W.Frag) (mg : Str → Option Value) (base : Heap) (x : Str) (C : Addr) (k : Nat) (s : SpD) : Prop where
  ex : ∃ (f : Addr) (fd : FuncData) (ps : List Str), FnD P w K mg base (L2.CX P w) k f fd ps s ∧ Mk K C f ∧ mg x = some (.ref C) ∧ Binds K fd ps []
theorem CnG.at {c : Ctx} {x : Str} {C : Addr} {k : Nat} {s : SpD} (h : CnG c.X.prog c.X.w c.K c.X.mg c.X.base x C k s) : Cns c x C k s := let ⟨f, fd, ps, a, b, d, e⟩ := h.ex; ⟨_, f, fd, ps, cxL, a, b, d, e⟩
structure Dc (K : PySem.W.Frag) (mg : Str → Option Value) (x : Str) (C : Addr) (qual : Str) (st : Stmt) (ps : List Str) : Prop where
  ex : ∃ (f : Addr) (fd : FuncData), Fun K "__init__" qual st f fd ∧ Mk K C f ∧ mg x = some (.ref C) ∧ Binds K fd ps []
theorem gC {P : Program} {w : World} {K : PySem.W.Frag} {mg : Str → Option Value} {base : Heap} {x : Str} {C : Addr} {qual : Str} {st : Stmt} {N ps : List Str} {k : Nat} {s : SpD} (h : Dc K mg x C qual st ps) (S : FnScope N ps (defScope st)) (len : ∀ ds m Q E, s ds m Q E → ds.length = ps.length)
    (body : ∀ (f : Addr) (cdv : Value) (A : Around) (outer : List Env) (s0 : Shared) (H : Hp) (E : XK), Room k (A.deeper (envOfC qual (defScope st) s0.heap.objs.size f cdv)) → ∀ ds m Q Ex, s ds m Q Ex →
      CSs (dctx P w K mg base N qual (defScope st) f cdv A outer s0 H E) (defBody st) (startD N ds) m { nx := fun _ m => Q .non m, rt := Q, ex := fun C o _ m => Ex C o m }) : CnG P w K mg base x C (k + 1) s := by
  obtain ⟨f, fd, F, hm, hg, hb⟩ := h.ex
  exact ⟨f, fd, ps, okD F S len (body f), hm, hg, hb⟩
theorem CnG.mono {P : Program} {w : World} {K : PySem.W.Frag} {mg : Str → Option Value} {base : Heap} {x : Str} {C : Addr} {j k : Nat} {s : SpD} (h : CnG P w K mg base x C j s) (hl : j ≤ k) : CnG P w K mg base x C k s :=
  let ⟨f, fd, ps, a, b, d, e⟩ := h.ex; ⟨f, fd, ps, FnOk.mono a hl, b, d, e⟩
/-- a constant of the module -/
structure GC (K : PySem.W.Frag) (mg : Str → Option Value) (x : Str) (d : D) : Prop where
  ex : ∃ v u, mg x = some u ∧ RelV v u ∧ ∀ μ H, Dt K μ H v d
/-- a built-in name of the module that nothing hides -/
def NB (mg : Str → Option Value) (x : Str) : Prop := mg x = none
/-- an attribute of a class's instances -/
structure FldC (K : PySem.W.Frag) (C : Addr) (f : Str) : Prop where
  c : Cls K C
  n : NoAttr K C f

section
variable {c : Ctx} {e a b : Expr} {es : List Expr} {Δ : Sl} {μ : Mu} {Q Q' : D → Mu → Prop} {QB QB' : Bool → Mu → Prop} {QA QA' : List D → Mu → Prop} {Ex Ex' : XD} {pos p apos : Pos} {E E' : DE} {st : Stmt} {sts : List Stmt}
/-! ### the rules by these names -/
theorem W.nm {i : Nat} {x : Str} {d : D} (hN : c.X.N[i]? = some x) (hd : Δ[i]? = some (some d)) (hv : Vis c.X.env.scope x) (q : Q d μ) (h1 : (x == ("__debug__" : Str)) = false := by decide) (h2 : (x == ("__classdict__" : Str)) = false := by decide) : CE c (.Name x pos) Δ μ Q Ex := CE.var hd hN hv q h1 h2
theorem W.gc {x : Str} {d : D} (T : GC c.K c.X.mg x d) (q : Q d μ) (hg : Gl c.X x) (hb : (x == ("__debug__" : Str)) = false := by decide) : CE c (.Name x pos) Δ μ Q Ex := by
  obtain ⟨v, u, h1, h2, h3⟩ := T.ex
  exact CE.glob h1 h2 h3 q hg hb
theorem W.plus (h : CE c a Δ μ (fun d1 m => CE c b Δ m (fun d2 m' => aPlus m' d1 d2 fun d => Q d m') Ex) Ex) : CE c (.BinOp a .Add b pos) Δ μ Q Ex := by
  intro σ H ok hs QV hQ hX
  refine ⟨_, pe_op (r := fun x y H Q => (rI0 fun i j => .int (i + j)) x y H Q ∨ rCat x y H Q ∨ rCatA c.K x y H Q) (op_add.or (op_cat.or op_catA)) pe_w pe_w, ?_⟩
  refine h σ H ok hs _ (fun x d1 m1 H1 e1 t1 q1 => ?_) hX
  refine q1 σ H1 (ok.evo e1) e1.s _ (fun y d2 m2 H2 e2 t2 q2 => ?_) (hX.evo e1)
  have t1' := e2.dt t1
  have hQ' := WantV.evo hQ (e1.trans e2)
  have hs := e2.s
  rcases q2 with ⟨i, j, rfl, rfl, q⟩ | ⟨ds, es, h1, h2, hl, q⟩ | ⟨ds, es, rfl, rfl, hl, q⟩
  · cases t1'; cases t2
    exact .inl ⟨i, j, rfl, rfl, hQ' _ _ _ _ (Evo.refl hs) (.int _) q⟩
  · refine .inr (.inl ?_)
    obtain ⟨l, xs, z, h3, h4⟩ := h1.lst hs t1'
    obtain ⟨r, ys, z2, h5, h6⟩ := h2.lst hs t2
    subst z; subst z2
    refine ⟨l, r, xs, ys, rfl, rfl, h3, h5, by rw [h4.length, h6.length]; exact big hl, fun n hn => ?_⟩
    have s1 := same_new (o := .lst (xs ++ ys)) hn
    exact hQ' _ _ _ _ (evo_same hs s1) (.lst ⟨upd_same, hs.none hn⟩ ((h4.append h6).keep (keeps_same s1))) q
  · refine .inr (.inr ?_)
    cases t1' with
    | tup h3 h4 =>
      cases t2 with
      | tup h5 h6 =>
        rename_i l xs r ys
        refine ⟨l, r, xs, ys, rfl, rfl, h3, h5, by rw [h4.length, h6.length]; exact big hl, fun z => ?_, fun _ z => ?_, fun _ _ n hn => ?_⟩
        · subst z
          cases h4
          exact hQ' _ _ _ _ (Evo.refl hs) (.tup h5 h6) q
        · subst z
          cases h6
          rw [List.append_nil] at q
          exact hQ' _ _ _ _ (Evo.refl hs) (.tup h3 h4) q
        · have s1 := same_new (o := .tup (xs ++ ys)) hn
          exact hQ' _ _ _ _ (evo_same hs s1) (.tup (SqT.of upd_same) ((h4.append h6).keep (keeps_same s1))) q
theorem W.times (h : CE c a Δ μ (fun d1 m => CE c b Δ m (fun d2 m' => aTimes m' d1 d2 fun d => Q d m') Ex) Ex) : CE c (.BinOp a .Mult b pos) Δ μ Q Ex := by
  intro σ H ok hs QV hQ hX
  refine ⟨_, pe_op (r := fun x y H Q => (rI CMul fun i j => .int (i * j)) x y H Q ∨ rRep x y H Q) (op_mul.or op_rep) pe_w pe_w, ?_⟩
  refine h σ H ok hs _ (fun x d1 m1 H1 e1 t1 q1 => ?_) hX
  refine q1 σ H1 (ok.evo e1) e1.s _ (fun y d2 m2 H2 e2 t2 q2 => ?_) (hX.evo e1)
  have t1' := e2.dt t1
  have hQ' := WantV.evo hQ (e1.trans e2)
  have hs := e2.s
  rcases q2 with ⟨i, j, rfl, rfl, hc, q⟩ | ⟨ds, k, h1, z2, k1, k2, hl, q⟩
  · cases t1'; cases t2
    exact .inl ⟨i, j, rfl, rfl, hc, hQ' _ _ _ _ (Evo.refl hs) (.int _) q⟩
  · obtain ⟨l, xs, z, h3, h4⟩ := h1.lst hs t1'
    subst z; subst z2
    cases t2
    refine .inr ⟨l, k, xs, rfl, rfl, h3, k1, k2, by rw [h4.length]; exact big hl, fun n hn => ?_⟩
    have s1 := same_new (o := .lst (List.replicate k.toNat xs).flatten) hn
    exact hQ' _ _ _ _ (evo_same hs s1) (.lst ⟨upd_same, hs.none hn⟩ ((h4.rep _).keep (keeps_same s1))) q
theorem W.sub (h : CE c a Δ μ (fun d1 m => CE c b Δ m (fun d2 m' => aII d1 d2 fun i j => Q (.int (i - j)) m') Ex) Ex) : CE c (.BinOp a .Sub b pos) Δ μ Q Ex := CE.sub h
theorem W.fdiv (h : CE c a Δ μ (fun d1 m => CE c b Δ m (fun d2 m' => aII d1 d2 fun i j => CDiv i j ∧ Q (.int (i / j)) m') Ex) Ex) : CE c (.BinOp a .FloorDiv b pos) Δ μ Q Ex := CE.fdiv h
theorem W.mod (h : CE c a Δ μ (fun d1 m => CE c b Δ m (fun d2 m' => aII d1 d2 fun i j => 0 < j ∧ Q (.int (i % j)) m') Ex) Ex) : CE c (.BinOp a .Mod b pos) Δ μ Q Ex := CE.mod h
theorem W.pow (h : CE c a Δ μ (fun d1 m => CE c b Δ m (fun d2 m' => aII d1 d2 fun i j => CPow i j ∧ Q (.int (i ^ j.toNat)) m') Ex) Ex) : CE c (.BinOp a .Pow b pos) Δ μ Q Ex := CE.pow h
theorem W.shl (h : CE c a Δ μ (fun d1 m => CE c b Δ m (fun d2 m' => aII d1 d2 fun i j => CPow i j ∧ Q (.int (i * 2 ^ j.toNat)) m') Ex) Ex) : CE c (.BinOp a .LShift b pos) Δ μ Q Ex := CE.shl h
theorem W.shr (h : CE c a Δ μ (fun d1 m => CE c b Δ m (fun d2 m' => aII d1 d2 fun i j => 0 ≤ j ∧ Q (.int (i / 2 ^ j.toNat)) m') Ex) Ex) : CE c (.BinOp a .RShift b pos) Δ μ Q Ex := CE.shr h
theorem W.band (h : CE c a Δ μ (fun d1 m => CE c b Δ m (fun d2 m' => aII d1 d2 fun i j => Q (.int (Builtin.bitAnd i j)) m') Ex) Ex) : CE c (.BinOp a .BitAnd b pos) Δ μ Q Ex := CE.band h
theorem W.bor (h : CE c a Δ μ (fun d1 m => CE c b Δ m (fun d2 m' => aII d1 d2 fun i j => Q (.int (Builtin.bitOr i j)) m') Ex) Ex) : CE c (.BinOp a .BitOr b pos) Δ μ Q Ex := CE.bor h
theorem W.bxor (h : CE c a Δ μ (fun d1 m => CE c b Δ m (fun d2 m' => aII d1 d2 fun i j => Q (.int (Builtin.bitXor i j)) m') Ex) Ex) : CE c (.BinOp a .BitXor b pos) Δ μ Q Ex := CE.bxor h
theorem W.neg (h : CE c a Δ μ (fun d1 m => aI d1 fun i => Q (.int (-i)) m) Ex) : CE c (.UnaryOp .USub a pos) Δ μ Q Ex := by
  intro σ H ok hs QV hQ hX
  refine ⟨_, pe_un un_neg pe_w, h σ H ok hs _ (fun x d1 m1 H1 e1 t1 ⟨i, z, q⟩ => ?_) hX⟩
  subst z; cases t1
  exact ⟨i, rfl, hQ _ _ _ _ e1 (.int _) q⟩
theorem W.lt (h : CE c a Δ μ (fun d1 m => CE c b Δ m (fun d2 m' => aII d1 d2 fun i j => Q (.bl (decide (i < j))) m') Ex) Ex) : CE c (.Compare a [.Lt] [b] pos) Δ μ Q Ex := CE.lt h
theorem W.le (h : CE c a Δ μ (fun d1 m => CE c b Δ m (fun d2 m' => aII d1 d2 fun i j => Q (.bl (decide (i ≤ j))) m') Ex) Ex) : CE c (.Compare a [.LtE] [b] pos) Δ μ Q Ex := CE.le h
theorem W.gt (h : CE c a Δ μ (fun d1 m => CE c b Δ m (fun d2 m' => aII d1 d2 fun i j => Q (.bl (decide (j < i))) m') Ex) Ex) : CE c (.Compare a [.Gt] [b] pos) Δ μ Q Ex := CE.gt h
theorem W.ge (h : CE c a Δ μ (fun d1 m => CE c b Δ m (fun d2 m' => aII d1 d2 fun i j => Q (.bl (decide (j ≤ i))) m') Ex) Ex) : CE c (.Compare a [.GtE] [b] pos) Δ μ Q Ex := CE.ge h
theorem T.lt (h : CE c a Δ μ (fun d1 m => CE c b Δ m (fun d2 m' => aII d1 d2 fun i j => QB (decide (i < j)) m') Ex) Ex) : CT c (.Compare a [.Lt] [b] pos) Δ μ QB Ex := CT.lt h
theorem T.le (h : CE c a Δ μ (fun d1 m => CE c b Δ m (fun d2 m' => aII d1 d2 fun i j => QB (decide (i ≤ j)) m') Ex) Ex) : CT c (.Compare a [.LtE] [b] pos) Δ μ QB Ex := CT.le h
theorem T.gt (h : CE c a Δ μ (fun d1 m => CE c b Δ m (fun d2 m' => aII d1 d2 fun i j => QB (decide (j < i)) m') Ex) Ex) : CT c (.Compare a [.Gt] [b] pos) Δ μ QB Ex := CT.gt h
theorem T.ge (h : CE c a Δ μ (fun d1 m => CE c b Δ m (fun d2 m' => aII d1 d2 fun i j => QB (decide (j ≤ i)) m') Ex) Ex) : CT c (.Compare a [.GtE] [b] pos) Δ μ QB Ex := CT.ge h
theorem W.eq {k : Nat} (hr : Room k c.X.A) (h : CE c a Δ μ (fun d1 m => CE c b Δ m (fun d2 m' => aEq d1 d2 fun k => Q (.bl k) m') Ex) Ex) : CE c (.Compare a [.Eq] [b] pos) Δ μ Q Ex := CE.eq hr.units h
theorem W.ne {k : Nat} (hr : Room k c.X.A) (h : CE c a Δ μ (fun d1 m => CE c b Δ m (fun d2 m' => aEq d1 d2 fun k => Q (.bl (!k)) m') Ex) Ex) : CE c (.Compare a [.NotEq] [b] pos) Δ μ Q Ex := CE.ne hr.units h
theorem T.eq {k : Nat} (hr : Room k c.X.A) (h : CE c a Δ μ (fun d1 m => CE c b Δ m (fun d2 m' => aEq d1 d2 fun k => QB k m') Ex) Ex) : CT c (.Compare a [.Eq] [b] pos) Δ μ QB Ex := CT.eq hr.units h
theorem T.ne {k : Nat} (hr : Room k c.X.A) (h : CE c a Δ μ (fun d1 m => CE c b Δ m (fun d2 m' => aEq d1 d2 fun k => QB (!k) m') Ex) Ex) : CT c (.Compare a [.NotEq] [b] pos) Δ μ QB Ex := CT.ne hr.units h
theorem W.inq (h : CE c a Δ μ (fun d1 m => CE c b Δ m (fun d2 m' => aIn m' d1 d2 fun k => Q (.bl k) m') Ex) Ex) (hm : behindInMarks .In b = false := by rfl) : CE c (.Compare a [.In] [b] pos) Δ μ Q Ex := CE.inq h hm
theorem W.notin (h : CE c a Δ μ (fun d1 m => CE c b Δ m (fun d2 m' => aIn m' d1 d2 fun k => Q (.bl (!k)) m') Ex) Ex) (hm : behindInMarks .NotIn b = false := by rfl) : CE c (.Compare a [.NotIn] [b] pos) Δ μ Q Ex := CE.notin h hm
theorem T.inq (h : CE c a Δ μ (fun d1 m => CE c b Δ m (fun d2 m' => aIn m' d1 d2 fun k => QB k m') Ex) Ex) (hm : behindInMarks .In b = false := by rfl) : CT c (.Compare a [.In] [b] pos) Δ μ QB Ex :=
  CT.inq (h.imp fun d1 m h1 => h1.imp fun d2 m2 ⟨ds, a1, a2, a3, a4⟩ => ⟨ds, a1, a2, a3, _, rfl, a4⟩) hm
theorem T.notin (h : CE c a Δ μ (fun d1 m => CE c b Δ m (fun d2 m' => aIn m' d1 d2 fun k => QB (!k) m') Ex) Ex) (hm : behindInMarks .NotIn b = false := by rfl) : CT c (.Compare a [.NotIn] [b] pos) Δ μ QB Ex :=
  CT.notin (h.imp fun d1 m h1 => h1.imp fun d2 m2 ⟨ds, a1, a2, a3, a4⟩ => ⟨ds, a1, a2, a3, _, rfl, a4⟩) hm
/-- a <= b <= d -/
theorem W.lele {d : Expr} (h : CE c a Δ μ (fun d1 m => CE c b Δ m (fun d2 m' => aII d1 d2 fun i j => if decide (i ≤ j) = true then CE c d Δ m' (fun d3 m2 => aI d3 fun k => Q (.bl (decide (j ≤ k))) m2) Ex else Q (.bl false) m') Ex) Ex)
    (hp : ∀ ta tb tc, PE c.X a ta → PE c.X b tb → PE c.X d tc → PE c.X (.Compare a [.LtE, .LtE] [b, d] pos) (tChain (rI0 fun i j => .bl (decide (i ≤ j))) (rI0 fun i j => .bl (decide (i ≤ j))) ta tb tc)) :
    CE c (.Compare a [.LtE, .LtE] [b, d] pos) Δ μ Q Ex := CE.chain (f := fun i j => decide (i ≤ j)) (g := fun i j => decide (i ≤ j)) op_le op_le hp h
theorem W.lelt {d : Expr} (h : CE c a Δ μ (fun d1 m => CE c b Δ m (fun d2 m' => aII d1 d2 fun i j => if decide (i ≤ j) = true then CE c d Δ m' (fun d3 m2 => aI d3 fun k => Q (.bl (decide (j < k))) m2) Ex else Q (.bl false) m') Ex) Ex)
    (hp : ∀ ta tb tc, PE c.X a ta → PE c.X b tb → PE c.X d tc → PE c.X (.Compare a [.LtE, .Lt] [b, d] pos) (tChain (rI0 fun i j => .bl (decide (i ≤ j))) (rI0 fun i j => .bl (decide (i < j))) ta tb tc)) :
    CE c (.Compare a [.LtE, .Lt] [b, d] pos) Δ μ Q Ex := CE.chain (f := fun i j => decide (i ≤ j)) (g := fun i j => decide (i < j)) op_le op_lt hp h
theorem T.val (h : CE c e Δ μ (fun d m => aB d fun k => QB k m) Ex) (he : ∀ whole, isTrue e c.X.env whole = (do let v ← whole; standAt e.pos; holding [v] (truthy v)) := by intro _; rfl) : CT c e Δ μ QB Ex := CE.tru_of h he
/-- an int as a test -/
theorem T.int (h : CE c e Δ μ (fun d m => aI d fun i => QB (i != 0) m) Ex) (he : ∀ whole, isTrue e c.X.env whole = (do let v ← whole; standAt e.pos; holding [v] (truthy v)) := by intro _; rfl) : CT c e Δ μ QB Ex := by
  intro σ H ok hs QV hQ hX
  refine ⟨_, pt_truth pe_w he, h σ H ok hs _ (fun x d1 m1 H1 e1 t1 ⟨i, z, q⟩ => ?_) hX⟩
  subst z; cases t1
  exact ⟨_, rfl, hQ _ _ _ e1 q⟩
theorem W.and {rest : List Expr} (h : CE c a Δ μ (fun d m => aB d fun k => if k = true then CE c (.BoolOp .And (b :: rest) pos) Δ m Q Ex else Q (.bl false) m) Ex) : CE c (.BoolOp .And (a :: b :: rest) pos) Δ μ Q Ex := CE.and h
theorem W.or {rest : List Expr} (h : CE c a Δ μ (fun d m => aB d fun k => if k = true then Q (.bl true) m else CE c (.BoolOp .Or (b :: rest) pos) Δ m Q Ex) Ex) : CE c (.BoolOp .Or (a :: b :: rest) pos) Δ μ Q Ex := CE.or h
theorem W.not (h : CE c a Δ μ (fun d m => aB d fun k => Q (.bl (!k)) m) Ex) : CE c (.UnaryOp .Not a pos) Δ μ Q Ex := CE.not h
theorem W.len (hm : NB c.X.mg "len") (h : CE c e Δ μ (fun d m => aSeq m d fun ds => Q (.int ds.length) m) Ex) (hg : Gl c.X "len" := by rfl)
    (he : starEach [e] c.X.env = (false, eval e c.X.env) :: starEach [] c.X.env := by rfl) (hpl : (backTo pos (starEach [] c.X.env)).any (·.1) = false := by rfl) : CE c (.Call (.Name "len" p) [e] [] pos) Δ μ Q Ex := CE.len hm h hg he hpl
theorem W.abs (hm : NB c.X.mg "abs") (h : CE c e Δ μ (fun d m => aI d fun i => Q (.int (if i < 0 then -i else i)) m) Ex) (hg : Gl c.X "abs" := by rfl)
    (he : starEach [e] c.X.env = (false, eval e c.X.env) :: starEach [] c.X.env := by rfl) (hpl : (backTo pos (starEach [] c.X.env)).any (·.1) = false := by rfl) : CE c (.Call (.Name "abs" p) [e] [] pos) Δ μ Q Ex := CE.abs hm h hg he hpl
def aIB (d : D) (R : Int → Prop) : Prop := (∃ i, d = .int i ∧ R i) ∨ ∃ k, d = .bl k ∧ R (if k then 1 else 0)
theorem aIB.int {i : Int} {R : Int → Prop} (h : R i) : aIB (.int i) R := .inl ⟨i, rfl, h⟩
theorem aIB.bl {k : Bool} {R : Int → Prop} (h : R (if k then 1 else 0)) : aIB (.bl k) R := .inr ⟨k, rfl, h⟩
theorem W.intI (hm : NB c.X.mg "int") (h : CE c e Δ μ (fun d m => aIB d fun i => Q (.int i) m) Ex) (hg : Gl c.X "int" := by rfl)
    (he : starEach [e] c.X.env = (false, eval e c.X.env) :: starEach [] c.X.env := by rfl) (hpl : (backTo pos (starEach [] c.X.env)).any (·.1) = false := by rfl) : CE c (.Call (.Name "int" p) [e] [] pos) Δ μ Q Ex := CE.intI hm h hg he hpl
def aIS (d : D) (R : Str → Prop) : Prop := (∃ i, d = .int i ∧ i.natAbs.log2 < 1920 ∧ R (toString i)) ∨ ∃ s, d = .str s ∧ R s
theorem aIS.int {i : Int} {R : Str → Prop} (hl : i.natAbs.log2 < 1920) (h : R (toString i)) : aIS (.int i) R := .inl ⟨i, rfl, hl, h⟩
theorem aIS.str {k : Str} {R : Str → Prop} (h : R k) : aIS (.str k) R := .inr ⟨k, rfl, h⟩
theorem W.strA (hm : NB c.X.mg "str") (h : CE c e Δ μ (fun d m => aIS d fun s => Q (.str s) m) Ex) (hg : Gl c.X "str" := by rfl)
    (he : starEach [e] c.X.env = (false, eval e c.X.env) :: starEach [] c.X.env := by rfl) (hpl : (backTo pos (starEach [] c.X.env)).any (·.1) = false := by rfl) : CE c (.Call (.Name "str" p) [e] [] pos) Δ μ Q Ex := CE.strA hm h hg he hpl
theorem W.all (hcalm : c.X.calm = true) (hm : NB c.X.mg "all") (h : CE c e Δ μ (fun d m => aLst m d fun ds => ∃ ns : List Bool, ds = ns.map .bl ∧ Q (.bl (ns.all id)) m) Ex) (hg : Gl c.X "all" := by rfl)
    (he : starEach [e] c.X.env = (false, eval e c.X.env) :: starEach [] c.X.env := by rfl) (hpl : (backTo pos (starEach [] c.X.env)).any (·.1) = false := by rfl) : CE c (.Call (.Name "all" p) [e] [] pos) Δ μ Q Ex :=
  CE.all hcalm hm (h.imp fun d m ⟨ds, h1, ns, h2, q⟩ => ⟨ns, by rw [← h2]; exact h1, q⟩) hg he hpl
theorem W.sum (hcalm : c.X.calm = true) (hm : NB c.X.mg "sum") (h : CE c e Δ μ (fun d m => aLst m d fun ds => ∃ ns : List Int, ds = ns.map .int ∧ Q (.int ns.sum) m) Ex) (hg : Gl c.X "sum" := by rfl)
    (he : starEach [e] c.X.env = (false, eval e c.X.env) :: starEach [] c.X.env := by rfl) (hpl : (backTo pos (starEach [] c.X.env)).any (·.1) = false := by rfl) : CE c (.Call (.Name "sum" p) [e] [] pos) Δ μ Q Ex :=
  CE.sum hcalm hm (h.imp fun d m ⟨ds, h1, ns, h2, q⟩ => ⟨ns, by rw [← h2]; exact h1, q⟩) hg he hpl
theorem W.listOf (hm : NB c.X.mg "list") (h : CE c e Δ μ (fun d m => aSeq m d fun ds => Q (.lst ds) m) Ex) (hg : Gl c.X "list" := by rfl)
    (he : starEach [e] c.X.env = (false, eval e c.X.env) :: starEach [] c.X.env := by rfl) (hpl : (backTo pos (starEach [] c.X.env)).any (·.1) = false := by rfl) : CE c (.Call (.Name "list" p) [e] [] pos) Δ μ Q Ex := CE.listOf hm h hg he hpl
theorem W.tupleOf (hm : NB c.X.mg "tuple") (h : CE c e Δ μ (fun d m => aSeq m d fun ds => Q (.tup ds) m) Ex) (hg : Gl c.X "tuple" := by rfl)
    (he : starEach [e] c.X.env = (false, eval e c.X.env) :: starEach [] c.X.env := by rfl) (hpl : (backTo pos (starEach [] c.X.env)).any (·.1) = false := by rfl) : CE c (.Call (.Name "tuple" p) [e] [] pos) Δ μ Q Ex := CE.tupleOf hm h hg he hpl
theorem W.max2 (hcalm : c.X.calm = true) (hm : NB c.X.mg "max") (h : CE c a Δ μ (fun d1 m => CE c b Δ m (fun d2 m' => aII d1 d2 fun i j => Q (.int (if j > i then j else i)) m') Ex) Ex) (hg : Gl c.X "max" := by rfl)
    (he : starEach [a, b] c.X.env = (false, eval a c.X.env) :: starEach [b] c.X.env := by rfl) (he2 : starEach [b] c.X.env = (false, eval b c.X.env) :: starEach [] c.X.env := by rfl) (hpl : (backTo pos (starEach [b] c.X.env)).any (·.1) = false := by rfl) : CE c (.Call (.Name "max" p) [a, b] [] pos) Δ μ Q Ex :=
  CE.max2 hcalm hm (CA.cons (h.imp fun d1 m h1 => CA.cons (h1.imp fun d2 m2 ⟨i, j, z1, z2, q⟩ => CA.nil ⟨i, j, by rw [z1, z2], q⟩) he2) he) hg he hpl
theorem W.min2 (hcalm : c.X.calm = true) (hm : NB c.X.mg "min") (h : CE c a Δ μ (fun d1 m => CE c b Δ m (fun d2 m' => aII d1 d2 fun i j => Q (.int (if j < i then j else i)) m') Ex) Ex) (hg : Gl c.X "min" := by rfl)
    (he : starEach [a, b] c.X.env = (false, eval a c.X.env) :: starEach [b] c.X.env := by rfl) (he2 : starEach [b] c.X.env = (false, eval b c.X.env) :: starEach [] c.X.env := by rfl) (hpl : (backTo pos (starEach [b] c.X.env)).any (·.1) = false := by rfl) : CE c (.Call (.Name "min" p) [a, b] [] pos) Δ μ Q Ex :=
  CE.min2 hcalm hm (CA.cons (h.imp fun d1 m h1 => CA.cons (h1.imp fun d2 m2 ⟨i, j, z1, z2, q⟩ => CA.nil ⟨i, j, by rw [z1, z2], q⟩) he2) he) hg he hpl
/-- isinstance with a built-in class, by its name -/
inductive TyS : Str → String → Prop
  | bool : TyS "bool" "bool" | int : TyS "int" "int" | str : TyS "str" "str" | tuple : TyS "tuple" "tuple" | list : TyS "list" "list" | dict : TyS "dict" "dict"
theorem W.isi {T : Str} {S : String} {p2 : Pos} (hT : TyS T S) (hm : NB c.X.mg "isinstance") (hmT : NB c.X.mg T) (h : CE c e Δ μ (fun d m => aTy d fun n => Q (.bl (isT n S)) m) Ex) (hg : Gl c.X "isinstance" := by rfl) (hgT : Gl c.X T := by rfl)
    (he : starEach [e, .Name T p2] c.X.env = (false, eval e c.X.env) :: starEach [.Name T p2] c.X.env := by rfl) (he2 : starEach [.Name T p2] c.X.env = (false, eval (.Name T p2) c.X.env) :: starEach [] c.X.env := by rfl)
    (hpl : (backTo pos (starEach [.Name T p2] c.X.env)).any (·.1) = false := by rfl) : CE c (.Call (.Name "isinstance" p) [e, .Name T p2] [] pos) Δ μ Q Ex := by
  cases hT
  · exact CE.isi hm hmT bv_bool (by decide) h hg hgT (by decide) (by decide) he he2 hpl
  · exact CE.isi hm hmT bv_int (by decide) h hg hgT (by decide) (by decide) he he2 hpl
  · exact CE.isi hm hmT bv_str (by decide) h hg hgT (by decide) (by decide) he he2 hpl
  · exact CE.isi hm hmT bv_tuple (by decide) h hg hgT (by decide) (by decide) he he2 hpl
  · exact CE.isi hm hmT bv_list (by decide) h hg hgT (by decide) (by decide) he he2 hpl
  · exact CE.isi hm hmT bv_dict (by decide) h hg hgT (by decide) (by decide) he he2 hpl
theorem W.ix (h : CE c a Δ μ (fun d1 m => CE c b Δ m (fun d2 m' => aSeq m' d1 fun ds => aI d2 fun j => aAt ds j fun v => Q v m') Ex) Ex) (hp : PlainIx b := by exact fun _ _ => rfl) : CE c (.Subscript a b pos) Δ μ Q Ex :=
  CE.ix (h.imp fun d1 m h1 => h1.imp fun d2 m2 ⟨ds, h2, j, h3, v, h4, q⟩ => ⟨ds, j, v, h2, h3, h4, q⟩) hp
theorem W.sl {lo hi : Option Expr} {p2 : Pos} (h : CE c a Δ μ (fun d m => CO c lo Δ m (fun l m1 => CO c hi Δ m1 (fun u m2 => aSl m2 d l u fun v => Q v m2) Ex) Ex) Ex) : CE c (.Subscript a (.Slice lo hi none p2) pos) Δ μ Q Ex := CE.sl h
theorem O.some {QO : Option Int → Mu → Prop} (h : CE c e Δ μ (fun d m => aI d fun i => QO (some i) m) Ex) : CO c (some e) Δ μ QO Ex := CO.some h
theorem W.tup {k} (h : CA c es Δ μ (fun ds m => ds.length ≤ 1000 ∧ Q (.tup ds) m) Ex) : CE c (.Tuple es k pos) Δ μ Q Ex := CE.tup h
theorem A.star {p : Pos} (h : CE c a Δ μ (fun d m => aSeq m d fun xs => CA c es Δ m (fun ds m' => QA (xs ++ ds) m') Ex) Ex) (hst : starEach (.Starred a p :: es) c.X.env = (true, eval a c.X.env) :: starEach es c.X.env := by rfl) : CA c (.Starred a p :: es) Δ μ QA Ex := CA.star h hst
theorem W.fld {f : Str} (h : CE c e Δ μ (fun d m => aObj m d fun C fs => FldC c.K C f ∧ aLook f fs fun v => Q v m) Ex) (hb : attributeBase e f c.X.env (eval e c.X.env) = eval e c.X.env := by rfl) : CE c (.Attribute e f pos) Δ μ Q Ex :=
  CE.fld (h.imp fun d m ⟨C, fs, h1, h2, v, h3, q⟩ => ⟨C, fs, v, h1, h2.c, h2.n, h3, q⟩) hb
theorem W.append {o : Expr} (h : CE c o Δ μ (fun d m => aLoc m d fun l _ => CE c e Δ m (fun d2 m' => aLoc m' (.loc l) fun l ds => ds.length ≤ 1000000 ∧ Q .non (m'.set l (.l (ds ++ [d2])))) Ex) Ex)
    (hst : starEach [e] c.X.env = (false, eval e c.X.env) :: starEach [] c.X.env := by rfl) (hp : ∀ to ta, PE c.X o to → PA c.X [e] ta → PE c.X (.Call (.Attribute o "append" apos) [e] [] pos) (tBM c.K "list" rAppend to ta)) : CE c (.Call (.Attribute o "append" apos) [e] [] pos) Δ μ Q Ex :=
  CE.bmL PySem.F.slot_list_append PySem.F.type_list_append mt_append (h.imp fun d m ⟨l, ds, z, hm, q⟩ => ⟨l, ds, z, hm, CA.cons (q.imp fun d2 m' ⟨l2, ds2, z2, hm2, hl, q2⟩ => CA.nil (by cases z2; subst z; exact pm_append hm2 hl q2)) hst⟩) hp
theorem W.extend {o : Expr} (h : CE c o Δ μ (fun d m => aLoc m d fun l _ => CE c e Δ m (fun d2 m' => aLst m' d2 fun es => aLoc m' (.loc l) fun l ds => ds.length + es.length ≤ 1000000 ∧ Q .non (m'.set l (.l (ds ++ es)))) Ex) Ex)
    (hst : starEach [e] c.X.env = (false, eval e c.X.env) :: starEach [] c.X.env := by rfl) (hp : ∀ to ta, PE c.X o to → PA c.X [e] ta → PE c.X (.Call (.Attribute o "extend" apos) [e] [] pos) (tBM c.K "list" rExtend to ta)) : CE c (.Call (.Attribute o "extend" apos) [e] [] pos) Δ μ Q Ex :=
  CE.bmL PySem.F.slot_list_extend PySem.F.type_list_extend mt_extend (h.imp fun d m ⟨l, ds, z, hm, q⟩ => ⟨l, ds, z, hm, CA.cons (q.imp fun d2 m' ⟨es, h5, l2, ds2, z2, hm2, hl, q2⟩ => CA.nil (by cases z2; subst z; exact pm_extend hm2 h5 hl q2)) hst⟩) hp
theorem W.pop {o : Expr} (h : CE c o Δ μ (fun d m => aLoc m d fun l ds => ∃ v, ds[ds.length - 1]? = some v ∧ Q v (m.set l (.l ds.dropLast))) Ex) (hp : ∀ to, PE c.X o to → PE c.X (.Call (.Attribute o "pop" apos) [] [] pos) (tBM0 c.K "list" rPop to)) : CE c (.Call (.Attribute o "pop" apos) [] [] pos) Δ μ Q Ex :=
  CE.bmL0 PySem.F.slot_list_pop PySem.F.type_list_pop mt_pop (h.imp fun d m ⟨l, ds, z, hm, v, hv, q⟩ => ⟨l, ds, z, hm, by subst z; exact pm_pop hm hv q⟩) hp
theorem W.popAt {o : Expr} (h : CE c o Δ μ (fun d m => aLoc m d fun l _ => CE c e Δ m (fun d2 m' => aI d2 fun i => aLoc m' (.loc l) fun l ds => ∃ n v, (-(2 ^ 63) ≤ i ∧ i < 2 ^ 63) ∧ seqIndex? i ds.length = some n ∧ ds[n]? = some v ∧ Q v (m'.set l (.l (ds.eraseIdx n)))) Ex) Ex)
    (hst : starEach [e] c.X.env = (false, eval e c.X.env) :: starEach [] c.X.env := by rfl) (hp : ∀ to ta, PE c.X o to → PA c.X [e] ta → PE c.X (.Call (.Attribute o "pop" apos) [e] [] pos) (tBM c.K "list" rPopAt to ta)) : CE c (.Call (.Attribute o "pop" apos) [e] [] pos) Δ μ Q Ex :=
  CE.bmL PySem.F.slot_list_pop PySem.F.type_list_pop mt_popAt (h.imp fun d m ⟨l, ds, z, hm, q⟩ => ⟨l, ds, z, hm, CA.cons (q.imp fun d2 m' ⟨i, z3, l2, ds2, z2, hm2, n, v, hi, hn, hv, q2⟩ => CA.nil (by cases z2; subst z; subst z3; exact pm_popAt hm2 hi.1 hi.2 hn hv q2)) hst⟩) hp
theorem W.join {o : Expr} (h : CE c o Δ μ (fun d m => aS d fun sep => CE c e Δ m (fun d2 m' => aLst m' d2 fun ds => ∃ ys : List Str, ds = ys.map .str ∧ (ys.map (·.length)).sum + ys.length * sep.length ≤ 1000000 ∧ Q (.str (Txt.join sep ys)) m') Ex) Ex)
    (hs : starEach [e] c.X.env = [(false, eval e c.X.env)] := by rfl) (hbase : attributeBase o "join" c.X.env (eval o c.X.env) = eval o c.X.env := by rfl) (hline : (apos.endLine == pos.line) = true := by rfl) : CE c (.Call (.Attribute o "join" apos) [e] [] pos) Δ μ Q Ex :=
  CE.join (h.imp fun d m ⟨s, z, h1⟩ => ⟨s, z, h1.imp fun d2 m2 ⟨ds, h2, ys, z2, hl, q⟩ => ⟨ys, by rw [← z2]; exact h2, hl, q⟩⟩) hs hbase hline
theorem W.split {o : Expr} (h : CE c o Δ μ (fun d m => aS d fun s => CE c e Δ m (fun d2 m' => aS d2 fun sep => (sep.length == 0) = false ∧ s.length + 2 ≤ 1000000 ∧ Q (.lst ((Txt.split s sep).map .str)) m') Ex) Ex)
    (hs : starEach [e] c.X.env = [(false, eval e c.X.env)] := by rfl) (hbase : attributeBase o "split" c.X.env (eval o c.X.env) = eval o c.X.env := by rfl) (hline : (apos.endLine == pos.line) = true := by rfl) : CE c (.Call (.Attribute o "split" apos) [e] [] pos) Δ μ Q Ex :=
  CE.split h hs hbase hline
theorem S.fld {o : Expr} {f : Str} {p : Pos} (h : CE c e Δ μ (fun d m => CE c o Δ m (fun d1 m1 => ∃ C fs a, d1 = .loc a ∧ m1 a = some (.o C fs) ∧ FldC c.K C f ∧ fs.length < 1000 ∧ E.nx Δ (m1.set a (.o C (setF f d fs)))) E.ex) E.ex)
    (hsw : swapsWith e (some (.Attribute o f p)) pos.line c.X.env = pure false := by rfl) : CS c (.Assign [.Attribute o f p] e pos) Δ μ E :=
  CS.fld (h.imp fun d m h1 => h1.imp fun d1 m1 ⟨C, fs, a, z, hm, hf, hl, q⟩ => ⟨C, fs, a, z, hm, hf.c, hf.n, hl, q⟩) hsw
theorem I.list {tg : Expr} (h : CE c e Δ μ (fun d m => aStay d fun ds => QA ds m) Ex) : CI c tg e Δ μ QA Ex := CI.list h
theorem I.tup {tg : Expr} (h : CE c e Δ μ (fun d m => aTup d fun ds => QA ds m) Ex) : CI c tg e Δ μ QA Ex := CI.tup h
theorem I.range1 {tg : Expr} (hm : NB c.X.mg "range") (h : CE c e Δ μ (fun d m => aI d fun j => (-(2 ^ 62) ≤ j ∧ j < 2 ^ 62) ∧ QA (rngD 0 1 j.toNat) m) Ex) (hg : Gl c.X "range" := by rfl)
    (hst : starEach [e] c.X.env = [(false, eval e c.X.env)] := by rfl) : CI c tg (.Call (.Name "range" p) [e] [] pos) Δ μ QA Ex := CI.range1 hm (h.imp fun d m ⟨j, z, h1, q⟩ => ⟨j, z, h1.1, h1.2, q⟩) hg hst
theorem I.range2 {tg : Expr} (hm : NB c.X.mg "range") (h : CE c a Δ μ (fun d1 m => CE c b Δ m (fun d2 m' => aII d1 d2 fun i j => (-(2 ^ 62) ≤ i ∧ i < 2 ^ 62 ∧ -(2 ^ 62) ≤ j ∧ j < 2 ^ 62) ∧ QA (rngD i 1 (j - i).toNat) m') Ex) Ex) (hg : Gl c.X "range" := by rfl)
    (hst : starEach [a, b] c.X.env = [(false, eval a c.X.env), (false, eval b c.X.env)] := by rfl) (hst2 : starEach [b] c.X.env = [(false, eval b c.X.env)] := by rfl) : CI c tg (.Call (.Name "range" p) [a, b] [] pos) Δ μ QA Ex :=
  CI.range2 hm (CA.cons (h.imp fun d1 m h1 => CA.cons (h1.imp fun d2 m2 ⟨i, j, z1, z2, h3, q⟩ => CA.nil ⟨i, j, by rw [z1, z2], h3, q⟩) hst2) (by rw [hst, hst2])) hg hst hst2
theorem I.enum {elts : List Expr} {kk : Nat} {tpos : Pos} (hm : NB c.X.mg "enumerate") (h : CE c e Δ μ (fun d m => aStay d fun ds => QA (enumD ds) m) Ex) (hg : Gl c.X "enumerate" := by rfl)
    (hst : starEach [e] c.X.env = [(false, eval e c.X.env)] := by rfl) : CI c (.Tuple elts kk tpos) (.Call (.Name "enumerate" p) [e] [] pos) Δ μ QA Ex := CI.enum hm h hg hst
theorem W.call {x : Str} {k j : Nat} {s : SpD} (F : FnG c.X.prog c.X.w c.K c.X.mg c.X.base x k s) (hr : Room j c.X.A) (hl : k ≤ j) (h : CA c (e :: es) Δ μ (fun ds m => s ds m Q (fun C o m' => Ex C o Δ m')) Ex) (hg : Gl c.X x := by rfl) (hdb : (x == ("__debug__" : Str)) = false := by decide)
    (he : starEach (e :: es) c.X.env = (false, eval e c.X.env) :: starEach es c.X.env := by rfl) (hpl : (backTo pos (starEach es c.X.env)).any (·.1) = false := by rfl) : CE c (.Call (.Name x p) (e :: es) [] pos) Δ μ Q Ex := CE.call F.at (hr.mono hl) h hg hdb he hpl
theorem W.call0 {x : Str} {k j : Nat} {s : SpD} (F : FnG c.X.prog c.X.w c.K c.X.mg c.X.base x k s) (hr : Room j c.X.A) (hl : k ≤ j) (h : s [] μ Q (fun C o m' => Ex C o Δ m')) (hg : Gl c.X x := by rfl) (hdb : (x == ("__debug__" : Str)) = false := by decide) : CE c (.Call (.Name x p) [] [] pos) Δ μ Q Ex := CE.call0 F.at (hr.mono hl) h hg hdb
/-- what is made changes no more -/
def aFrz (d : D) (m : Mu) (Q : D → Mu → Prop) : Prop := ∃ p C fs, d = .loc p ∧ m p = some (.o C fs) ∧ Q (.ins C fs) (m.del p)
theorem aFrz.mk {p C : Addr} {fs : List (Str × D)} {m : Mu} (hm : m p = some (.o C fs)) (q : Q (.ins C fs) (m.del p)) : aFrz (.loc p) m Q := ⟨p, C, fs, rfl, hm, q⟩
theorem W.make {x : Str} {C : Addr} {k j : Nat} {s : SpD} (F : CnG c.X.prog c.X.w c.K c.X.mg c.X.base x C k s) (hr : Room j c.X.A) (hl : k + 1 ≤ j)
    (h : CA c (e :: es) Δ μ (fun ds m1 => ∀ p, m1 p = none → s (.loc p :: ds) (m1.set p (.o C [])) (fun d m2 => d = .non ∧ aFrz (.loc p) m2 Q) (fun C o m' => Ex C o Δ m')) Ex) (hg : Gl c.X x := by rfl) (hdb : (x == ("__debug__" : Str)) = false := by decide)
    (he : starEach (e :: es) c.X.env = (false, eval e c.X.env) :: starEach es c.X.env := by rfl) (hpl : (backTo pos (starEach es c.X.env)).any (·.1) = false := by rfl) : CE c (.Call (.Name x p) (e :: es) [] pos) Δ μ Q Ex :=
  CE.freezeO (CE.make F.at (hr.mono hl) h hg hdb he hpl)
def aMeth (m : Mu) (d : D) (C : Addr) (mth : Str) (R : Prop) : Prop := ∃ fs, InsAt m d C fs ∧ lookF mth fs = none ∧ R
theorem aMeth.ins {m : Mu} {C : Addr} {mth : Str} {fs : List (Str × D)} {R : Prop} (hl : lookF mth fs = none) (h : R) : aMeth m (.ins C fs) C mth R := ⟨fs, .inl rfl, hl, h⟩
theorem aMeth.loc {m : Mu} {C l : Addr} {mth : Str} {fs : List (Str × D)} {R : Prop} (hm : m l = some (.o C fs)) (hl : lookF mth fs = none) (h : R) : aMeth m (.loc l) C mth R := ⟨fs, .inr ⟨l, rfl, hm⟩, hl, h⟩
theorem W.meth {C : Addr} {mth : Str} {k j : Nat} {s : SpD} {o : Expr} {pl : Sem Bool} (F : MtG c.X.prog c.X.w c.K c.X.mg c.X.base C mth k s) (hr : Room j c.X.A) (hl : k ≤ j)
    (h : CE c o Δ μ (fun d m1 => aMeth m1 d C mth (CA c (e :: es) Δ m1 (fun ds m' => s (d :: ds) m' Q (fun C o m' => Ex C o Δ m')) Ex)) Ex)
    (hst : starEach (e :: es) c.X.env = (false, eval e c.X.env) :: starEach es c.X.env := by rfl) (hpl : (backTo pos (starEach es c.X.env)).any (·.1) = false := by rfl)
    (ht : eval (.Call (.Attribute o mth apos) (e :: es) [] pos) c.X.env = (do
      let ov ← eval o c.X.env
      standAt apos.atName
      let (f, first) ← holding [ov] (getMethod ov mth pl)
      callWith pos f first (backTo pos (starEach (e :: es) c.X.env)) (backToKw pos (keywordEach [] c.X.env))) := by rfl) : CE c (.Call (.Attribute o mth apos) (e :: es) [] pos) Δ μ Q Ex :=
  CE.meth F.at (hr.mono hl) h hst hpl ht
theorem W.meth0 {C : Addr} {mth : Str} {k j : Nat} {s : SpD} {o : Expr} {pl : Sem Bool} (F : MtG c.X.prog c.X.w c.K c.X.mg c.X.base C mth k s) (hr : Room j c.X.A) (hl : k ≤ j)
    (h : CE c o Δ μ (fun d m1 => aMeth m1 d C mth (s [d] m1 Q (fun C o m' => Ex C o Δ m'))) Ex)
    (ht : eval (.Call (.Attribute o mth apos) [] [] pos) c.X.env = (do
      let ov ← eval o c.X.env
      standAt apos.atName
      let (f, first) ← holding [ov] (getMethod ov mth pl)
      callWith pos f first (backTo pos (starEach [] c.X.env)) (backToKw pos (keywordEach [] c.X.env))) := by rfl) : CE c (.Call (.Attribute o mth apos) [] [] pos) Δ μ Q Ex :=
  CE.meth0 F.at (hr.mono hl) h ht
end
end AM

set_option autoImplicit false
set_option maxRecDepth 100000
set_option maxHeartbeats 1000000
namespace AM
open PySem L2 PySem.Spec PyProof.Rows
/-! ### ways that part -/
theorem ifD {p A B : Prop} [Decidable p] (h1 : p → A) (h2 : ¬ p → B) : if decide p = true then A else B := by
  by_cases h : p
  · rw [if_pos (decide_eq_true h)]; exact h1 h
  · rw [if_neg (by rw [decide_eq_false h]; decide)]; exact h2 h
theorem ifN {b : Bool} {A B : Prop} (h : if b = true then B else A) : if (!b) = true then A else B := by
  cases b <;> simpa using h
theorem ifB {b : Bool} {A B : Prop} (h1 : b = true → A) (h2 : b = false → B) : if b = true then A else B := by
  cases b
  · rw [if_neg (by decide)]; exact h2 rfl
  · rw [if_pos rfl]; exact h1 rfl
theorem ifDT {p A B : Prop} [Decidable p] (h : p) (q : A) : if decide p = true then A else B := by rw [if_pos (decide_eq_true h)]; exact q
theorem ifDF {p A B : Prop} [Decidable p] (h : ¬ p) (q : B) : if decide p = true then A else B := by rw [if_neg (by rw [decide_eq_false h]; decide)]; exact q
theorem ifT {b : Bool} {A B : Prop} (h : b = true) (q : A) : if b = true then A else B := by rw [if_pos h]; exact q
theorem ifF {b : Bool} {A B : Prop} (h : b = false) (q : B) : if b = true then A else B := by rw [if_neg (by rw [h]; decide)]; exact q
theorem toQ {Q : D → Mu → Prop} {d d' : D} {m m' : Mu} (q : Q d m) (h : d' = d) (hm : m' = m) : Q d' m' := by rw [h, hm]; exact q
theorem toQb {Q : D → Mu → Prop} {b b' : Bool} {m : Mu} (q : Q (.bl b) m) (h : b' = b) : Q (.bl b') m := by rw [h]; exact q
theorem toQi {Q : D → Mu → Prop} {b b' : Int} {m : Mu} (q : Q (.int b) m) (h : b' = b) : Q (.int b') m := by rw [h]; exact q
/-! ### comprehensions that change nothing -/
section
variable {c : Ctx} {scope : Scope} {vs : List Nat} {g : TGD} {t elt : Expr} {Δ : Sl} {Q : D → Mu → Prop} {ds : List D} {m : Mu}
theorem LcD.map (f : Nat → D → D) (hl : ds.length ≤ 100000) (h : ∀ i d acc L, ds[i]? = some d → m L = none → ∃ Δ2, g d (wipeD Δ vs) = some Δ2 ∧ AllB c scope fun c => CE c elt Δ2 (m.set L (.l acc)) (fun r m2 => r = f i d ∧ m2 = m.set L (.l acc)) noX)
    (q : Q (.lst (ds.mapIdx f)) m) : LcD c scope vs g [] elt Δ Q ds m := by
  refine ⟨hl, fun i acc m' => m' = m ∧ acc = (ds.mapIdx f).take i, ⟨rfl, rfl⟩, fun i d acc m' L hd ⟨e1, e2⟩ hL => ?_, fun acc m' ⟨e1, e2⟩ => ?_⟩
  · subst e1
    obtain ⟨Δ2, hg, he⟩ := h i d acc L hd hL
    refine ⟨Δ2, hg, fun s H C cl fp => (he s H C cl fp).imp fun r m2 ⟨z1, z2⟩ => ⟨m', z2, hL, rfl, ?_⟩⟩
    subst z1; subst e2
    have : (ds.mapIdx f)[i]? = some (f i d) := by rw [List.getElem?_mapIdx, hd]; rfl
    rw [List.take_succ, this]
  · subst e1; subst e2
    have : (ds.mapIdx f).length = ds.length := by simp
    rw [← this, List.take_length]; exact q
theorem mapIdx_map {ds : List D} {f : D → D} : ds.mapIdx (fun _ d => f d) = ds.map f := by
  apply List.ext_getElem?
  intro i
  rw [List.getElem?_mapIdx, List.getElem?_map]
theorem LcD.map1 (f : D → D) (hl : ds.length ≤ 100000) (h : ∀ d acc L, d ∈ ds → m L = none → ∃ Δ2, g d (wipeD Δ vs) = some Δ2 ∧ AllB c scope fun c => CE c elt Δ2 (m.set L (.l acc)) (fun r m2 => r = f d ∧ m2 = m.set L (.l acc)) noX)
    (q : Q (.lst (ds.map f)) m) : LcD c scope vs g [] elt Δ Q ds m :=
  LcD.map (fun _ d => f d) hl (fun i d acc L hd hL => h d acc L (List.mem_of_getElem? hd) hL) (by rw [mapIdx_map]; exact q)
theorem LcD.filt (p : D → Bool) (f : D → D) (hl : ds.length ≤ 100000) (h : ∀ d acc L, d ∈ ds → m L = none → ∃ Δ2, g d (wipeD Δ vs) = some Δ2 ∧ (AllB c scope fun c => CT c t Δ2 (m.set L (.l acc)) (fun k m2 => k = p d ∧ m2 = m.set L (.l acc)) noX) ∧
      (p d = true → AllB c scope fun c => CE c elt Δ2 (m.set L (.l acc)) (fun r m2 => r = f d ∧ m2 = m.set L (.l acc)) noX))
    (q : Q (.lst ((ds.filter p).map f)) m) : LcD c scope vs g [t] elt Δ Q ds m := by
  refine ⟨hl, fun i acc m' => m' = m ∧ acc = ((ds.take i).filter p).map f, ⟨rfl, rfl⟩, fun i d acc m' L hd ⟨e1, e2⟩ hL => ?_, fun acc m' ⟨e1, e2⟩ => ?_⟩
  · subst e1
    obtain ⟨Δ2, hg, ht, he⟩ := h d acc L (List.mem_of_getElem? hd) hL
    refine ⟨Δ2, hg, p d, ht, fun hp => fun s H C cl fp => (he hp s H C cl fp).imp fun r m2 ⟨z1, z2⟩ => ⟨m', z2, hL, rfl, ?_⟩, fun hp => ⟨m', rfl, hL, rfl, ?_⟩⟩
    · subst z1; subst e2
      rw [List.take_succ, hd, List.filter_append, List.map_append]
      simp [hp]
    · subst e2
      rw [List.take_succ, hd, List.filter_append, List.map_append]
      simp [hp]
  · subst e1; subst e2
    rw [List.take_length]; exact q
end
/-! ### data of the program -/
def btw (v : D) (lo hi : Int) : Bool := match v with
  | .int i => decide (lo ≤ i) && decide (i ≤ hi)
  | _ => false
def Pl (d : D) : Prop := ∃ n, d.tyN = some n
def isS : D → Bool
  | .str _ => true | _ => false
def isTu : D → Bool
  | .tup _ => true | _ => false
inductive Op where
  | and | or | unl
  deriving DecidableEq
inductive Pat where
  | all | none | lamp (k : Int) | dot (k : Int) (u : Bool) | comb (e r : Int) | beat (e r : Int) | not (p : Pat) | bin (o : Op) (p q : Pat)
  deriving DecidableEq
def Op.s : Op → Str
  | .and => "and" | .or => "or" | .unl => "unlike"
def wayS (u : Bool) : Str := if u then "up" else "down"
def Pat.d : Pat → D
  | .all => .tup [.str "all"] | .none => .tup [.str "none"] | .lamp k => .tup [.str "lamp", .int k] | .dot k u => .tup [.str "dot", .int k, .str (wayS u)]
  | .comb e r => .tup [.str "comb", .int e, .int r] | .beat e r => .tup [.str "beat", .int e, .int r] | .not p => .tup [.str "not", p.d] | .bin o p q => .tup [.str o.s, p.d, q.d]
def plc (k : Int) : Prop := -3 ≤ k ∧ k ≤ 2
def evr (e r : Int) : Prop := (e = 2 ∨ e = 3) ∧ 0 ≤ r ∧ r < e
def Pat.ok : Pat → Prop
  | .all => True | .none => True | .lamp k => plc k | .dot k _ => plc k | .comb e r => evr e r | .beat e r => evr e r | .not p => p.ok | .bin _ p q => p.ok ∧ q.ok
def Pat.cnt : Pat → Nat
  | .not p => p.cnt + 1 | .bin _ p q => p.cnt + q.cnt + 1 | _ => 1
def Pat.dep : Pat → Nat
  | .not p => p.dep + 1 | .bin _ p q => max p.dep q.dep + 1 | _ => 0
def Pat.kids : Pat → List Pat
  | .not p => [p] | .bin _ p q => [p, q] | _ => []
def Pat.subs : Pat → List Pat
  | .not p => .not p :: p.subs | .bin o p q => .bin o p q :: (p.subs ++ q.subs) | p => [p]
theorem Pat.subs_len : ∀ p : Pat, p.subs.length = p.cnt
  | .all => rfl | .none => rfl | .lamp _ => rfl | .dot _ _ => rfl | .comb _ _ => rfl | .beat _ _ => rfl
  | .not p => by unfold Pat.subs Pat.cnt; rw [List.length_cons, Pat.subs_len p]
  | .bin o p q => by unfold Pat.subs Pat.cnt; rw [List.length_cons, List.length_append, Pat.subs_len p, Pat.subs_len q]
theorem Pat.depth_py : ∀ p : Pat, p.d.py.depth ≤ p.dep + 2
  | .all => by decide +kernel
  | .none => by decide +kernel
  | .lamp k => by unfold Pat.d D.py D.pys PyData.depth; simp [D.py, D.pys, PyData.depth, PyData.depthAll]
  | .dot k u => by unfold Pat.d D.py D.pys PyData.depth; simp [D.py, D.pys, PyData.depth, PyData.depthAll]
  | .comb e r => by unfold Pat.d D.py D.pys PyData.depth; simp [D.py, D.pys, PyData.depth, PyData.depthAll]
  | .beat e r => by unfold Pat.d D.py D.pys PyData.depth; simp [D.py, D.pys, PyData.depth, PyData.depthAll]
  | .not p => by
    have := Pat.depth_py p
    simp [Pat.d, Pat.dep, D.py, D.pys, PyData.depth, PyData.depthAll]; omega
  | .bin o p q => by
    have := Pat.depth_py p
    have := Pat.depth_py q
    simp [Pat.d, Pat.dep, D.py, D.pys, PyData.depth, PyData.depthAll]; omega
/-! is a piece of data a pattern -/
def inS (s : Str) (l : List Str) : Bool := l.any fun y => y == s
def intOf : D → Int
  | .int i => i | _ => 0
def plainB (s : Str) (its : List D) : Bool :=
  if inS s ["all", "none"] then its.isEmpty
  else if s = "lamp" then (match its with | [k] => btw k (-3) 2 | _ => false)
  else if s = "dot" then (match its with | [k, u] => btw k (-3) 2 && (match u with | .str y => inS y ["down", "up"] | _ => false) | _ => false)
  else if inS s ["beat", "comb"] then (match its with | [e, r] => btw e 2 3 && btw r 0 (intOf e - 1) | _ => false)
  else false
def patB : Nat → D → Bool
  | n + 1, .tup (.str s :: its) => if inS s ["and", "or", "unlike"] then its.length == 2 && its.all (patB n) else if s = "not" then its.length == 1 && its.all (patB n) else plainB s its
  | _, _ => false
theorem patB_pat : ∀ (p : Pat) (n : Nat), p.ok → p.dep < n → patB n p.d = true
  | p, 0, _, h => absurd h (Nat.not_lt_zero _)
  | .all, n + 1, _, _ => rfl
  | .none, n + 1, _, _ => rfl
  | .lamp k, n + 1, h, _ => by
    have : plainB "lamp" [.int k] = btw (.int k) (-3) 2 := rfl
    show plainB "lamp" [.int k] = true
    rw [this]; unfold btw; simp only [Bool.and_eq_true, decide_eq_true_eq]; exact h
  | .dot k u, n + 1, h, _ => by
    have : ∀ u : Bool, plainB "dot" [.int k, .str (wayS u)] = btw (.int k) (-3) 2 := fun u => by cases u <;> (show (btw (.int k) (-3) 2 && true) = _) <;> rw [Bool.and_true]
    show plainB "dot" [.int k, .str (wayS u)] = true
    rw [this]; unfold btw; simp only [Bool.and_eq_true, decide_eq_true_eq]; exact h
  | .comb e r, n + 1, h, _ => by
    have : plainB "comb" [.int e, .int r] = (btw (.int e) 2 3 && btw (.int r) 0 (e - 1)) := rfl
    show plainB "comb" [.int e, .int r] = true
    rw [this]; unfold btw; simp only [Bool.and_eq_true, decide_eq_true_eq]
    obtain ⟨h1, h2, h3⟩ := h
    omega
  | .beat e r, n + 1, h, _ => by
    have : plainB "beat" [.int e, .int r] = (btw (.int e) 2 3 && btw (.int r) 0 (e - 1)) := rfl
    show plainB "beat" [.int e, .int r] = true
    rw [this]; unfold btw; simp only [Bool.and_eq_true, decide_eq_true_eq]
    obtain ⟨h1, h2, h3⟩ := h
    omega
  | .not p, n + 1, h, hd => by
    have : patB (n + 1) (Pat.not p).d = (patB n p.d && true) := rfl
    rw [this, patB_pat p n h (by unfold Pat.dep at hd; omega)]; rfl
  | .bin o p q, n + 1, h, hd => by
    have : ∀ o, patB (n + 1) (Pat.bin o p q).d = (patB n p.d && (patB n q.d && true)) := fun o => by cases o <;> rfl
    unfold Pat.dep at hd
    rw [this, patB_pat p n h.1 (by omega), patB_pat q n h.2 (by omega)]; rfl
theorem pat_isPy : ∀ p : Pat, p.d.isPy = true
  | .all => by decide +kernel
  | .none => by decide +kernel
  | .lamp k => by
    show (PyData.strOk "lamp" && (true && true)) = true
    decide +kernel
  | .dot k u => by
    have : ∀ u, (PyData.strOk "dot" && (true && (PyData.strOk (wayS u) && true))) = true := by decide +kernel
    exact this u
  | .comb e r => by
    show (PyData.strOk "comb" && (true && (true && true))) = true
    decide +kernel
  | .beat e r => by
    show (PyData.strOk "beat" && (true && (true && true))) = true
    decide +kernel
  | .not p => by
    show (PyData.strOk "not" && (p.d.isPy && true)) = true
    rw [pat_isPy p]; decide +kernel
  | .bin o p q => by
    show (PyData.strOk o.s && (p.d.isPy && (q.d.isPy && true))) = true
    rw [pat_isPy p, pat_isPy q]; cases o <;> decide +kernel
end AM
namespace AM
open PySem L2 PySem.Spec PyProof.Rows
theorem inS2 {s a b : Str} (h : inS s [a, b] = true) : s = a ∨ s = b := by
  unfold inS at h; simp at h; rcases h with h | h
  · exact .inl h.symm
  · exact .inr h.symm
theorem inS3 {s a b c : Str} (h : inS s [a, b, c] = true) : s = a ∨ s = b ∨ s = c := by
  unfold inS at h; simp at h; rcases h with h | h | h
  · exact .inl h.symm
  · exact .inr (.inl h.symm)
  · exact .inr (.inr h.symm)
theorem btw_inv {v : D} {lo hi : Int} (h : btw v lo hi = true) : ∃ i, v = .int i ∧ lo ≤ i ∧ i ≤ hi := by
  cases v <;> try (cases h)
  rename_i i
  unfold btw at h
  simp only [Bool.and_eq_true, decide_eq_true_eq] at h
  exact ⟨i, rfl, h.1, h.2⟩
theorem plain_inv {s : Str} {its : List D} (h : plainB s its = true) : ∃ p : Pat, .tup (.str s :: its) = p.d ∧ p.ok ∧ p.dep = 0 := by
  unfold plainB at h
  split at h
  · rename_i hs
    have : its = [] := by cases its <;> first | rfl | cases h
    subst this
    rcases inS2 hs with rfl | rfl
    · exact ⟨.all, rfl, trivial, rfl⟩
    · exact ⟨.none, rfl, trivial, rfl⟩
  · split at h
    · rename_i hs; subst hs
      split at h
      · obtain ⟨i, rfl, h1, h2⟩ := btw_inv h
        exact ⟨.lamp i, rfl, ⟨h1, h2⟩, rfl⟩
      · cases h
    · split at h
      · rename_i hs; subst hs
        split at h
        · rename_i k u
          rw [Bool.and_eq_true] at h
          obtain ⟨i, rfl, h1, h2⟩ := btw_inv h.1
          have h3 := h.2
          split at h3
          · rcases inS2 h3 with rfl | rfl
            · exact ⟨.dot i false, rfl, ⟨h1, h2⟩, rfl⟩
            · exact ⟨.dot i true, rfl, ⟨h1, h2⟩, rfl⟩
          · cases h3
        · cases h
      · split at h
        · rename_i hs
          split at h
          · rename_i e r
            rw [Bool.and_eq_true] at h
            obtain ⟨e, rfl, g1, g2⟩ := btw_inv h.1
            have he : e = 2 ∨ e = 3 := by omega
            have h0 : intOf (.int e) = e := rfl
            rw [h0] at h
            obtain ⟨i, rfl, h1, h2⟩ := btw_inv h.2
            rcases inS2 hs with rfl | rfl
            · exact ⟨.beat e i, rfl, ⟨he, h1, by omega⟩, rfl⟩
            · exact ⟨.comb e i, rfl, ⟨he, h1, by omega⟩, rfl⟩
          · cases h
        · cases h
theorem patB_inv : ∀ (n : Nat) (d : D), patB n d = true → ∃ p : Pat, d = p.d ∧ p.ok ∧ p.dep < n
  | 0, d, h => by unfold patB at h; cases h
  | n + 1, d, h => by
    unfold patB at h
    split at h
    · rename_i n' s its e
      cases e
      split at h
      · rename_i hs
        rw [Bool.and_eq_true] at h
        match its, h.1, h.2 with
        | [a, b], _, h2 =>
          have h2' : (patB n a && (patB n b && true)) = true := h2
          rw [Bool.and_eq_true, Bool.and_eq_true] at h2'
          obtain ⟨p, e1, o1, d1⟩ := patB_inv n a h2'.1
          obtain ⟨q, e2, o2, d2⟩ := patB_inv n b h2'.2.1
          subst e1; subst e2
          rcases inS3 hs with rfl | rfl | rfl
          · exact ⟨.bin .and p q, rfl, ⟨o1, o2⟩, by unfold Pat.dep; omega⟩
          · exact ⟨.bin .or p q, rfl, ⟨o1, o2⟩, by unfold Pat.dep; omega⟩
          · exact ⟨.bin .unl p q, rfl, ⟨o1, o2⟩, by unfold Pat.dep; omega⟩
      · split at h
        · rename_i hs
          subst hs
          rw [Bool.and_eq_true] at h
          match its, h.1, h.2 with
          | [a], _, h2 =>
            have h2' : (patB n a && true) = true := h2
            rw [Bool.and_eq_true] at h2'
            obtain ⟨p, e1, o1, d1⟩ := patB_inv n a h2'.1
            subst e1
            exact ⟨.not p, rfl, o1, by unfold Pat.dep; omega⟩
        · obtain ⟨p, e1, o1, d1⟩ := plain_inv h
          exact ⟨p, e1, o1, by omega⟩
    · cases h
def oneB (v : D) (l : List Str) : Bool := match v with
  | .str s => inS s l
  | _ => false
theorem inD_strs {s : Str} : ∀ {l : List Str}, inD (.str s) (l.map .str) = inS s l
  | [] => rfl
  | y :: l => by
    show (eqFD (.str y) (.str s) || inD (.str s) (l.map .str)) = (y == s || inS s l)
    rw [inD_strs]; rfl
theorem flat_strs : ∀ (l : List Str), (l.map D.str).all D.flat = true
  | [] => rfl
  | _ :: r => by rw [List.map_cons, List.all_cons, flat_strs r]; rfl
end AM
namespace AM
open PySem L2 PySem.Spec PyProof.Rows
def Pat.w : Pat → Str
  | .all => "all" | .none => "none" | .lamp _ => "lamp" | .dot _ _ => "dot" | .comb _ _ => "comb" | .beat _ _ => "beat" | .not _ => "not" | .bin o _ _ => o.s
def Pat.its : Pat → List D
  | .all => [] | .none => [] | .lamp k => [.int k] | .dot k u => [.int k, .str (wayS u)] | .comb e r => [.int e, .int r] | .beat e r => [.int e, .int r] | .not p => [p.d] | .bin _ p q => [p.d, q.d]
theorem Pat.d_eq : ∀ p : Pat, p.d = .tup (.str p.w :: p.its)
  | .all => rfl | .none => rfl | .lamp _ => rfl | .dot _ _ => rfl | .comb _ _ => rfl | .beat _ _ => rfl | .not _ => rfl | .bin _ _ _ => rfl
theorem Pat.d_tu (p : Pat) : isTu p.d = true := by rw [Pat.d_eq]; rfl
theorem Pat.pl (p : Pat) : Pl p.d := by rw [Pat.d_eq]; exact ⟨_, rfl⟩
theorem Pat.its_len (p : Pat) : p.its.length ≤ 2 := by cases p <;> simp [Pat.its]
theorem Pat.its_pl {p : Pat} {d : D} (h : d ∈ p.its) : Pl d := by
  cases p <;> simp [Pat.its] at h
  case lamp => subst h; exact ⟨_, rfl⟩
  case dot => rcases h with rfl | rfl <;> exact ⟨_, rfl⟩
  case comb => rcases h with rfl | rfl <;> exact ⟨_, rfl⟩
  case beat => rcases h with rfl | rfl <;> exact ⟨_, rfl⟩
  case not => subst h; exact Pat.pl _
  case bin => rcases h with rfl | rfl <;> exact Pat.pl _
theorem Pat.its_kids (p : Pat) : p.its.filter isTu = p.kids.map Pat.d := by
  cases p <;> (try rfl)
  case not p => show List.filter isTu [p.d] = [p.d]; simp [Pat.d_tu]
  case bin o p q => show List.filter isTu [p.d, q.d] = [p.d, q.d]; simp [Pat.d_tu]
theorem isT_tu {d : D} {n : String} (h : d.tyN = some n) : isT n "tuple" = isTu d := by
  cases d <;> cases h <;> first | rfl | (show isT _ _ = false; decide +kernel) | (show isT _ _ = true; decide +kernel)
theorem cutD_tail {a : D} {r : List D} : cutD (a :: r) (some 1) none = r := by
  show List.take (HT.sIx (r.length + 1) (r.length + 1) none - HT.sIx (r.length + 1) 0 (some ((1 : Nat) : Int))) (List.drop (HT.sIx (r.length + 1) 0 (some ((1 : Nat) : Int))) (a :: r)) = r
  rw [HT.sIx_nat, HT.sIx_none]
  have h : min 1 (r.length + 1) = 1 := by omega
  rw [h]
  simp
/-- xs[n:], xs[:n] -/
theorem cutD_from {ds : List D} {n : Nat} : cutD ds (some (n : Int)) none = ds.drop n := by
  unfold cutD
  rw [HT.sIx_nat, HT.sIx_none]
  by_cases h : n ≤ ds.length
  · rw [Nat.min_eq_left h, List.take_of_length_le (by rw [List.length_drop]; omega)]
  · rw [Nat.min_eq_right (by omega), List.drop_length, List.drop_of_length_le (by omega), List.take_nil]
theorem cutD_to {ds : List D} {n : Nat} : cutD ds none (some (n : Int)) = ds.take n := by
  unfold cutD
  rw [HT.sIx_nat, HT.sIx_none, List.drop_zero, Nat.sub_zero]
  by_cases h : n ≤ ds.length
  · rw [Nat.min_eq_left h]
  · rw [Nat.min_eq_right (by omega), List.take_length, List.take_of_length_le (by omega)]
end AM
namespace AM
open PySem L2 PySem.Spec PyProof.Rows
def strOf : D → Str
  | .str s => s
  | _ => ""
theorem strsOf_eq : ∀ {ts : List D}, ts.all isS = true → (ts.map strOf).map D.str = ts
  | [], _ => rfl
  | d :: r, h => by
    rw [List.all_cons, Bool.and_eq_true] at h
    rw [List.map_cons, List.map_cons, strsOf_eq h.2]
    have h1 := h.1
    cases d <;> first | (cases h1; done) | rfl
end AM
namespace AM
open PySem L2 PySem.Spec PyProof.Rows
theorem aEq.nilT {ds : List D} {R : Bool → Prop} (h1 : (D.tup ds).isPy = true) (h2 : (D.tup ds).py.depth ≤ 64) (h : R ds.isEmpty) : aEq (.tup ds) (.tup []) R := by
  refine aEq.py h1 rfl h2 (by decide +kernel) ?_
  have : PyData.eqv (D.tup ds).py (D.tup []).py = ds.isEmpty := by
    cases ds with
    | nil => rfl
    | cons a r => rfl
  rw [this]; exact h
theorem isPy_pl {d : D} (h : d.isPy = true) : Pl d := by
  cases d <;> first | exact ⟨_, rfl⟩ | (unfold D.isPy at h; cases h)
theorem arePy_mem : ∀ {ds : List D} {d : D}, D.arePy ds = true → d ∈ ds → d.isPy = true
  | a :: r, d, h, hd => by
    unfold D.arePy at h
    rw [Bool.and_eq_true] at h
    rcases List.mem_cons.mp hd with rfl | hd
    · exact h.1
    · exact arePy_mem h.2 hd
theorem tup_py {ds : List D} : (D.tup ds).isPy = D.arePy ds := by unfold D.isPy; rfl
theorem depth_mem : ∀ {ds : List D} {d : D} {n : Nat}, PyData.depthAll (D.pys ds) ≤ n → d ∈ ds → d.py.depth ≤ n
  | a :: r, d, n, h, hd => by
    unfold D.pys PyData.depthAll at h
    rcases List.mem_cons.mp hd with rfl | hd
    · omega
    · exact depth_mem (by omega) hd
theorem tup_depth {ds : List D} : (D.tup ds).py.depth = PyData.depthAll (D.pys ds) + 1 := by unfold D.py PyData.depth; rfl
theorem tup_tail {a : D} {ds : List D} (h1 : (D.tup (a :: ds)).isPy = true) (h2 : (D.tup (a :: ds)).py.depth ≤ 64) : (D.tup ds).isPy = true ∧ (D.tup ds).py.depth ≤ 64 := by
  rw [tup_py] at h1 ⊢; rw [tup_depth] at h2 ⊢
  unfold D.arePy at h1; unfold D.pys PyData.depthAll at h2
  rw [Bool.and_eq_true] at h1
  exact ⟨h1.2, by omega⟩
end AM
namespace AM
open PySem L2 PySem.Spec PyProof.Rows
theorem atI_nat {ds : List D} {n : Nat} {d : D} (h : ds[n]? = some d) : atI ds (n : Int) = some d := by
  have hl : n < ds.length := (List.getElem?_eq_some_iff.mp h).1
  have e : ixN ds.length (n : Int) = some n := by
    unfold ixN
    rw [if_pos (by omega), if_pos (by omega), Int.toNat_natCast]
  unfold atI
  rw [e]; exact h
theorem atI_of {ds : List D} {j : Int} {n : Nat} {d : D} (hj : j = (n : Int)) (h : ds[n]? = some d) : atI ds j = some d := by subst hj; exact atI_nat h
theorem atI_0 {a : D} {r : List D} : atI (a :: r) 0 = some a := atI_nat (n := 0) rfl
theorem atI_1 {a b : D} {r : List D} : atI (a :: b :: r) 1 = some b := atI_nat (n := 1) rfl
theorem atI_2 {a b c : D} {r : List D} : atI (a :: b :: c :: r) 2 = some c := atI_nat (n := 2) rfl
end AM
namespace AM
open PySem L2 PySem.Spec PyProof.Rows
theorem flat_of_S : ∀ {ts : List D}, ts.all isS = true → ts.all D.flat = true
  | [], _ => rfl
  | d :: r, h => by
    rw [List.all_cons, Bool.and_eq_true] at h ⊢
    refine ⟨?_, flat_of_S h.2⟩
    have h1 := h.1
    cases d <;> first | (cases h1; done) | rfl
theorem aIn.str {m : Mu} {s : Str} {d2 : D} {ts : List D} {R : Bool → Prop} (h1 : SeqD m d2 ts) (h : R (inS s (ts.map strOf))) (hs : ts.all isS = true := by rfl) : aIn m (.str s) d2 R := by
  refine ⟨ts, h1, rfl, flat_of_S hs, ?_⟩
  rw [← strsOf_eq hs, inD_strs]; exact h
end AM
namespace AM
open PySem L2 PySem.Spec PyProof.Rows
/-- a list that changes no more -/
def aFz (d : D) (m : Mu) (Q : D → Mu → Prop) : Prop := ∃ (p : Addr) (ds : List D), d = .loc p ∧ m p = some (.l ds) ∧ Q (.lst ds) (m.del p)
theorem aFz.mk {p : Addr} {ds : List D} {m : Mu} {Q : D → Mu → Prop} (hm : m p = some (.l ds)) (q : Q (.lst ds) (m.del p)) : aFz (.loc p) m Q := ⟨p, ds, rfl, hm, q⟩
theorem W.fz {c : Ctx} {e : Expr} {Δ : Sl} {μ : Mu} {Q : D → Mu → Prop} {Ex : XD} (h : CE c e Δ μ (fun d m => aFz d m Q) Ex) : CE c e Δ μ Q Ex := fun σ H ok hs QV hQ hX =>
  h σ H ok hs QV (fun v d m H' ev dt ⟨p, ds, z, hm, q⟩ => by
    subst z
    cases dt
    exact hQ _ _ _ _ (ev.trans (evo_del ev.s)) (frozen_l ev.s hm) q) hX
theorem Pat.kids_dep {p q : Pat} (h : q ∈ p.kids) : q.dep < p.dep := by
  cases p <;> simp [Pat.kids] at h
  case not => subst h; simp only [Pat.dep]; omega
  case bin => rcases h with rfl | rfl <;> (simp only [Pat.dep]; omega)
theorem Pat.subs_kids (p : Pat) : p.subs = p :: (p.kids.map Pat.subs).flatten := by
  cases p <;> simp [Pat.kids, Pat.subs]
theorem Pat.kids_cnt {p q : Pat} (h : q ∈ p.kids) : q.cnt < p.cnt := by
  cases p <;> simp [Pat.kids] at h
  case not => subst h; simp only [Pat.cnt]; omega
  case bin => rcases h with rfl | rfl <;> (simp only [Pat.cnt]; omega)
theorem map_get {α β : Type} {f : α → β} {l : List α} {i : Nat} {y : β} (h : (l.map f)[i]? = some y) : ∃ x, l[i]? = some x ∧ y = f x := by
  rw [List.getElem?_map] at h
  cases e : l[i]? with
  | none => rw [e] at h; cases h
  | some x => rw [e] at h; cases h; exact ⟨x, rfl, rfl⟩
end AM

set_option autoImplicit false
set_option maxRecDepth 100000
set_option maxHeartbeats 1000000
namespace AM
open PySem L2 PySem.Spec PyProof.Rows
section
variable {c : Ctx} {e a b : Expr} {es : List Expr} {Δ : Sl} {μ : Mu} {Q Q' : D → Mu → Prop} {Ex : XD} {pos p apos : Pos} {E E' : DE}
def aPut (m : Mu) (d1 d2 : D) (R : Addr → List D → Nat → Prop) : Prop := ∃ l ds j n, d1 = .loc l ∧ m l = some (.l ds) ∧ d2 = .int j ∧ ixN ds.length j = some n ∧ R l ds n
theorem aPut.mk {m : Mu} {l : Addr} {ds : List D} {j : Int} {n : Nat} {R : Addr → List D → Nat → Prop} (hm : m l = some (.l ds)) (hi : ixN ds.length j = some n) (h : R l ds n) : aPut m (.loc l) (.int j) R := ⟨l, ds, j, n, rfl, hm, rfl, hi, h⟩
theorem ixN_nat {k n : Nat} (h : n < k) : ixN k (n : Int) = some n := by
  unfold ixN
  rw [if_pos (by omega), if_pos (by omega), Int.toNat_natCast]
theorem ixN_0 {k : Nat} : ixN (k + 1) 0 = some 0 := ixN_nat (n := 0) (by omega)
theorem ixN_1 {k : Nat} : ixN (k + 2) 1 = some 1 := ixN_nat (n := 1) (by omega)
theorem S.setIx {o i : Expr} {p : Pos} (h : CE c e Δ μ (fun d m => CE c o Δ m (fun d1 m1 => CE c i Δ m1 (fun d2 m2 => aPut m2 d1 d2 fun l ds n => E.nx Δ (m2.set l (.l (ds.set n d)))) E.ex) E.ex) E.ex)
    (ha : ∀ v, assign (.Subscript o i p) c.X.env v = (do
      let ov ← holding [v] (eval o c.X.env)
      let iv ← holding [v, ov] (eval i c.X.env)
      standAt p
      holding [v, ov, iv] (setItem ov iv v)
      release [v, ov, iv] []) := by intro _; rfl)
    (hs1 : swapsWithSole [.Subscript o i p] e pos.line c.X.env = pure false := by rfl) (hw : swappedStores [.Subscript o i p] e c.X.env = pure none := by rfl)
    (h1 : (assignEach [.Subscript o i p] c.X.env).map (·.2) = [assign (.Subscript o i p) c.X.env] := by rfl) : CS c (.Assign [.Subscript o i p] e pos) Δ μ E :=
  CS.setIx (h.imp fun d m h1 => h1.imp fun d1 m1 h2 => h2.imp fun d2 m2 ⟨l, ds, j, n, z1, hm, z2, hi, q⟩ => ⟨l, ds, j, n, z1, hm, z2, hi, q⟩) ha hs1 hw h1
/-- a thing that changes is forgotten -/
theorem W.drop (h : CE c e Δ μ (fun d m => ∃ p, Q d (m.del p)) Ex) : CE c e Δ μ Q Ex := fun σ H ok hs QV hQ hX =>
  h σ H ok hs QV (fun v d m H' ev dt ⟨p, q⟩ => by
    have e2 := evo_del (p := p) ev.s
    exact hQ _ _ _ _ (ev.trans e2) (e2.dt dt) q) hX
/-- + of two lists, as a list that changes -/
theorem W.plusL (h : CE c a Δ μ (fun d1 m => CE c b Δ m (fun d2 m' => ∃ ds es, LstD m' d1 ds ∧ LstD m' d2 es ∧ ds.length + es.length ≤ 1000000 ∧ ∀ p, m' p = none → Q (.loc p) (m'.set p (.l (ds ++ es)))) Ex) Ex) : CE c (.BinOp a .Add b pos) Δ μ Q Ex := by
  intro σ H ok hs QV hQ hX
  refine ⟨_, pe_op op_cat pe_w pe_w, ?_⟩
  refine h σ H ok hs _ (fun x d1 m1 H1 e1 t1 q1 => ?_) hX
  refine q1 σ H1 (ok.evo e1) e1.s _ (fun y d2 m2 H2 e2 t2 q2 => ?_) (hX.evo e1)
  have t1' := e2.dt t1
  have hQ' := WantV.evo hQ (e1.trans e2)
  have hs := e2.s
  obtain ⟨ds, es, h1, h2, hl, q⟩ := q2
  obtain ⟨l, xs, z, h3, h4⟩ := h1.lst hs t1'
  obtain ⟨r, ys, z2, h5, h6⟩ := h2.lst hs t2
  subst z; subst z2
  refine ⟨l, r, xs, ys, rfl, rfl, h3, h5, by rw [h4.length, h6.length]; exact big hl, fun n hn => ?_⟩
  have s1 := same_new (o := .lst (xs ++ ys)) hn
  exact hQ' _ _ _ _ (evo_new (m := .l (ds ++ es)) hs s1 hn ⟨_, upd_same, (h4.append h6).keep (keeps_new s1 hn)⟩) (.loc n) (q n (hs.none hn))
end
/-- the law's source of numbers -/
def DrI (ds : List D) : Prop := ∃ (x y : Int) (zs : List Int), ds = D.int x :: D.int y :: zs.map D.int ∧ 0 ≤ x ∧ x < 2147483647 ∧ zs.length ≤ 100
theorem DrI.mk {x y : Int} {zs : List Int} (h1 : 0 ≤ x) (h2 : x < 2147483647) (h3 : zs.length ≤ 100) : DrI (D.int x :: D.int y :: zs.map D.int) := ⟨x, y, zs, rfl, h1, h2, h3⟩
end AM

set_option autoImplicit false
set_option maxRecDepth 100000
set_option maxHeartbeats 1000000
namespace AM
open PySem L2 PySem.Spec PyProof.Rows
/-! ### the end of a law -/
def S_law : SpD := fun ds m Q _ => ∃ ns : List Int, ds = [.fz (ns.map .int)] ∧ ns.length ≤ 63 ∧ m = mu0 ∧ ∀ m', Q (.bl true) m'
theorem hs0 {K : PySem.W.Frag} {H : Hp} : HS K mu0 H := fun a m h => nomatch h
theorem law_sp {K : PySem.W.Frag} {H : Hp} {a : Addr} {ns : List Int} (hl : ns.length ≤ 63) (hO : Only H) (hS : SqL K H a (ns.map V.int)) : toSp K S_law [.ref a] H (fun v _ => v = .bl true) fun _ _ _ => False := by
  have hz : SqZ K H a (ns.map V.int) := by
    rcases hS with (h | ⟨o, h⟩) | h
    · rcases hO a with z | ⟨o, xs, z⟩
      · rw [z] at h; cases h
      · rw [z] at h; cases h
    · exact .inl ⟨o, h⟩
    · exact .inr h
  refine ⟨[.fz (ns.map .int)], mu0, fun d _ => d = .bl true, fun _ _ _ => False, .cons (.fz hz (Dts.ints ns)) .nil, hs0, ⟨ns, rfl, hl, rfl, fun _ => rfl⟩, fun v d m' H' _ t q => ?_, fun _ _ _ _ _ _ _ _ z => z⟩
  subst q
  cases t
  rfl
theorem law_end {l : PySem.W.OpenLaw} {k : Nat} {q : Program} {loose : List Str} {XP : (Str → Option Value) → Heap → Prop} {YP : World → Heap → Prop} {d : DefRec} {K : Params → PySem.W.Frag} {x : Str} (hn : l.most = some 63) (hdf : d.params.defaults = []) (hr : Room k callerA)
    (hY : ∀ (w : World) (h : Heap), YP w h → (K w.params).In h)
    (F : ∀ (w : World) (mg : Str → Option Value) (fa : Addr) (h : Heap), (K w.params).In h → h.Ns mainGlobals mg → mg d.name = some (.ref fa) →
      ∃ fd : FuncData, (∀ (s : Shared) (u : Value), BindsTo s fd ⟨[u], []⟩ [(x, u)]) ∧ ∀ base : Heap, (K w.params).In base → base.Ns mainGlobals mg → FnD l.prog w (K w.params) mg base CX0 k fa fd [x] S_law) :
    PySem.W.WalkO q loose XP YP l.row.toRowW d [] (fun f vs => PySem.call f vs) :=
  L2.walk_of (n := 63) (CX := fun _ => CX0) (sp := fun w => toSp (K w.params) S_law) hn (by decide) hdf hr hY F (fun _ _ a ns hl hO hS => law_sp hl hO hS) fun _ _ _ _ _ z => z
section
variable {K : PySem.W.Frag} {h : Heap} {mg : Str → Option Value}
theorem df_mk (X : K.In h) (G : h.Ns mainGlobals mg) {x : Str} {st : Stmt} {ps : List Str} {f : Addr} {od an : Option Addr} {sl : Array (Option Value)} {oc kV dc pm cd ct : Value}
    (b : ∀ (kV doc pm : Value) (an : Option Addr) (cdv ct : Value) (us : List Value), us.length = ps.length → bindArgs (PySem.W.fnOf x x (defArgs st) (defBody st) (defScope st) .none kV doc pm an cdv ct) ⟨us, []⟩ = pure (ps.zip us))
    (a : PySem.W.nsIn K mainGlobals x = some (some (.ref f))) (lk : K.lookup f = some ⟨oc, od, .func (PySem.W.fnOf x x (defArgs st) (defBody st) (defScope st) .none kV dc pm an cd ct), sl⟩) (c : PySem.W.codeIn K cd x = true) (k : PySem.W.keepIn K (.ref f) = true) : Df K mg x st ps :=
  have F := fun_mk (st := st) lk c k
  ⟨f, _, F, PySem.W.mg_of X G a, F.binds b⟩
theorem dm_mk {C : Addr} (T : Cls K C) {x qual : Str} {st : Stmt} {ps : List Str} {f : Addr} {od an : Option Addr} {sl : Array (Option Value)} {oc kV dc pm cd ct : Value}
    (b : ∀ (kV doc pm : Value) (an : Option Addr) (cdv ct : Value) (us : List Value), us.length = ps.length → bindArgs (PySem.W.fnOf x qual (defArgs st) (defBody st) (defScope st) .none kV doc pm an cdv ct) ⟨us, []⟩ = pure (ps.zip us))
    (a : PySem.W.findIn K (.ref C) x = some (some (.ref f))) (i : PySem.W.isFn K (.ref f) = true) (lk : K.lookup f = some ⟨oc, od, .func (PySem.W.fnOf x qual (defArgs st) (defBody st) (defScope st) .none kV dc pm an cd ct), sl⟩) (c : PySem.W.codeIn K cd qual = true)
    (k : PySem.W.keepIn K (.ref f) = true) : Dm K C x qual st ps :=
  have F := fun_mk (st := st) lk c k
  ⟨⟨f, _, F, ⟨a, i, k⟩, F.binds b⟩, T⟩
theorem dc_mk (X : K.In h) (G : h.Ns mainGlobals mg) {C : Addr} {y qual : Str} {st : Stmt} {ps : List Str} {f : Addr} {od an : Option Addr} {sl : Array (Option Value)} {oc kV dc pm cd ct : Value}
    (b : ∀ (kV doc pm : Value) (an : Option Addr) (cdv ct : Value) (us : List Value), us.length = ps.length → bindArgs (PySem.W.fnOf "__init__" qual (defArgs st) (defBody st) (defScope st) .none kV doc pm an cdv ct) ⟨us, []⟩ = pure (ps.zip us))
    (g : PySem.W.nsIn K mainGlobals y = some (some (.ref C))) (mk : PySem.W.makesIn K C = true) (kc : PySem.W.keepIn K (.ref C) = true)
    (a : PySem.W.findIn K (.ref C) "__init__" = some (some (.ref f))) (i : PySem.W.isFn K (.ref f) = true) (lk : K.lookup f = some ⟨oc, od, .func (PySem.W.fnOf "__init__" qual (defArgs st) (defBody st) (defScope st) .none kV dc pm an cd ct), sl⟩) (c : PySem.W.codeIn K cd qual = true)
    (k : PySem.W.keepIn K (.ref f) = true) : Dc K mg y C qual st ps :=
  have F := fun_mk (st := st) lk c k
  ⟨f, _, F, ⟨mk, a, i, kc⟩, PySem.W.mg_of X G g, F.binds b⟩
theorem cls_mk {C : Addr} (pg : PySem.W.plainGet K C Str.empty = true) (hd : PySem.W.hasDictIn K C = true) (po : PySem.W.plainOver K C = true) (sa : PySem.W.findIn K (.ref C) "__setattr__" = some (some (.builtin "object.__setattr__"))) : Cls K C := ⟨pg, hd, po, sa⟩
theorem exc_mk (X : K.In h) (G : h.Ns mainGlobals mg) {x : Str} {C : Addr} (g : PySem.W.nsIn K mainGlobals x = some (some (.ref C))) (q : PySem.W.excIn K C [.type "ValueError", .type "Exception", .type "BaseException", .type "object"] "ValueError.__new__" = true)
    (k : PySem.W.keepIn K (.ref C) = true) (b : PySem.W.subIn K (.ref C) (.type "BaseException") = some true) (t : PySem.W.typeIn K (.ref C) = some (.type "type")) : ExcC K mg x C := ⟨q, PySem.W.mg_of X G g, k, b, t⟩
theorem gc_int (X : K.In h) (G : h.Ns mainGlobals mg) {x : Str} {i : Int} {t} (a : PySem.W.nsIn K mainGlobals x = some (some (.int i t))) : GC K mg x (.int i) := ⟨.int i, _, PySem.W.mg_of X G a, ⟨_, rfl⟩, fun _ _ => .int i⟩
theorem gc_str (X : K.In h) (G : h.Ns mainGlobals mg) {x s : Str} {t} (a : PySem.W.nsIn K mainGlobals x = some (some (.str s t))) : GC K mg x (.str s) := ⟨.str s, _, PySem.W.mg_of X G a, ⟨_, rfl⟩, fun _ _ => .str s⟩
/-- flat data by the values that stand for it -/
def flatU : D → Value → Prop
  | .int i, u => ∃ t, u = Value.int i t
  | .str s, u => ∃ t, u = Value.str s t
  | _, _ => False
inductive FlatUs : List D → List Value → Prop
  | nil : FlatUs [] []
  | cons {d : D} {u : Value} {ds : List D} {us : List Value} : flatU d u → FlatUs ds us → FlatUs (d :: ds) (u :: us)
theorem flatUs_same {μ μ' : Mu} {H H' : Hp} : ∀ {ds : List D} {us : List Value}, FlatUs ds us → ∃ xs, Vals xs us ∧ ∀ μ H, Dts K μ H xs ds
  | _, _, .nil => ⟨[], .nil, fun _ _ => .nil⟩
  | d :: _, u :: _, .cons h r => by
    obtain ⟨xs, h1, h2⟩ := flatUs_same (μ := μ) (H := H) (μ' := μ') (H' := H') r
    cases d <;> try exact h.elim
    · exact ⟨V.int _ :: xs, Paired.cons (show RelV (V.int _) u from h) h1, fun μ H => .cons (.int _) (h2 μ H)⟩
    · exact ⟨V.str _ :: xs, Paired.cons (show RelV (V.str _) u from h) h1, fun μ H => .cons (.str _) (h2 μ H)⟩
theorem gc_tup (X : K.In h) (G : h.Ns mainGlobals mg) {x : Str} {ds : List D} {t : Addr} {od : Option Addr} {its : Array Value} {n : Nat} {sl : Array (Option Value)} (a : PySem.W.nsIn K mainGlobals x = some (some (.ref t))) (lk : K.lookup t = some ⟨.type "tuple", od, .seq its n, sl⟩)
    (hi : its.size ≤ sizeLine) (f : FlatUs ds its.toList) : GC K mg x (.tup ds) := by
  obtain ⟨xs, h1, h2⟩ := flatUs_same (K := K) (μ := mu0) (μ' := mu0) (H := fun _ => none) (H' := fun _ => none) f
  exact ⟨.ref t, _, PySem.W.mg_of X G a, rfl, fun μ H => .tup (.inr ⟨_, its, n, lk, rfl, rfl, hi, h1⟩) (h2 μ H)⟩
theorem law_mk {P : Program} {w : World} {n : Nat} (X : K.In h) (G : h.Ns mainGlobals mg) {st : Stmt} {f fa : Addr} (hfa : mg "law" = some (.ref fa))
    (b : ∀ (kV doc pm : Value) (an : Option Addr) (cdv ct : Value) (u : Value), bindArgs (PySem.W.fnOf "law" "law" (defArgs st) (defBody st) (defScope st) .none kV doc pm an cdv ct) ⟨[u], []⟩ = pure [(("_law_script" : Str), u)])
    (body : ∀ (base : Heap) (f : Addr) (fd : FuncData), Fun K "law" "law" st f fd → FnD P w K mg base CX0 n f fd ["_law_script"] S_law)
    {od an : Option Addr} {sl : Array (Option Value)} {oc kV dc pm cd ct : Value} (a : PySem.W.nsIn K mainGlobals "law" = some (some (.ref f)))
    (lk : K.lookup f = some ⟨oc, od, .func (PySem.W.fnOf "law" "law" (defArgs st) (defBody st) (defScope st) .none kV dc pm an cd ct), sl⟩) (c : PySem.W.codeIn K cd "law" = true) (k : PySem.W.keepIn K (.ref f) = true) :
    ∃ fd : FuncData, (∀ (s : Shared) (u : Value), BindsTo s fd ⟨[u], []⟩ [("_law_script", u)]) ∧ ∀ base : Heap, K.In base → base.Ns mainGlobals mg → FnD P w K mg base CX0 n fa fd ["_law_script"] S_law := by
  have e := hfa.symm.trans (PySem.W.mg_of X G a)
  cases e
  exact ⟨_, fun s v => .of_eq (b kV dc pm an cd ct v), fun base _ _ => body base _ _ (fun_mk (st := st) lk c k)⟩
end
end AM
namespace AM
open PySem L2 PySem.Spec PyProof.Rows
theorem fld_mk {K : PySem.W.Frag} {C : Addr} {f : Str} (c : Cls K C) (n : PySem.W.findIn K (.ref C) f = some none) : FldC K C f := ⟨c, n⟩
end AM

set_option autoImplicit false
set_option maxRecDepth 100000
set_option maxHeartbeats 1000000
namespace AM
open PySem L2 PySem.Spec PyProof.Rows
/-! ### == by an own __eq__ -/
structure EqM (P : Program) (w : World) (K : PySem.W.Frag) (mg : Str → Option Value) (base : Heap) (C : Addr) (k : Nat) (s : SpD) : Prop where
  ex : ∃ (f : Addr) (fd : FuncData) (ps : List Str), FnD P w K mg base (L2.CX P w) k f fd ps s ∧ PySem.W.findIn K (.ref C) "__eq__" = some (some (.ref f)) ∧ PySem.W.isFn K (.ref f) = true ∧ Binds K fd ps []
structure De (K : PySem.W.Frag) (C : Addr) (qual : Str) (st : Stmt) (ps : List Str) : Prop where
  ex : ∃ (f : Addr) (fd : FuncData), Fun K "__eq__" qual st f fd ∧ PySem.W.findIn K (.ref C) "__eq__" = some (some (.ref f)) ∧ PySem.W.isFn K (.ref f) = true ∧ Binds K fd ps []
theorem de_mk {K : PySem.W.Frag} {C : Addr} {qual : Str} {st : Stmt} {ps : List Str} {f : Addr} {od an : Option Addr} {sl : Array (Option Value)} {oc kV dc pm cd ct : Value}
    (b : ∀ (kV doc pm : Value) (an : Option Addr) (cdv ct : Value) (us : List Value), us.length = ps.length → bindArgs (PySem.W.fnOf "__eq__" qual (defArgs st) (defBody st) (defScope st) .none kV doc pm an cdv ct) ⟨us, []⟩ = pure (ps.zip us))
    (a : PySem.W.findIn K (.ref C) "__eq__" = some (some (.ref f))) (i : PySem.W.isFn K (.ref f) = true) (lk : K.lookup f = some ⟨oc, od, .func (PySem.W.fnOf "__eq__" qual (defArgs st) (defBody st) (defScope st) .none kV dc pm an cd ct), sl⟩) (c : PySem.W.codeIn K cd qual = true)
    (k : PySem.W.keepIn K (.ref f) = true) : De K C qual st ps :=
  have F := fun_mk (st := st) lk c k
  ⟨f, _, F, a, i, F.binds b⟩
/-- the other one: of the same class, or a tuple -/
def OthV (K : PySem.W.Frag) (C : Addr) (H : Hp) (y : V) : Prop := (∃ b dy gs, y = .ref b ∧ H b = some (.ins C dy gs)) ∨ ∃ b xs, y = .ref b ∧ SqT K H b xs ∧ PySem.W.notFirst K C (.type "tuple") = true
def rEqO (K : PySem.W.Frag) (C : Addr) (s : SpD) : R2 := fun x y H Q => ∃ a dx fs, x = .ref a ∧ H a = some (.ins C dx fs) ∧ OthV K C H y ∧ toSp K s [x, y] H (fun v H' => (∃ k, v = .bl k) ∧ Q v H') (fun _ _ _ => False)
section
variable {X : Cx} {n : Nat} {C : Addr} {s : SpD}
theorem op_eqO (F : EqM X.prog X.w X.K X.mg X.base C n s) (hr : Room n X.A) : OpR X (compareOp .Eq) (rEqO X.K C s) := by
  obtain ⟨f, fd, ps, G, h1, h2, hb⟩ := F.ex
  intro pins s0 σ H x y v u Q I rx ry ⟨a, dx, fs, ex, ha, ho, hsp⟩
  subst ex
  cases rx
  show wpAny (model X.prog X.w) X.A (richCompare .Eq (.ref a) u) (EP X pins σ Q) X.xe s0
  obtain ⟨mA, J, _⟩ := ins_get I.hok ha
  obtain ⟨od, J, _⟩ := J.look
  obtain ⟨m, hF⟩ := I.fr
  have one : ∀ {tb : Value}, PySem.W.Looks (model X.prog X.w) s0.heap (typeOf u) tb → PySem.W.notFirst X.K C tb = true → wpAny (model X.prog X.w) X.A (richCompare .Eq (.ref a) u) (EP X pins σ Q) X.xe s0 := fun {tb} hty hn => by
    refine PySem.W.cmp_K (op := .Eq) (tb := tb) hr.units0 hF I.ok.mod.kin J hty hn h1 h2 ?_
    have hl := G.len _ _ _ _ hsp
    have r2 : Vals [V.ref a, y] [Value.ref a, u] := .cons rfl (.cons ry .nil)
    refine wpAny_call (codeAny_mono (G.run X.A X.stack s0 H ⟨[.ref a, u], []⟩ [.ref a, u] [.ref a, y] _ _ hr I.env0 (by
      have := hb s0 [.ref a, u] I.kIn (by simpa using hl)
      simpa using this) r2 hsp) fun r s' hq => ?_)
    cases r with
    | error e => exact (passL (X := X)) pins σ H s0 e s' I hq
    | ok fl =>
      cases fl with
      | ret w =>
        obtain ⟨z, H', I', rz, ⟨k, ek⟩, q⟩ := I.after hq
        subst ek
        cases rz
        exact ⟨.bl k, H', I', rfl, q⟩
      | next => exact False.elim hq
      | brk => exact False.elim hq
      | cont => exact False.elim hq
  rcases ho with ⟨b, dy, gs, ey, hb'⟩ | ⟨b, xs, ey, ht, hn⟩
  · subst ey
    cases ry
    obtain ⟨mB, J', _⟩ := ins_get I.hok hb'
    obtain ⟨od', J', _⟩ := J'.look
    exact one J'.type (by simp [PySem.W.notFirst])
  · subst ey
    cases ry
    obtain ⟨its, r, e, z⟩ := I.tuple ht
    obtain ⟨o, ho, hc, k, hd⟩ := id e
    exact one (hc ▸ (PySem.W.Looks.ld ho).andThen .now) hn
end
section
variable {c : Ctx} {a b : Expr} {Δ : Sl} {μ : Mu} {Q : D → Mu → Prop} {QB : Bool → Mu → Prop} {Ex : XD} {pos : Pos} {C : Addr} {k j : Nat} {s : SpD}
def OthD (K : PySem.W.Frag) (C : Addr) (m : Mu) (d : D) : Prop := (∃ gs, InsAt m d C gs) ∨ ∃ ds, d = .tup ds ∧ PySem.W.notFirst K C (.type "tuple") = true
def aEqO (c : Ctx) (C : Addr) (s : SpD) (m : Mu) (d1 d2 : D) (R : Bool → Mu → Prop) : Prop := ∃ fs, InsAt m d1 C fs ∧ OthD c.K C m d2 ∧ s [d1, d2] m (fun d m2 => ∃ k, d = .bl k ∧ R k m2) (fun _ _ _ => False)
theorem eqO_r {x y : V} {d1 d2 : D} {m : Mu} {H : Hp} {QV : VK} {R : Bool → Mu → Prop} (p : aEqO c C s m d1 d2 R) (hs : HS c.K m H) (t1 : Dt c.K m H x d1) (t2 : Dt c.K m H y d2) (q : ∀ k m' H', Evo c.K m H m' H' → R k m' → QV (.bl k) H') : rEqO c.K C s x y H QV := by
  obtain ⟨fs, hi, ho, h⟩ := p
  obtain ⟨a, dx, gs, z, h1, h2⟩ := hi.at hs t1
  subst z
  refine ⟨a, dx, gs, rfl, h1, ?_, ?_⟩
  · rcases ho with ⟨gs2, ho⟩ | ⟨ds, z, hn⟩
    · obtain ⟨b, dy, gs3, z, h3, h4⟩ := ho.at hs t2
      exact .inl ⟨b, dy, gs3, z, h3⟩
    · subst z
      cases t2 with
      | tup h3 h4 => exact .inr ⟨_, _, rfl, h3, hn⟩
  · refine toSp_of (.cons t1 (.cons t2 .nil)) hs h (fun v d m' H' e t ⟨k, z, r⟩ => ?_) (fun _ _ _ _ _ _ _ _ z => z)
    subst z
    cases t
    exact ⟨⟨k, rfl⟩, q k m' H' e r⟩
theorem W.eqO (F : EqM c.X.prog c.X.w c.K c.X.mg c.X.base C k s) (hr : Room j c.X.A) (hl : k ≤ j) (h : CE c a Δ μ (fun d1 m => CE c b Δ m (fun d2 m' => aEqO c C s m' d1 d2 fun k m2 => Q (.bl k) m2) Ex) Ex) : CE c (.Compare a [.Eq] [b] pos) Δ μ Q Ex :=
  CE.cmp (op_eqO F (hr.mono hl)) (nomark _) (fun x y d1 d2 m H QV p hs t1 t2 hQ => eqO_r p hs t1 t2 fun k m' H' e r => hQ _ _ _ _ e (.bl k) r) h
theorem T.eqO (F : EqM c.X.prog c.X.w c.K c.X.mg c.X.base C k s) (hr : Room j c.X.A) (hl : k ≤ j) (h : CE c a Δ μ (fun d1 m => CE c b Δ m (fun d2 m' => aEqO c C s m' d1 d2 QB) Ex) Ex) : CT c (.Compare a [.Eq] [b] pos) Δ μ QB Ex :=
  CT.cmp (op_eqO F (hr.mono hl)) (nomark _) (fun x y d1 d2 m H QV p hs t1 t2 hQ => eqO_r p hs t1 t2 fun k m' H' e r => hQ _ _ _ _ e (.bl k) ⟨k, rfl, r⟩) h
end
end AM

set_option autoImplicit false
set_option maxRecDepth 100000
set_option maxHeartbeats 1000000
namespace AM
open PySem L2 PySem.Spec PyProof.Rows
section
variable {c : Ctx} {e a b o : Expr} {es : List Expr} {Δ : Sl} {μ : Mu} {Q : D → Mu → Prop} {QB : Bool → Mu → Prop} {Ex : XD} {pos p apos : Pos} {E : DE} {C : Addr}
/-! ### isinstance with an own class -/
def aIsO (K : PySem.W.Frag) (C : Addr) (m : Mu) (d : D) (R : Bool → Prop) : Prop := ∃ t k, (∀ v H, HS K m H → Dt K m H v d → TyX K H v t) ∧ PySem.W.kitOne K t (.ref C) = some k ∧ R k
/-- instances of C are seen as such -/
structure IsC (K : PySem.W.Frag) (C : Addr) : Prop where
  cl : Cls K C
  ha : PySem.W.findIn K (.ref C) "__class__" = some (some (.builtin "object.__class__"))
  hn : PySem.W.specialIn K (.builtin "object.__class__") "__get__" = some (some (.builtin "getset_descriptor.__get__"))
  ht : PySem.W.takesIn K (.builtin "object.__class__") = some true
  hm : PySem.W.mroIn K C (.type "object") = some true
  self : PySem.W.kitOne K (.ref C) (.ref C) = some true
  tup : PySem.W.kitOne K (.type "tuple") (.ref C) = some false
  nf : PySem.W.notFirst K C (.type "tuple") = true
theorem isc_mk {K : PySem.W.Frag} {C : Addr} (pg : PySem.W.plainGet K C Str.empty = true) (hd : PySem.W.hasDictIn K C = true) (po : PySem.W.plainOver K C = true) (sa : PySem.W.findIn K (.ref C) "__setattr__" = some (some (.builtin "object.__setattr__")))
    (ha : PySem.W.findIn K (.ref C) "__class__" = some (some (.builtin "object.__class__"))) (hn : PySem.W.specialIn K (.builtin "object.__class__") "__get__" = some (some (.builtin "getset_descriptor.__get__"))) (ht : PySem.W.takesIn K (.builtin "object.__class__") = some true)
    (hm : PySem.W.mroIn K C (.type "object") = some true) (t : PySem.W.typeIn K (.ref C) = some (.type "type")) (u : PySem.W.subIn K (.type "tuple") (.ref C) = some false) (nf : PySem.W.notFirst K C (.type "tuple") = true) : IsC K C := by
  refine ⟨⟨pg, hd, po, sa⟩, ha, hn, ht, hm, if_pos (beq_self_eq_true _), ?_, nf⟩
  have hc : (PySem.W.clsIn K C).isSome = true := by
    obtain ⟨cd, hc, _⟩ := PySem.W.any_some hd
    rw [hc]; rfl
  show (if (Value.type "tuple" == Value.ref C) = true then some true else PySem.W.kitCls K (.type "tuple") (.ref C)) = some false
  rw [if_neg (by rw [show (Value.type "tuple" == Value.ref C) = false from rfl]; decide)]
  show (if ((PySem.W.clsIn K C).isSome && PySem.W.typeIn K (.ref C) == some (.type "type")) = true then PySem.W.subIn K (.type "tuple") (.ref C) else none) = some false
  rw [hc, t, if_pos (by simp)]
  exact u
theorem aIsO.ins {K : PySem.W.Frag} {m : Mu} {d : D} {fs : List (Str × D)} {R : Bool → Prop} (T : IsC K C) (hi : InsAt m d C fs) (h : R true) : aIsO K C m d R := by
  refine ⟨.ref C, true, fun v H hs t => ?_, T.self, h⟩
  obtain ⟨p, dx, gs, z, h1, _⟩ := hi.at hs t
  subst z
  exact .base (.ins h1 T.cl T.ha T.hn T.ht T.hm)
theorem aIsO.tup {K : PySem.W.Frag} {m : Mu} {ds : List D} {R : Bool → Prop} (T : IsC K C) (h : R false) : aIsO K C m (.tup ds) R := ⟨.type "tuple", false, fun v H hs t => tyx t rfl, T.tup, h⟩
theorem aIsO.ty {K : PySem.W.Frag} {m : Mu} {d : D} {n : String} {k : Bool} {R : Bool → Prop} (hn : d.tyN = some n) (hk : PySem.W.kitOne K (.type n) (.ref C) = some k) (h : R k) : aIsO K C m d R := ⟨.type n, k, fun v H hs t => tyx t hn, hk, h⟩
theorem W.isiO {x : Str} {p2 : Pos} (hm : NB c.X.mg "isinstance") (hmC : c.X.mg x = some (.ref C)) (h : CE c e Δ μ (fun d m => aIsO c.K C m d fun k => Q (.bl k) m) Ex) (hg : Gl c.X "isinstance" := by rfl) (hgC : Gl c.X x := by rfl) (hdT : (x == ("__debug__" : Str)) = false := by decide)
    (he : starEach [e, .Name x p2] c.X.env = (false, eval e c.X.env) :: starEach [.Name x p2] c.X.env := by rfl) (he2 : starEach [.Name x p2] c.X.env = (false, eval (.Name x p2) c.X.env) :: starEach [] c.X.env := by rfl)
    (hpl : (backTo pos (starEach [.Name x p2] c.X.env)).any (·.1) = false := by rfl) : CE c (.Call (.Name "isinstance" p) [e, .Name x p2] [] pos) Δ μ Q Ex :=
  CE.isiC hm hmC h hg hgC hdT he he2 hpl
/-! ### o.f += e -/
def aFA (c : Ctx) (m : Mu) (d1 : D) (f : Str) (R : Addr → Addr → List (Str × D) → Int → Prop) : Prop := ∃ C fs a i, d1 = .loc a ∧ m a = some (.o C fs) ∧ FldC c.K C f ∧ lookF f fs = some (.int i) ∧ fs.length < 1000 ∧ R C a fs i
theorem aFA.mk {m : Mu} {a C : Addr} {fs : List (Str × D)} {i : Int} {f : Str} {R : Addr → Addr → List (Str × D) → Int → Prop} (hm : m a = some (.o C fs)) (hf : FldC c.K C f) (hl : lookF f fs = some (.int i)) (hn : fs.length < 1000) (h : R C a fs i) : aFA c m (.loc a) f R := ⟨C, fs, a, i, rfl, hm, hf, hl, hn, h⟩
theorem S.fldAdd {f : Str} (h : CE c o Δ μ (fun d1 m => aFA c m d1 f fun C a fs i => CE c e Δ m (fun d2 m1 => aI d2 fun j => m1 a = some (.o C fs) ∧ E.nx Δ (m1.set a (.o C (setF f (.int (i + j)) fs)))) E.ex) E.ex) : CS c (.AugAssign (.Attribute o f p) .Add e pos) Δ μ E :=
  CS.fldAdd (h.imp fun d1 m ⟨C, fs, a, i, z, hm, hf, hl, hn, q⟩ => ⟨C, fs, a, i, z, hm, hf.c, hf.n, hl, hn, q⟩)
/-! ### a for over few items, turn by turn -/
def RunL (c : Ctx) (g : TGD) (body : List Stmt) (E : DE) : List D → Sl → Mu → Prop
  | [], Δ, m => E.nx Δ m
  | d :: r, Δ, m => ∃ Δ2, g d Δ = some Δ2 ∧ CSs c body Δ2 m { E with nx := RunL c g body E r, ct := RunL c g body E r, bk := E.nx }
abbrev ForD (c : Ctx) (g : TGD) (body : List Stmt) (E : DE) (Δ : Sl) (ds : List D) (m : Mu) : Prop := ∃ I : Nat → Sl → Mu → Prop, I 0 Δ m ∧
      (∀ i d Δ' m', ds[i]? = some d → I i Δ' m' → ∃ Δ2, g d Δ' = some Δ2 ∧ CSs c body Δ2 m' { E with nx := I (i + 1), ct := I (i + 1), bk := E.nx }) ∧ (∀ Δ' m', I ds.length Δ' m' → E.nx Δ' m')
theorem ForD.run {g : TGD} {body : List Stmt} {ds : List D} {m : Mu} (h : RunL c g body E ds Δ m) : ForD c g body E Δ ds m := by
  refine ⟨fun i Δ' m' => RunL c g body E (ds.drop i) Δ' m', h, fun i d Δ' m' hd hI => ?_, fun Δ' m' hI => ?_⟩
  · have hl := (List.getElem?_eq_some_iff.mp hd).1
    have e : ds.drop i = d :: ds.drop (i + 1) := by
      rw [List.drop_eq_getElem_cons hl, (List.getElem?_eq_some_iff.mp hd).2]
    simp only [e] at hI
    exact hI
  · simp only [List.drop_length] at hI
    exact hI
theorem ForD.inv {g : TGD} {body : List Stmt} {ds : List D} {m : Mu} (I : Nat → Sl → Mu → Prop) (h0 : I 0 Δ m) (h1 : ∀ i d Δ' m', ds[i]? = some d → I i Δ' m' → ∃ Δ2, g d Δ' = some Δ2 ∧ CSs c body Δ2 m' { E with nx := I (i + 1), ct := I (i + 1), bk := E.nx }) (h2 : ∀ Δ' m', I ds.length Δ' m' → E.nx Δ' m') : ForD c g body E Δ ds m := ⟨I, h0, h1, h2⟩
/-! ### int(s) -/
def aInt (d : D) (R : Int → Prop) : Prop := ∃ s n, d = .str s ∧ PySem.intText? s = some n ∧ s.length ≤ 640 ∧ R n
theorem W.intS (hm : NB c.X.mg "int") (h : CE c e Δ μ (fun d m => aInt d fun n => Q (.int n) m) Ex) (hg : Gl c.X "int" := by rfl)
    (he : starEach [e] c.X.env = (false, eval e c.X.env) :: starEach [] c.X.env := by rfl) (hpl : (backTo pos (starEach [] c.X.env)).any (·.1) = false := by rfl) : CE c (.Call (.Name "int" p) [e] [] pos) Δ μ Q Ex := CE.intS hm h hg he hpl
end
end AM
namespace AM
open PySem L2 PySem.Spec PyProof.Rows
theorem S.for {c : Ctx} {tg e : Expr} {Δ : Sl} {μ : Mu} {pos : Pos} {E : DE} {g : TGD} {body : List Stmt} (hc : c.X.calm = true) (hg : CG c tg g) (h : CI c tg e Δ μ (fun ds m => ForD c g body E Δ ds m) E.ex) (hf : ∀ x, foldedSetIterable e c.X.env x = pure x := by intro _; rfl) : CS c (.For tg e body [] pos) Δ μ E := CS.for hc hg h hf
theorem Dc.g {K : PySem.W.Frag} {mg : Str → Option Value} {x : Str} {C : Addr} {qual : Str} {st : Stmt} {ps : List Str} (h : Dc K mg x C qual st ps) : mg x = some (.ref C) := let ⟨_, _, _, _, g, _⟩ := h.ex; g
end AM

set_option autoImplicit false
set_option maxRecDepth 100000
set_option maxHeartbeats 1000000
namespace AM
open PySem L2 PySem.Spec PyProof.Rows
/-! ### the words of a pattern -/
def istr (i : Int) : Str := Str.ofString (toString i)
def Pat.ws : Pat → List Str
  | .all => ["all"] | .none => ["none"] | .lamp k => ["lamp", istr k] | .dot k u => ["dot", istr k, wayS u] | .comb e r => ["comb", istr e, istr r] | .beat e r => ["beat", istr e, istr r]
  | .not p => "not" :: p.ws | .bin o p q => o.s :: (p.ws ++ q.ws)
theorem small_cases {k : Int} {P : Int → Prop} (h1 : -3 ≤ k) (h2 : k ≤ 3) (h : P (-3) ∧ P (-2) ∧ P (-1) ∧ P 0 ∧ P 1 ∧ P 2 ∧ P 3) : P k := by
  obtain ⟨a, b, c, d, e, f, g⟩ := h
  have : k = -3 ∨ k = -2 ∨ k = -1 ∨ k = 0 ∨ k = 1 ∨ k = 2 ∨ k = 3 := by omega
  rcases this with rfl | rfl | rfl | rfl | rfl | rfl | rfl <;> assumption
/-- a word without blanks, short -/
def okW (s : Str) : Bool := !(TL.tl s).contains 32 && decide (s.length ≤ 6)
theorem log_small {k : Int} (h1 : -3 ≤ k) (h2 : k ≤ 3) : k.natAbs.log2 < 1920 := small_cases (P := fun k => k.natAbs.log2 < 1920) h1 h2 (by decide +kernel)
end AM
namespace AM
open PySem L2 PySem.Spec PyProof.Rows
/-- an item of a pattern and its words -/
inductive ItW (p : Pat) : D → List Str → Prop
  | s (x : Str) : ItW p (.str x) [x]
  | i (k : Int) : -3 ≤ k → k ≤ 3 → ItW p (.int k) [istr k]
  | p (q : Pat) : q ∈ p.kids → q.ok → ItW p q.d q.ws
inductive ItWs (p : Pat) : List D → List (List Str) → Prop
  | nil : ItWs p [] []
  | cons {d : D} {l : List Str} {ds : List D} {ls : List (List Str)} : ItW p d l → ItWs p ds ls → ItWs p (d :: ds) (l :: ls)
theorem Pat.items : ∀ {p : Pat}, p.ok → ∃ ls, ItWs p (.str p.w :: p.its) ls ∧ ls.flatten = p.ws
  | .all, _ => ⟨[_], .cons (.s _) .nil, rfl⟩
  | .none, _ => ⟨[_], .cons (.s _) .nil, rfl⟩
  | .lamp k, ⟨h1, h2⟩ => ⟨[_, _], .cons (.s _) (.cons (.i k h1 (by omega)) .nil), rfl⟩
  | .dot k u, ⟨h1, h2⟩ => ⟨[_, _, _], .cons (.s _) (.cons (.i k h1 (by omega)) (.cons (.s _) .nil)), rfl⟩
  | .comb e r, ⟨h1, h2, h3⟩ => ⟨[_, _, _], .cons (.s _) (.cons (.i e (by omega) (by omega)) (.cons (.i r (by omega) (by omega)) .nil)), rfl⟩
  | .beat e r, ⟨h1, h2, h3⟩ => ⟨[_, _, _], .cons (.s _) (.cons (.i e (by omega) (by omega)) (.cons (.i r (by omega) (by omega)) .nil)), rfl⟩
  | .not p, h => ⟨[_, _], .cons (.s _) (.cons (.p p (by simp [Pat.kids]) h) .nil), by simp [Pat.ws, Pat.w]⟩
  | .bin o p q, h => ⟨[_, _, _], .cons (.s _) (.cons (.p p (by simp [Pat.kids]) h.1) (.cons (.p q (by simp [Pat.kids]) h.2) .nil)), by simp [Pat.ws, Pat.w]⟩
end AM

set_option autoImplicit false
set_option maxRecDepth 100000
set_option maxHeartbeats 1000000
namespace AM
open PySem L2 PySem.Spec PyProof.Rows
theorem ItWs.get {p : Pat} {ds : List D} {ls : List (List Str)} (h : ItWs p ds ls) : ∀ {i : Nat} {d : D}, ds[i]? = some d → ∃ l, ls[i]? = some l ∧ ItW p d l := by
  induction h with
  | nil => intro i d h; simp at h
  | cons h1 _ ih =>
    intro i d h
    cases i with
    | zero => simp at h; subst h; exact ⟨_, rfl, h1⟩
    | succ i => simp at h; simpa using ih h
theorem ItWs.len {p : Pat} {ds : List D} {ls : List (List Str)} (h : ItWs p ds ls) : ls.length = ds.length := by
  induction h with
  | nil => rfl
  | cons _ _ ih => simp [ih]
theorem strEq {a b : Str} : (a == b) = decide (a = b) := by
  by_cases h : a = b
  · subst h; simp
  · rw [decide_eq_false h]; simpa using h
theorem eqv_str {a b : Str} : PyData.eqv (D.str a).py (D.str b).py = decide (a = b) := by
  show (a == b) = _
  exact strEq
theorem eqv_int {a b : Int} : PyData.eqv (D.int a).py (D.int b).py = decide (a = b) := by
  show (a == b) = _
  by_cases h : a = b
  · subst h; simp
  · rw [decide_eq_false h]; simpa using h
theorem wayS_inj {u v : Bool} : decide (wayS u = wayS v) = decide (u = v) := by cases u <;> cases v <;> decide +kernel
theorem op_inj {u v : Op} : decide (u.s = v.s) = decide (u = v) := by cases u <;> cases v <;> decide +kernel
theorem decAnd {a b : Prop} [Decidable a] [Decidable b] : (decide a && decide b) = decide (a ∧ b) := by simp
/-- patterns are equal as data when they are -/
theorem pat_eqv : ∀ p q : Pat, PyData.eqv p.d.py q.d.py = decide (p = q) := by
  intro p
  induction p with
  | all => intro q; cases q <;> first | rfl | (rename_i o a b; cases o <;> rfl)
  | none => intro q; cases q <;> first | rfl | (rename_i o a b; cases o <;> rfl)
  | lamp k =>
    intro q; cases q <;> first | rfl | (rename_i o a b; cases o <;> rfl) | skip
    rename_i j
    show (PyData.eqv (D.str "lamp").py (D.str "lamp").py && (PyData.eqv (D.int k).py (D.int j).py && true)) = _
    rw [eqv_str, eqv_int]; simp
  | dot k u =>
    intro q; cases q <;> first | rfl | (rename_i o a b; cases o <;> rfl) | skip
    rename_i j v
    show (PyData.eqv (D.str "dot").py (D.str "dot").py && (PyData.eqv (D.int k).py (D.int j).py && (PyData.eqv (D.str (wayS u)).py (D.str (wayS v)).py && true))) = _
    rw [eqv_str, eqv_int, eqv_str, wayS_inj]; simp
  | comb k u =>
    intro q; cases q <;> first | rfl | (rename_i o a b; cases o <;> rfl) | skip
    rename_i j v
    show (PyData.eqv (D.str "comb").py (D.str "comb").py && (PyData.eqv (D.int k).py (D.int j).py && (PyData.eqv (D.int u).py (D.int v).py && true))) = _
    rw [eqv_str, eqv_int, eqv_int]; simp
  | beat k u =>
    intro q; cases q <;> first | rfl | (rename_i o a b; cases o <;> rfl) | skip
    rename_i j v
    show (PyData.eqv (D.str "beat").py (D.str "beat").py && (PyData.eqv (D.int k).py (D.int j).py && (PyData.eqv (D.int u).py (D.int v).py && true))) = _
    rw [eqv_str, eqv_int, eqv_int]; simp
  | not p ih =>
    intro q; cases q <;> first | rfl | (rename_i o a b; cases o <;> rfl) | skip
    rename_i q
    show (PyData.eqv (D.str "not").py (D.str "not").py && (PyData.eqv p.d.py q.d.py && true)) = _
    rw [eqv_str, ih]; simp
  | bin o p1 p2 ih1 ih2 =>
    intro q
    cases q with
    | bin o' q1 q2 =>
      show (PyData.eqv (D.str o.s).py (D.str o'.s).py && (PyData.eqv p1.d.py q1.d.py && (PyData.eqv p2.d.py q2.d.py && true))) = _
      rw [eqv_str, ih1, ih2, op_inj]; simp
    | _ => cases o <;> rfl
end AM

set_option autoImplicit false
set_option maxRecDepth 100000
set_option maxHeartbeats 1000000
namespace AM
open PySem L2 PySem.Spec PyProof.Rows
/-! ### properties -/
structure Dp (K : PySem.W.Frag) (C : Addr) (g qual : Str) (st : Stmt) (ps : List Str) : Prop where
  ex : ∃ (pa f : Addr) (fd : FuncData), PropOf K C g pa f ∧ Fun K g qual st f fd ∧ Binds K fd ps []
  cl : Cls K C
structure PrG (P : Program) (w : World) (K : PySem.W.Frag) (mg : Str → Option Value) (base : Heap) (C : Addr) (g : Str) (k : Nat) (s : SpD) : Prop where
  ex : ∃ pa fa fd ps, PropOf K C g pa fa ∧ FnD P w K mg base (L2.CX P w) k fa fd ps s ∧ Binds K fd ps []
  cl : Cls K C
theorem dp_mk {K : PySem.W.Frag} {C : Addr} (T : Cls K C) {x qual : Str} {st : Stmt} {ps : List Str} {f pa : Addr} {od an : Option Addr} {sl : Array (Option Value)} {oc kV dc pm cd ct : Value} {rest : List Value}
    (b : ∀ (kV doc pm : Value) (an : Option Addr) (cdv ct : Value) (us : List Value), us.length = ps.length → bindArgs (PySem.W.fnOf x qual (defArgs st) (defBody st) (defScope st) .none kV doc pm an cdv ct) ⟨us, []⟩ = pure (ps.zip us))
    (a : PySem.W.findIn K (.ref C) x = some (some (.ref pa))) (g : PySem.W.specialIn K (.ref pa) "__get__" = some (some (.builtin "property.__get__"))) (t : PySem.W.takesIn K (.ref pa) = some true) (r : PySem.W.recIn K pa "property" = some (.ref f :: rest))
    (lk : K.lookup f = some ⟨oc, od, .func (PySem.W.fnOf x qual (defArgs st) (defBody st) (defScope st) .none kV dc pm an cd ct), sl⟩) (c : PySem.W.codeIn K cd qual = true) (k : PySem.W.keepIn K (.ref f) = true) : Dp K C x qual st ps :=
  have F := fun_mk (st := st) lk c k
  ⟨⟨pa, f, _, ⟨a, g, t, rest, r⟩, F, F.binds b⟩, T⟩
section
variable {c : Ctx} {e : Expr} {Δ : Sl} {μ : Mu} {Q : D → Mu → Prop} {Ex : XD} {pos : Pos} {C : Addr} {k j : Nat} {s : SpD} {g : Str} {E : DE}
def aIns (m : Mu) (d : D) (C : Addr) (R : Prop) : Prop := ∃ fs, InsAt m d C fs ∧ R
theorem aIns.ins {m : Mu} {fs : List (Str × D)} {R : Prop} (h : R) : aIns m (.ins C fs) C R := ⟨fs, .inl rfl, h⟩
theorem aIns.loc {m : Mu} {a : Addr} {fs : List (Str × D)} {R : Prop} (hm : m a = some (.o C fs)) (h : R) : aIns m (.loc a) C R := ⟨fs, .inr ⟨a, rfl, hm⟩, h⟩
theorem W.prop (F : PrG c.X.prog c.X.w c.K c.X.mg c.X.base C g k s) (hr : Room j c.X.A) (hl : k + 1 ≤ j) (h : CE c e Δ μ (fun d m1 => aIns m1 d C (s [d] m1 Q (fun _ _ _ => False))) Ex) (hab : attributeBase e g c.X.env (eval e c.X.env) = eval e c.X.env := by rfl) : CE c (.Attribute e g pos) Δ μ Q Ex :=
  CE.prop F.ex F.cl (hr.mono hl) h hab
/-! ### what an except takes -/
def Exm (K : PySem.W.Frag) (C D : Addr) (b : Bool) : Prop := PySem.W.exmOne K (.ref C) (.ref D) = some b
theorem HdD.hit {c : Ctx} {E : DE} {Ci C : Addr} {su : List Stmt} {r : List (Addr × List Stmt)} {o : Option (List (Str × D))} {Δ : Sl} {μ : Mu} (h : Exm c.K C Ci true) (q : ∀ a pn, CSs (c.sui a pn) su Δ μ { E with ex := noX }) : HdD c E ((Ci, su) :: r) C o Δ μ :=
  ⟨true, h, fun _ => q, fun z => by cases z⟩
theorem HdD.miss {c : Ctx} {E : DE} {Ci C : Addr} {su : List Stmt} {r : List (Addr × List Stmt)} {o : Option (List (Str × D))} {Δ : Sl} {μ : Mu} (h : Exm c.K C Ci false) (q : HdD c E r C o Δ μ) : HdD c E ((Ci, su) :: r) C o Δ μ :=
  ⟨false, h, fun z => by (cases z), fun _ => q⟩
theorem ExcC.names {c : Ctx} {x : Str} {C : Addr} (h : ExcC c.K c.X.mg x C) (hg : Gl c.X x) (hdb : (x == ("__debug__" : Str)) = false := by decide) : Names c.X x (.ref C) := by
  exact ⟨hg, hdb, .inl h.g⟩
end
end AM
namespace AM
open PySem L2 PySem.Spec PyProof.Rows
section
variable {c : Ctx} {e : Expr} {es : List Expr} {Δ : Sl} {μ : Mu} {Q : D → Mu → Prop} {Ex : XD} {pos p : Pos} {C : Addr} {k j : Nat} {s : SpD} {x : Str}
theorem XAt.evo {K : PySem.W.Frag} {μ μ' : Mu} {H H' : Hp} (h : Evo K μ H μ' H') {cls : Value} {dict : Option Addr} {C : Addr} {o : Option (List (Str × D))} (a : XAt K μ H cls dict C o) (hx : ∀ a fs, H a = some (.xd fs) → H' a = some (.xd fs)) : XAt K μ' H' cls dict C o := by
  cases o with
  | none => exact a
  | some fs =>
    obtain ⟨h1, d, gs, h2, h3, h4⟩ := a
    exact ⟨h1, d, gs, h2, hx _ _ h3, h4.keep h.k⟩
theorem XAt.del {K : PySem.W.Frag} {μ : Mu} {H : Hp} {p : Addr} (hs : HS K μ H) {cls : Value} {dict : Option Addr} {C : Addr} {o : Option (List (Str × D))} (a : XAt K μ H cls dict C o) : XAt K (μ.del p) H cls dict C o := XAt.evo (evo_del hs) a fun _ _ h => h
theorem CE.dropX (h : CE c e Δ μ Q (fun C o Δ' m => ∃ p, Ex C o Δ' (m.del p))) : CE c e Δ μ Q Ex := fun σ H ok hs QV hQ hX =>
  h σ H ok hs QV hQ fun cls dict C o m H' ev xa ⟨p, q⟩ => hX cls dict C o _ H' (ev.trans (evo_del ev.s)) (xa.del ev.s) q
theorem W.makeX (F : CnG c.X.prog c.X.w c.K c.X.mg c.X.base x C k s) (hr : Room j c.X.A) (hl : k + 1 ≤ j)
    (h : CA c (e :: es) Δ μ (fun ds m1 => ∀ p, m1 p = none → s (.loc p :: ds) (m1.set p (.o C [])) (fun d m2 => d = .non ∧ aFrz (.loc p) m2 Q) (fun C o m' => ∃ p, Ex C o Δ (m'.del p))) (fun C o Δ' m => ∃ p, Ex C o Δ' (m.del p))) (hg : Gl c.X x := by rfl) (hdb : (x == ("__debug__" : Str)) = false := by decide)
    (he : starEach (e :: es) c.X.env = (false, eval e c.X.env) :: starEach es c.X.env := by rfl) (hpl : (backTo pos (starEach es c.X.env)).any (·.1) = false := by rfl) : CE c (.Call (.Name x p) (e :: es) [] pos) Δ μ Q Ex :=
  CE.dropX (W.make F hr hl h hg hdb he hpl)
end
end AM

set_option autoImplicit false
set_option maxRecDepth 100000
set_option maxHeartbeats 1000000
namespace AM
open PySem L2 PySem.Spec PyProof.Rows
/-! ### pictures as numbers -/
def mk (f : Nat → Bool) : Nat → Nat
  | 0 => 0
  | n + 1 => 2 ^ n * (if f n then 1 else 0) + mk f n
theorem mk_lt (f : Nat → Bool) : ∀ n, mk f n < 2 ^ n
  | 0 => by simp [mk]
  | n + 1 => by
    have := mk_lt f n
    unfold mk
    rw [Nat.pow_succ]
    split <;> omega
theorem mk_bit (f : Nat → Bool) : ∀ n i, (mk f n).testBit i = (decide (i < n) && f i)
  | 0, i => by simp [mk]
  | n + 1, i => by
    unfold mk
    rw [Nat.testBit_two_pow_mul_add _ (mk_lt f n)]
    by_cases h : i < n
    · rw [if_pos h, mk_bit f n i, decide_eq_true h, decide_eq_true (by omega)]
    · rw [if_neg h]
      by_cases h2 : i = n
      · subst h2
        rw [Nat.sub_self, decide_eq_true (by omega : i < i + 1)]
        cases f i <;> rfl
      · rw [decide_eq_false (by omega : ¬ i < n + 1), Bool.false_and]
        have : i - n ≠ 0 := by omega
        have h1 : (if f n = true then 1 else 0) < 2 ^ (i - n) := Nat.lt_of_lt_of_le (by split <;> omega : (if f n = true then 1 else 0) < 2 ^ 1) (Nat.pow_le_pow_right (by omega) (by omega))
        exact Nat.testBit_lt_two_pow h1
theorem mk_of {f : Nat → Bool} {n x : Nat} (h : ∀ i, x.testBit i = (decide (i < n) && f i)) : x = mk f n := Nat.eq_of_testBit_eq fun i => by rw [h, mk_bit]
theorem mk_congr {f g : Nat → Bool} {n : Nat} (h : ∀ i, i < n → f i = g i) : mk f n = mk g n := mk_of fun i => by
  rw [mk_bit]
  by_cases hi : i < n
  · rw [h i hi]
  · rw [decide_eq_false hi]; rfl
theorem mk_and {f g : Nat → Bool} {n : Nat} : mk f n &&& mk g n = mk (fun i => f i && g i) n := mk_of fun i => by
  rw [Nat.testBit_and, mk_bit, mk_bit]; cases decide (i < n) <;> simp
theorem mk_or {f g : Nat → Bool} {n : Nat} : mk f n ||| mk g n = mk (fun i => f i || g i) n := mk_of fun i => by
  rw [Nat.testBit_or, mk_bit, mk_bit]; cases decide (i < n) <;> simp
theorem mk_xor {f g : Nat → Bool} {n : Nat} : mk f n ^^^ mk g n = mk (fun i => xor (f i) (g i)) n := mk_of fun i => by
  rw [Nat.testBit_xor, mk_bit, mk_bit]; cases decide (i < n) <;> simp
theorem mk_all {n : Nat} : 2 ^ n - 1 = mk (fun _ => true) n := mk_of fun i => by rw [Nat.testBit_two_pow_sub_one]; simp
theorem mk_zero {n : Nat} : 0 = mk (fun _ => false) n := mk_of fun i => by simp
theorem mk_one {n k : Nat} (h : k < n) : 2 ^ k = mk (fun i => i == k) n := mk_of fun i => by
  rw [Nat.testBit_two_pow]
  by_cases e : k = i
  · subst e; simp [h]
  · rw [decide_eq_false e]
    have : (i == k) = false := by simpa using fun z => e z.symm
    rw [this, Bool.and_false]
theorem mk_none {f : Nat → Bool} {n : Nat} (h : ∀ i, i < n → f i = false) : mk f n = 0 := by rw [mk_congr (g := fun _ => false) h, ← mk_zero]
theorem mk_inj {f g : Nat → Bool} {n : Nat} (h : mk f n = mk g n) : ∀ i, i < n → f i = g i := fun i hi => by
  have := congrArg (fun x => x.testBit i) h
  simpa [mk_bit, hi] using this
theorem mk_shift {f : Nat → Bool} {n i : Nat} : (mk f n / 2 ^ i % 2 = 1) ↔ (i < n ∧ f i = true) := by
  have := mk_bit f n i
  rw [Nat.testBit_eq_decide_div_mod_eq] at this
  constructor
  · intro h
    rw [decide_eq_true h] at this
    have h2 := this.symm
    rw [Bool.and_eq_true, decide_eq_true_eq] at h2
    exact h2
  · intro ⟨h1, h2⟩
    rw [h2, decide_eq_true h1] at this
    exact of_decide_eq_true this
theorem mk_end {f : Nat → Bool} {n l : Nat} (h : mk f n / 2 ^ l = 0) : ∀ i, l ≤ i → i < n → f i = false := fun i hl hi => by
  have h1 : mk f n < 2 ^ l := by
    rcases Nat.lt_or_ge (mk f n) (2 ^ l) with h2 | h2
    · exact h2
    · have := Nat.div_pos h2 (Nat.two_pow_pos l); omega
  have h2 : (mk f n).testBit i = false := Nat.testBit_lt_two_pow (Nat.lt_of_lt_of_le h1 (Nat.pow_le_pow_right (by omega) hl))
  rw [mk_bit, decide_eq_true hi, Bool.true_and] at h2
  exact h2
theorem and_nat {a b : Nat} : Builtin.bitAnd (a : Int) (b : Int) = ((a &&& b : Nat) : Int) := by rw [bitAnd_pp (by omega) (by omega)]; simp
theorem or_nat {a b : Nat} : Builtin.bitOr (a : Int) (b : Int) = ((a ||| b : Nat) : Int) := by rw [Bits.bitOr_pp (by omega) (by omega)]; simp
theorem xor_nat {a b : Nat} : Builtin.bitXor (a : Int) (b : Int) = ((a ^^^ b : Nat) : Int) := by rw [Bits.bitXor_pp (by omega) (by omega)]; simp
/-- the lamps of a picture -/
def lampsF (f : Nat → Bool) (n : Nat) : List Nat := (List.range n).filter f
end AM
namespace AM
open PySem L2 PySem.Spec PyProof.Rows
/-! ### which lamps are lit -/
def rnd (rg : Bool) (n : Nat) : Int := if rg then n else (if (2 * ((n : Int) - 1)) > 1 then 2 * ((n : Int) - 1) else 1)
def dotAt (rg : Bool) (n t : Nat) (k : Int) (u : Bool) : Int :=
  if rg then (if u then k % n + t else k % n - t) % n
  else if 1 < (n : Int) then (let a := (if u then (t : Int) + k % n else (t : Int) - k % n) % rnd rg n; if rnd rg n - a < a then rnd rg n - a else a) else 0
def onP (rg : Bool) (n t : Nat) : Pat → Nat → Bool
  | .all, _ => true
  | .none, _ => false
  | .lamp k, i => decide ((i : Int) = if 0 ≤ k then k else n + k)
  | .dot k u, i => decide ((i : Int) = dotAt rg n t k u)
  | .comb e r, i => decide ((i : Int) % e = r)
  | .beat e r, _ => decide ((t : Int) % e = r)
  | .not p, i => !onP rg n t p i
  | .bin .and p q, i => onP rg n t p i && onP rg n t q i
  | .bin .or p q, i => onP rg n t p i || onP rg n t q i
  | .bin .unl p q, i => xor (onP rg n t p i) (onP rg n t q i)
/-- the picture -/
def pic (rg : Bool) (n t : Nat) (p : Pat) : Nat := mk (onP rg n t p) n
theorem rnd_pos {rg : Bool} {n : Nat} (h : 1 ≤ n) : 0 < rnd rg n := by
  unfold rnd; cases rg
  · simp only [Bool.false_eq_true, if_false]; split <;> omega
  · simp; omega
theorem dotAt_lt {rg : Bool} {n t : Nat} {k : Int} {u : Bool} (h : 1 ≤ n) : 0 ≤ dotAt rg n t k u ∧ dotAt rg n t k u < n := by
  unfold dotAt
  cases rg
  · simp only [Bool.false_eq_true, if_false]
    by_cases h1 : 1 < (n : Int)
    · rw [if_pos h1]
      have hr : rnd false n = 2 * ((n : Int) - 1) := by unfold rnd; simp only [Bool.false_eq_true, if_false]; rw [if_pos (by omega)]
      rw [hr]
      generalize (if u = true then (t : Int) + k % n else (t : Int) - k % n) = z
      have g1 := Int.emod_nonneg z (by omega : 2 * ((n : Int) - 1) ≠ 0)
      have g2 := Int.emod_lt_of_pos z (by omega : 0 < 2 * ((n : Int) - 1))
      split <;> omega
    · rw [if_neg h1]; omega
  · simp only [if_true]
    exact ⟨Int.emod_nonneg _ (by omega), Int.emod_lt_of_pos _ (by omega)⟩
theorem pic_dot {rg : Bool} {n t : Nat} {k : Int} {u : Bool} (h : 1 ≤ n) : pic rg n t (.dot k u) = 2 ^ (dotAt rg n t k u).toNat := by
  obtain ⟨h1, h2⟩ := dotAt_lt (rg := rg) (n := n) (t := t) (k := k) (u := u) h
  rw [mk_one (n := n) (k := (dotAt rg n t k u).toNat) (by omega)]
  refine mk_congr fun i hi => ?_
  show decide _ = (i == _)
  by_cases e : i = (dotAt rg n t k u).toNat
  · rw [decide_eq_true (by omega)]; simp [e]
  · rw [decide_eq_false (by omega)]; simp [e]
theorem pic_lamp {rg : Bool} {n t : Nat} {k j : Int} (hj : j = if 0 ≤ k then k else n + k) : pic rg n t (.lamp k) = if 0 ≤ j ∧ j < n then 2 ^ j.toNat else 0 := by
  split
  · rename_i h
    rw [mk_one (n := n) (k := j.toNat) (by omega)]
    refine mk_congr fun i hi => ?_
    show decide ((i : Int) = if 0 ≤ k then k else n + k) = (i == _)
    rw [← hj]
    by_cases e : i = j.toNat
    · rw [decide_eq_true (by omega)]; simp [e]
    · rw [decide_eq_false (by omega)]; simp [e]
  · rename_i h
    refine mk_none fun i hi => ?_
    show decide ((i : Int) = if 0 ≤ k then k else n + k) = false
    rw [← hj]
    exact decide_eq_false (by omega)
theorem pic_beat {rg : Bool} {n t : Nat} {e r : Int} : pic rg n t (.beat e r) = if (t : Int) % e = r then 2 ^ n - 1 else 0 := by
  split
  · rename_i h
    rw [mk_all]
    exact mk_congr fun i hi => decide_eq_true h
  · rename_i h
    exact mk_none fun i hi => decide_eq_false h
/-- the teeth of a comb -/
theorem comb_sum {n : Nat} {e r : Nat} (he : 0 < e) (hr : r < e) : ∀ m, (∀ i, i < m → r + i * e < n) → n ≤ r + m * e → ((List.range m).map fun i => 2 ^ (r + i * e)).sum = mk (fun i => decide ((i : Int) % e = r)) n := by
  have key : ∀ m, ((List.range m).map fun i => 2 ^ (r + i * e)).sum = mk (fun i => decide ((i : Int) % e = r)) (r + m * e) := by
    intro m
    induction m with
    | zero =>
      have : mk (fun i => decide ((i : Int) % (e : Int) = (r : Int))) (r + 0 * e) = 0 := mk_none fun i hi => decide_eq_false fun z => by
        have h1 : ((i : Int) % (e : Int)) = ((i % e : Nat) : Int) := (Int.natCast_emod i e).symm
        rw [h1, Nat.mod_eq_of_lt (by omega)] at z
        omega
      rw [this]; rfl
    | succ m ih =>
      rw [List.range_succ, List.map_append, List.sum_append, ih]
      have step : ∀ j, j < e → mk (fun i => decide ((i : Int) % (e : Int) = (r : Int))) (r + m * e + (j + 1)) = mk (fun i => decide ((i : Int) % (e : Int) = (r : Int))) (r + m * e) + 2 ^ (r + m * e) := by
        intro j
        induction j with
        | zero =>
          intro _
          have unf : mk (fun i => decide ((i : Int) % (e : Int) = (r : Int))) (r + m * e + 1) = 2 ^ (r + m * e) * (if decide (((r + m * e : Nat) : Int) % (e : Int) = (r : Int)) = true then 1 else 0) + mk (fun i => decide ((i : Int) % (e : Int) = (r : Int))) (r + m * e) := rfl
          have : ((r + m * e : Nat) : Int) % (e : Int) = (r : Int) := by
            rw [← Int.natCast_emod, Nat.add_mul_mod_self_right, Nat.mod_eq_of_lt hr]
          rw [unf, if_pos (decide_eq_true this)]
          omega
        | succ j ihj =>
          intro hj
          show mk _ (r + m * e + (j + 1) + 1) = _
          have : ¬ ((r + m * e + (j + 1) : Nat) : Int) % (e : Int) = (r : Int) := fun z => by
            rw [← Int.natCast_emod] at z
            have z2 : (r + m * e + (j + 1)) % e = r := by omega
            have z3 : r + m * e + (j + 1) = (r + (j + 1)) + m * e := by omega
            rw [z3, Nat.add_mul_mod_self_right] at z2
            by_cases h : r + (j + 1) < e
            · rw [Nat.mod_eq_of_lt h] at z2; omega
            · rw [Nat.mod_eq_sub_mod (by omega), Nat.mod_eq_of_lt (by omega)] at z2; omega
          have unf : mk (fun i => decide ((i : Int) % (e : Int) = (r : Int))) (r + m * e + (j + 1) + 1) = 2 ^ (r + m * e + (j + 1)) * (if decide (((r + m * e + (j + 1) : Nat) : Int) % (e : Int) = (r : Int)) = true then 1 else 0) + mk (fun i => decide ((i : Int) % (e : Int) = (r : Int))) (r + m * e + (j + 1)) := rfl
          rw [unf, if_neg (by rw [decide_eq_false this]; decide), ihj (by omega)]
          omega
      have := step (e - 1) (by omega)
      have e1 : r + (m + 1) * e = r + m * e + (e - 1 + 1) := by rw [Nat.succ_mul]; omega
      rw [e1, this]; simp
  intro m h1 h2
  rw [key]
  refine (mk_of fun i => ?_)
  rw [mk_bit]
  by_cases hi : i < n
  · rw [decide_eq_true hi, decide_eq_true (by omega)]
  · rw [decide_eq_false hi, Bool.false_and]
    by_cases hi2 : i < r + m * e
    · rw [decide_eq_true hi2, Bool.true_and]
      refine decide_eq_false fun z => ?_
      rw [← Int.natCast_emod] at z
      have z2 : i % e = r := by omega
      have z3 := Nat.div_add_mod i e
      rw [z2] at z3
      have z4 : i / e < m := by
        rcases Nat.lt_or_ge (i / e) m with h | h
        · exact h
        · have := Nat.mul_le_mul_left e h
          rw [Nat.mul_comm e m] at this
          omega
      have := h1 _ z4
      rw [Nat.mul_comm] at this
      omega
    · rw [decide_eq_false hi2]; rfl
end AM
namespace AM
open PySem L2 PySem.Spec PyProof.Rows
section
variable {c : Ctx} {a b d : Expr} {Δ : Sl} {μ : Mu} {QB : Bool → Mu → Prop} {Ex : XD} {pos : Pos}
theorem CT.chain {op op' : CmpOp} {f g : Int → Int → Bool} (ho : OpR c.X (compareOp op) (rI0 fun i j => .bl (f i j))) (ho' : OpR c.X (compareOp op') (rI0 fun i j => .bl (g i j)))
    (hp : ∀ ta tb tc, PE c.X a ta → PE c.X b tb → PE c.X d tc → PT c.X (.Compare a [op, op'] [b, d] pos) (tTest (tChain (rI0 fun i j => .bl (f i j)) (rI0 fun i j => .bl (g i j)) ta tb tc)))
    (h : CE c a Δ μ (fun d1 m => CE c b Δ m (fun d2 m' => ∃ i j, d1 = .int i ∧ d2 = .int j ∧ if f i j = true then CE c d Δ m' (fun d3 m2 => ∃ k, d3 = .int k ∧ QB (g j k) m2) Ex else QB false m') Ex) Ex) :
    CT c (.Compare a [op, op'] [b, d] pos) Δ μ QB Ex := by
  intro σ H ok hs QV hQ hX
  refine ⟨_, hp _ _ _ pe_w pe_w pe_w, ?_⟩
  refine h σ H ok hs _ (fun x d1 m1 H1 e1 t1 q1 => ?_) hX
  refine q1 σ H1 (ok.evo e1) e1.s _ (fun y d2 m2 H2 e2 t2 ⟨i, j, z1, z2, q2⟩ => ?_) (hX.evo e1)
  subst z1; subst z2
  cases t1; cases t2
  refine ⟨i, j, rfl, rfl, f i j, rfl, ?_⟩
  cases hf : f i j with
  | false =>
    rw [hf] at q2
    rw [if_neg (by decide)] at q2
    show (if false = true then _ else _)
    rw [if_neg (by decide)]
    exact ⟨_, rfl, hQ _ _ _ (e1.trans e2) q2⟩
  | true =>
    rw [hf, if_pos rfl] at q2
    show (if true = true then _ else _)
    rw [if_pos rfl]
    refine q2 σ H2 (ok.evo (e1.trans e2)) e2.s _ (fun z d3 m3 H3 e3 t3 ⟨k, z3, q3⟩ => ?_) (hX.evo (e1.trans e2))
    subst z3
    cases t3
    exact ⟨j, k, rfl, rfl, _, rfl, hQ _ _ _ ((e1.trans e2).trans e3) q3⟩
theorem T.lele (h : CE c a Δ μ (fun d1 m => CE c b Δ m (fun d2 m' => aII d1 d2 fun i j => if decide (i ≤ j) = true then CE c d Δ m' (fun d3 m2 => aI d3 fun k => QB (decide (j ≤ k)) m2) Ex else QB false m') Ex) Ex)
    (hp : ∀ ta tb tc, PE c.X a ta → PE c.X b tb → PE c.X d tc → PT c.X (.Compare a [.LtE, .LtE] [b, d] pos) (tTest (tChain (rI0 fun i j => .bl (decide (i ≤ j))) (rI0 fun i j => .bl (decide (i ≤ j))) ta tb tc))) :
    CT c (.Compare a [.LtE, .LtE] [b, d] pos) Δ μ QB Ex := CT.chain (f := fun i j => decide (i ≤ j)) (g := fun i j => decide (i ≤ j)) op_le op_le hp h
theorem T.lelt (h : CE c a Δ μ (fun d1 m => CE c b Δ m (fun d2 m' => aII d1 d2 fun i j => if decide (i ≤ j) = true then CE c d Δ m' (fun d3 m2 => aI d3 fun k => QB (decide (j < k)) m2) Ex else QB false m') Ex) Ex)
    (hp : ∀ ta tb tc, PE c.X a ta → PE c.X b tb → PE c.X d tc → PT c.X (.Compare a [.LtE, .Lt] [b, d] pos) (tTest (tChain (rI0 fun i j => .bl (decide (i ≤ j))) (rI0 fun i j => .bl (decide (i < j))) ta tb tc))) :
    CT c (.Compare a [.LtE, .Lt] [b, d] pos) Δ μ QB Ex := CT.chain (f := fun i j => decide (i ≤ j)) (g := fun i j => decide (i < j)) op_le op_lt hp h
end
end AM

set_option autoImplicit false
set_option maxRecDepth 100000
set_option maxHeartbeats 1000000
namespace AM
open PySem L2 PySem.Spec PyProof.Rows
/-! ### a dot on a chain, step by step -/
def rep (n y a d : Int) : Prop := (d = 1 ∧ 0 ≤ y ∧ y ≤ n - 1 ∧ a = y) ∨ (d = -1 ∧ ((n - 1 ≤ y ∧ y < 2 * (n - 1) ∧ a = 2 * (n - 1) - y) ∨ (y = 0 ∧ a = 0)))
def nextD (n a d : Int) : Int := if 0 ≤ a + d ∧ a + d < n then d else -d
/-- the place on a chain, by the phase -/
theorem dot_phase {n t : Nat} {k : Int} {u : Bool} (hn : 2 ≤ n) : dotAt false n t k u = (let y := ((if u then k % n else -(k % n)) + (t : Int)) % (2 * ((n : Int) - 1)); if 2 * ((n : Int) - 1) - y < y then 2 * ((n : Int) - 1) - y else y) := by
  have hr : rnd false n = 2 * ((n : Int) - 1) := by unfold rnd; simp only [Bool.false_eq_true, if_false]; rw [if_pos (by omega)]
  unfold dotAt
  simp only [Bool.false_eq_true, if_false]
  rw [if_pos (by omega), hr]
  cases u
  · simp only [Bool.false_eq_true, if_false]
    rw [show (t : Int) - k % n = -(k % n) + t by omega]
  · simp only [if_true]
    rw [show (t : Int) + k % n = k % n + t by omega]
end AM

set_option autoImplicit false
set_option maxRecDepth 100000
set_option maxHeartbeats 1000000
namespace AM
open PySem L2 PySem.Spec PyProof.Rows
/-! ### == where lists that change stand -/
def asD (m : Mu) (d e : D) : Prop := d = e ∨ ∃ l ds, d = .loc l ∧ m l = some (.l ds) ∧ e = .lst ds
theorem asD.dp {K : PySem.W.Frag} {m : Mu} {H : Hp} {v : V} {d e : D} (h : asD m d e) (hs : HS K m H) (t : Dt K m H v d) (hp : e.isPy = true) : L2.Dp K H v e.py := by
  rcases h with rfl | ⟨l, ds, rfl, hm, rfl⟩
  · exact t.dp hp
  · cases t
    obtain ⟨xs, h1, h2⟩ := hs l _ hm
    unfold D.py; unfold D.isPy at hp
    exact .lst (.inl (.inl h1)) (h2.dp hp)
def aEqM (m : Mu) (d1 d2 : D) (R : Bool → Prop) : Prop := ∃ e1 e2, asD m d1 e1 ∧ asD m d2 e2 ∧ e1.isPy = true ∧ e2.isPy = true ∧ e1.py.depth ≤ 64 ∧ e2.py.depth ≤ 64 ∧ R (PyData.eqv e1.py e2.py)
theorem aEqM.nil {m : Mu} {l : Addr} {ds : List D} {R : Bool → Prop} (hm : m l = some (.l ds)) (hp : D.arePy ds = true) (hd : PyData.depthAll (D.pys ds) ≤ 60) (h : R ds.isEmpty) : aEqM m (.loc l) (.lst []) R := by
  refine ⟨.lst ds, .lst [], .inr ⟨l, ds, rfl, hm, rfl⟩, .inl rfl, ?_, rfl, ?_, by decide +kernel, ?_⟩
  · unfold D.isPy; exact hp
  · unfold D.py PyData.depth; omega
  · have : PyData.eqv (D.lst ds).py (D.lst []).py = ds.isEmpty := by
      cases ds with
      | nil => rfl
      | cons a r => rfl
    rw [this]; exact h
section
variable {c : Ctx} {a b e : Expr} {es : List Expr} {Δ : Sl} {μ : Mu} {Q : D → Mu → Prop} {QB : Bool → Mu → Prop} {Ex : XD} {pos p apos : Pos} {C : Addr} {k j : Nat} {s : SpD}
theorem W.eqM {i : Nat} (hr : Room i c.X.A) (h : CE c a Δ μ (fun d1 m => CE c b Δ m (fun d2 m' => aEqM m' d1 d2 fun k => Q (.bl k) m') Ex) Ex) : CE c (.Compare a [.Eq] [b] pos) Δ μ Q Ex :=
  CE.cmp (op_eqA (hr.units)) (nomark _) (fun x y d1 d2 m H QV ⟨e1, e2, a1, a2, p1, p2, q1, q2, q⟩ hs t1 t2 hQ => .inr ⟨_, _, asD.dp a1 hs t1 p1, asD.dp a2 hs t2 p2, shaped_of p1 q1, shaped_of p2 q2, hQ _ _ m H (Evo.refl hs) (.bl _) q⟩) h
theorem W.neM {i : Nat} (hr : Room i c.X.A) (h : CE c a Δ μ (fun d1 m => CE c b Δ m (fun d2 m' => aEqM m' d1 d2 fun k => Q (.bl (!k)) m') Ex) Ex) : CE c (.Compare a [.NotEq] [b] pos) Δ μ Q Ex :=
  CE.cmp (op_neA (hr.units)) (nomark _) (fun x y d1 d2 m H QV ⟨e1, e2, a1, a2, p1, p2, q1, q2, q⟩ hs t1 t2 hQ => .inr ⟨_, _, asD.dp a1 hs t1 p1, asD.dp a2 hs t2 p2, shaped_of p1 q1, shaped_of p2 q2, hQ _ _ m H (Evo.refl hs) (.bl _) q⟩) h
theorem T.eqM {i : Nat} (hr : Room i c.X.A) (h : CE c a Δ μ (fun d1 m => CE c b Δ m (fun d2 m' => aEqM m' d1 d2 fun k => QB k m') Ex) Ex) : CT c (.Compare a [.Eq] [b] pos) Δ μ QB Ex :=
  CT.cmp (op_eqA (hr.units)) (nomark _) (fun x y d1 d2 m H QV ⟨e1, e2, a1, a2, p1, p2, q1, q2, q⟩ hs t1 t2 hQ => .inr ⟨_, _, asD.dp a1 hs t1 p1, asD.dp a2 hs t2 p2, shaped_of p1 q1, shaped_of p2 q2, hQ _ _ m H (Evo.refl hs) (.bl _) ⟨_, rfl, q⟩⟩) h
theorem T.neM {i : Nat} (hr : Room i c.X.A) (h : CE c a Δ μ (fun d1 m => CE c b Δ m (fun d2 m' => aEqM m' d1 d2 fun k => QB (!k) m') Ex) Ex) : CT c (.Compare a [.NotEq] [b] pos) Δ μ QB Ex :=
  CT.cmp (op_neA (hr.units)) (nomark _) (fun x y d1 d2 m H QV ⟨e1, e2, a1, a2, p1, p2, q1, q2, q⟩ hs t1 t2 hQ => .inr ⟨_, _, asD.dp a1 hs t1 p1, asD.dp a2 hs t2 p2, shaped_of p1 q1, shaped_of p2 q2, hQ _ _ m H (Evo.refl hs) (.bl _) ⟨_, rfl, q⟩⟩) h
end
/-! ### len by an own __len__ -/
structure LnM (P : Program) (w : World) (K : PySem.W.Frag) (mg : Str → Option Value) (base : Heap) (C : Addr) (k : Nat) (s : SpD) : Prop where
  ex : ∃ (f : Addr) (fd : FuncData) (ps : List Str), FnD P w K mg base (L2.CX P w) k f fd ps s ∧ PySem.W.findIn K (.ref C) "__len__" = some (some (.ref f)) ∧ PySem.W.isFn K (.ref f) = true ∧ Binds K fd ps []
structure Dl (K : PySem.W.Frag) (C : Addr) (qual : Str) (st : Stmt) (ps : List Str) : Prop where
  ex : ∃ (f : Addr) (fd : FuncData), Fun K "__len__" qual st f fd ∧ PySem.W.findIn K (.ref C) "__len__" = some (some (.ref f)) ∧ PySem.W.isFn K (.ref f) = true ∧ Binds K fd ps []
def rLenO (K : PySem.W.Frag) (C : Addr) (s : SpD) : List V → Hp → VK → Prop := fun xs H Q => ∃ a dx fs, xs = [.ref a] ∧ H a = some (.ins C dx fs) ∧ toSp K s [.ref a] H (fun v H' => (∃ n : Int, v = .int n ∧ 0 ≤ n ∧ n < 2 ^ 63) ∧ Q v H') (fun _ _ _ => False)
section
variable {X : Cx} {n : Nat} {C : Addr} {s : SpD}
end
section
variable {c : Ctx} {a b e : Expr} {es : List Expr} {Δ : Sl} {μ : Mu} {Q : D → Mu → Prop} {Ex : XD} {pos p apos : Pos} {C : Addr} {k j : Nat} {s : SpD}
end
end AM

set_option autoImplicit false
set_option maxRecDepth 100000
set_option maxHeartbeats 1000000
namespace AM
open PySem L2 PySem.Spec PyProof.Rows
/-! ### enumerate of a tuple -/
def EtJ (K : PySem.W.Frag) (t : Addr) : It where
  go := fun i H => ∃ (zs : List V) (z : V), SqT K H t zs ∧ zs[i]? = some z
  yld := fun i H v H' => ∃ T z, v = .ref T ∧ H T = none ∧ H' = upd H T (.tup [.int (i : Nat), z]) ∧ ∀ zs, SqT K H t zs → zs[i]? = some z
  stop := fun i H => ∃ zs : List V, SqT K H t zs ∧ zs.length = i
theorem apart_cls {h : Heap} {a b : Addr} {oa ob : Obj} (ha : h.get? a = some oa) (hb : h.get? b = some ob) (hc : oa.cls ≠ ob.cls) : a ≠ b := fun z => by
  subst z
  rw [ha] at hb
  cases hb
  exact hc rfl
theorem enumT_apart {h : Heap} {e it t : Addr} {i : Int} {old : Value} {j : Nat} {items : Array Value} (he : IsEnum h e it i old) (hi : h.IsTupleIter it t j) (ht : h.IsTuple t items) : e ≠ it ∧ e ∉ [it, t] ∧ t ≠ it := by
  obtain ⟨o1, g1, c1, _⟩ := hi
  obtain ⟨o2, g2, c2, _⟩ := ht
  have h1 : e ≠ it := apart_cls he g1 (fun z => absurd (Value.type.inj (z.trans c1)) (by decide))
  have h2 : e ≠ t := apart_cls he g2 (fun z => absurd (Value.type.inj (z.trans c2)) (by decide))
  have h3 : t ≠ it := apart_cls g2 g1 (by rw [c1, c2]; decide)
  exact ⟨h1, fun z => by simp at z; rcases z with z | z; exact h1 z; exact h2 z, h3⟩
theorem turn_enumT {P : Program} {w : World} {K : PySem.W.Frag} {elts : List Expr} {kk : Nat} {tpos : Pos} (t e it : Addr) :
    Turn P w K (.Tuple elts kk tpos) (EtJ K t) [e, it] e (fun i h => (∃ old, IsEnum h e it ((i : Nat) : Int) old) ∧ h.IsTupleIter it t i) where
  mem := List.mem_cons_self
  obj := fun i h ⟨⟨old, he⟩, ⟨o, ho, hc, hd⟩⟩ b hb => by
    rcases List.mem_cons.mp hb with z | z
    · subst z
      exact ⟨_, he, fun v q => nomatch q⟩
    · have z := List.mem_singleton.mp z
      subst z
      exact ⟨o, ho, fun v q => by rw [hd] at q; cases q⟩
  keep := fun i h h' ⟨⟨old, he⟩, hi⟩ k => ⟨⟨old, k e List.mem_cons_self _ he⟩, hi.at fun o q => k it (by simp) o q⟩
  item := by
    intro X hP hw hK hc i pins s σ H E I hf st hg
    subst hP hw hK
    obtain ⟨⟨old, he⟩, hit⟩ := st
    obtain ⟨zs, z, hq, hx⟩ := hg
    obtain ⟨its, rv, p, hz⟩ := I.tuple hq
    obtain ⟨u, hu, ru⟩ := rv.get hx
    have ht : s.heap.IsTuple t its.toArray := p
    obtain ⟨a1, a2, a3⟩ := enumT_apart he hit ht
    have hlt : i < its.toArray.size := by
      have := (List.getElem?_eq_some_iff.mp hu).1
      simpa using this
    have hel : e < s.heap.objs.size := Heap.lt_size he
    have hil : it < s.heap.objs.size := by obtain ⟨_, q, _⟩ := hit; exact Heap.lt_size q
    refine wpAny_pyNext_enum_itemD (Draws.tuple (prog := X.prog) (w := X.w) (A := X.A.in1) (I.ok.hd hc) it t a3 its.toArray) he ⟨hit, ht⟩ hlt a1 a2 fun x h' tk hP ho st' hT hsz hk => ?_
    have hxu : x = u := by
      have hu' : its.toArray[i]? = some u := by simpa using hu
      rw [hu'] at hP
      exact (Option.some.inj hP).symm
    subst hxu
    refine ⟨_, rfl, wpAny_letOwnedTupleGo_enum (s := { s with heap := h', toks := tk + 1 }) ho fun h2 he2 sb => ?_⟩
    have hT2 : h2.get? s.heap.objs.size = some { cls := .type "tuple", data := .seq #[.int i tk, x] } := (sb.2 _ (Nat.ne_of_gt hel)).trans hT
    have new : ObjOk X.prog X.w (upd H s.heap.objs.size (.tup [.int (i : Nat), z])) h2 s.heap.objs.size (.tup [.int (i : Nat), z]) := by
      refine ⟨by show 2 ≤ sizeLine; decide, [.int i tk, x], ?_, ⟨_, hT2, rfl, _, rfl⟩⟩
      exact .cons ⟨_, rfl⟩ (.cons ru .nil)
    have I1 : Inv X pins σ (upd H s.heap.objs.size (.tup [.int (i : Nat), z])) { s with heap := h2, toks := tk + 1 } := by
      refine I.turnedNew (ch := [e, it]) (fun b ob hb q => ?_) hf (Nat.le_refl _) new
      have n1 : b ≠ e := fun z => hb (by simp [z])
      have n2 : b ≠ it := fun z => hb (by simp [z])
      exact (sb.2 b n1).trans (hk b ob n1 n2 q)
    refine ⟨.ref s.heap.objs.size, _, I1, rfl, ⟨_, z, rfl, I.hok.fresh (Nat.le_refl _), rfl, fun ys hy => by rw [I.tuple_inj hy hq]; exact hx⟩, ⟨⟨x, ?_⟩, st'.1.at fun o q => (sb.2 it (Ne.symm a1)).trans q⟩, fun b hb => ?_⟩
    · have e1 : ((i + 1 : Nat) : Int) = (i : Int) + 1 := by omega
      rw [e1]; exact he2
    · have hb2 : b < s.heap.objs.size := by
        rcases List.mem_cons.mp hb with z | z
        · rw [z]; exact hel
        · rw [List.mem_singleton.mp z]; exact hil
      rw [upd_ne (Nat.ne_of_lt hb2)]
      exact (hf b hb).1
  done := by
    intro X hP hw hK hc i pins s σ H E I hf st hg
    subst hP hw hK
    obtain ⟨⟨old, he⟩, hit⟩ := st
    obtain ⟨zs, hq, hx⟩ := hg
    obtain ⟨its, rv, p, hz⟩ := I.tuple hq
    have ht : s.heap.IsTuple t its.toArray := p
    obtain ⟨a1, a2, a3⟩ := enumT_apart he hit ht
    obtain ⟨f0, f1, f2, f3, f4, f5⟩ := hf it (by simp)
    have hl := rv.length
    have hn : i = its.toArray.size := by simp; omega
    subst hn
    refine wpAny_pyNext_enum_endD (Draws.tuple (prog := X.prog) (w := X.w) (A := X.A.in1) (I.ok.hd hc) it t a3 its.toArray) he ⟨hit, ht⟩ fun h' eb => ?_
    exact ⟨rfl, I.turned (t' := s.toks) (fun b o hb q => eb b o hb q) f0 f1 f3 f4 f5⟩
  self := fun A i s Q E ⟨⟨_, he⟩, _⟩ h => wpAny_pyIter_enum he h
set_option maxHeartbeats 4000000 in
theorem meets_enumT (t : Addr) (items : Array Value) : Meets (Builtin.«enumerate.__new__» ⟨[.type "enumerate", .ref t], []⟩) (fun _ R s => s.heap.IsTuple t items ∧ ∀ h2, h2 = (s.heap.push { cls := .type "tuple_iterator", data := .fields #[.ref t, .int 0 0] }).push { cls := .type "enumerate", data := .fields #[.none, .bool false, .ref s.heap.objs.size, rawInt 0, .none, .none] } →
      R (.ok (.ret (.ref (s.heap.objs.size + 1)))) { s with heap := h2 }) :=
  .of_wp fun prog w A R s h => by
    obtain ⟨hp, g, d, tk, os⟩ := s
    obtain ⟨hT, h⟩ := h
    have hsub := sub_enumerate
    have h := h _ rfl
    have hsz : (hp.push { cls := .type "tuple_iterator", data := .fields #[.ref t, .int 0 0] }).objs.size = hp.objs.size + 1 := Heap.size_push ..
    rw [← hsz] at h
    have q1 : ∀ {A' : Around} {E : Value → Shared → Prop} {Q : Value → Shared → Prop}, Q (.ref hp.objs.size) ⟨hp.push { cls := .type "tuple_iterator", data := .fields #[.ref t, .int 0 0] }, g, d, tk, os⟩ → wpAny (model prog w) A' (pyIter (.ref t)) Q E ⟨hp, g, d, tk, os⟩ := fun q => wpAny_pyIter_tuple hT q
    wp_walk using q1
    refine wpAny_stack_any fun st => wpAny_pure ?_
    split
    · rename_i c _ _ _ _ _
      cases (c == Value.type "enumerate") <;> (wp_walk using q1; exact ⟨_, rfl, h⟩)
    · wp_walk using q1; exact ⟨_, rfl, h⟩
def iEnT (K : PySem.W.Frag) (ta : TA) : TI := fun σ H R => ta σ H fun vs H1 => ∃ t zs, vs = [.ref t] ∧ SqT K H1 t zs ∧ R (EtJ K t) H1
theorem pi_enumT {X : Cx} {e : Expr} {ta : TA} {p pos tpos : Pos} {elts : List Expr} {kk : Nat} (hg : Gl X "enumerate") (hm : X.mg "enumerate" = none) (ha : PA X [e] ta) (hs : starEach [e] X.env = [(false, eval e X.env)] := by rfl) :
    PI X (.Tuple elts kk tpos) (.Call (.Name "enumerate" p) [e] [] pos) (iEnT X.K ta) := by
  refine ⟨fun pins s σ H R I h => ?_⟩
  refine Call_ (ld_blt I hg hm boot_enumerate (PyProof.Rows.callWith_type1 (thn (ha.run pos pins s σ H _ I h) fun us s1 ⟨vs, H1, I1, r1, t, zs, ev, hq, q⟩ => ?_) hs rfl))
  subst ev
  obtain ⟨u, rfl, ru⟩ := vals1 r1
  obtain rfl : u = Value.ref t := ru
  obtain ⟨its, rv, p', hz⟩ := I1.tuple hq
  have ht : s1.heap.IsTuple t its.toArray := p'
  refine callType_new F.called_enumerate (by decide) (F.typeCall_enumerate_1 _) (F.newCall_enumerate_1 _) (fun obj => F.args_object_init_2 obj _) F.entry_enumerate_new (meets_enumT t its.toArray) ⟨ht, fun h2 eh => ?_⟩
  have keep : ∀ b o, s1.heap.get? b = some o → h2.get? b = some o := fun b o z => by
    rw [eh]; exact Heap.get?_push_of_some _ (Heap.get?_push_of_some _ z)
  have hsz : (s1.heap.push { cls := .type "tuple_iterator", data := .fields #[.ref t, .int 0 0] }).objs.size = s1.heap.objs.size + 1 := Heap.size_push ..
  have he : IsEnum h2 (s1.heap.objs.size + 1) s1.heap.objs.size 0 .none := by
    have z := Heap.get?_push_size (s1.heap.push { cls := .type "tuple_iterator", data := .fields #[.ref t, .int 0 0] }) (o := { cls := .type "enumerate", data := .fields #[.none, .bool false, .ref s1.heap.objs.size, rawInt 0, .none, .none] }) rfl
    rw [hsz] at z
    rw [eh]
    exact z
  have hit : h2.IsTupleIter s1.heap.objs.size t 0 := by
    rw [eh]
    exact ⟨_, Heap.get?_push_of_some _ (Heap.get?_push_size _ rfl), rfl, rfl⟩
  refine ⟨⟨_, he, rfl⟩, wpAny_pyIter_enum he ?_⟩
  have I2 : Inv X pins σ H1 { s1 with heap := h2 } := I1.kept (t' := s1.toks) keep
  refine ⟨s1.heap.objs.size + 1, [s1.heap.objs.size + 1, s1.heap.objs.size], _, _, H1, rfl, I2, turn_enumT t (s1.heap.objs.size + 1) s1.heap.objs.size, ⟨⟨.none, he⟩, hit⟩, fun b hb => ?_, q⟩
  have hle : s1.heap.objs.size ≤ b := by
    rcases List.mem_cons.mp hb with z | z
    · rw [z]; exact Nat.le_add_right _ _
    · rw [List.mem_singleton.mp z]; exact Nat.le_refl _
  exact I1.fpOk hle (I1.hok.fresh hle)
section
variable {c : Ctx} {e a b tg : Expr} {es : List Expr} {Δ : Sl} {μ : Mu} {QA : List D → Mu → Prop} {Ex : XD} {pos p apos : Pos} {E : DE} {st : Stmt} {sts : List Stmt}
theorem CI.enumT {elts : List Expr} {kk : Nat} {tpos : Pos} (hm : c.X.mg "enumerate" = none) (h : CE c e Δ μ (fun d m => ∃ ds, d = .tup ds ∧ QA (enumD ds) m) Ex) (hg : Gl c.X "enumerate" := by rfl)
    (hst : starEach [e] c.X.env = [(false, eval e c.X.env)] := by rfl) : CI c (.Tuple elts kk tpos) (.Call (.Name "enumerate" p) [e] [] pos) Δ μ QA Ex := by
  intro σ H ok hs R hR hX
  refine ⟨_, pi_enumT hg hm (pa_cons pe_w pa_nil hst) hst, h σ H ok hs _ (fun v d m H1 ev t ⟨es, hd, q⟩ => ?_) hX⟩
  subst hd
  cases t with
  | tup hq h3 =>
    rename_i l xs
    have at_ : ∀ {μ2 H2}, Evo c.K m H1 μ2 H2 → SqT c.K H2 l xs ∧ Dts c.K μ2 H2 xs es := fun {μ2 H2} e2 => ⟨e2.k.t _ _ hq, e2.dts h3⟩
    refine ⟨l, xs, rfl, hq, hR _ (enumD es) _ _ ev ⟨fun μ2 H2 i e2 hi => ?_, fun μ2 H2 i x H' e2 hi y => ?_, fun μ2 H2 e2 => ?_⟩ q⟩
    · rw [enumD_len] at hi
      obtain ⟨h4, h5⟩ := at_ e2
      exact ⟨xs, xs[i]'(by rw [h5.length]; exact hi), h4, by simp⟩
    · obtain ⟨T, u, rfl, hT, rfl, y⟩ := y
      obtain ⟨h4, h5⟩ := at_ e2
      obtain ⟨d', h6, h7⟩ := h5.get' (y xs h4)
      have s1 := same_new (o := .tup [.int (i : Nat), u]) hT
      exact ⟨_, enumD_get h6, .tup (SqT.of upd_same) (.cons (.int _) (.cons (h7.keep (keeps_same s1)) .nil)), evo_same e2.s s1⟩
    · obtain ⟨h4, h5⟩ := at_ e2
      exact ⟨xs, h4, by rw [h5.length, enumD_len]⟩
/-- a list that changes, held by a name, changes no more -/
theorem CSs.frz {i : Nat} {l : Addr} {ds : List D} (hi : Δ[i]? = some (some (.loc l))) (hm : μ l = some (.l ds)) (h : CSs c sts (Δ.set i (some (.lst ds))) (μ.del l) E) : CSs c sts Δ μ E := by
  intro σ H ok hs Ev S
  have e := evo_del (p := l) hs
  refine h σ H ?_ e.s Ev (S.evo e)
  refine ⟨by rw [List.length_set]; exact ok.len, fun j d q => ?_⟩
  by_cases hj : i = j
  · subst hj
    have hl : i < Δ.length := (List.getElem?_eq_some_iff.mp hi).1
    rw [List.getElem?_set_self hl] at q
    cases q
    obtain ⟨v, h1, h2⟩ := ok.get i _ hi
    cases h2
    exact ⟨_, h1, frozen_l hs hm⟩
  · rw [List.getElem?_set_ne hj] at q
    obtain ⟨v, h1, h2⟩ := ok.get j d q
    exact ⟨v, h1, e.dt h2⟩
/-- .. is forgotten -/
theorem CSs.drop {l : Addr} (h : CSs c sts Δ (μ.del l) E) : CSs c sts Δ μ E := by
  intro σ H ok hs Ev S
  have e := evo_del (p := l) hs
  exact h σ H (ok.evo e) e.s Ev (S.evo e)
/-- a slot is forgotten -/
theorem CSs.unset {i : Nat} (h : CSs c sts (Δ.set i none) μ E) : CSs c sts Δ μ E := by
  intro σ H ok hs Ev S
  refine h σ H ?_ hs Ev S
  refine ok.weak (by simp) fun j d q => ?_
  by_cases hj : i = j
  · subst hj
    by_cases hl : i < Δ.length
    · rw [List.getElem?_set_self hl] at q; cases q
    · rw [List.getElem?_eq_none (by simp; omega)] at q; cases q
  · rw [List.getElem?_set_ne hj] at q; exact q
theorem I.enumT {elts : List Expr} {kk : Nat} {tpos : Pos} (hm : NB c.X.mg "enumerate") (h : CE c e Δ μ (fun d m => aTup d fun ds => QA (enumD ds) m) Ex) (hg : Gl c.X "enumerate" := by rfl)
    (hst : starEach [e] c.X.env = [(false, eval e c.X.env)] := by rfl) : CI c (.Tuple elts kk tpos) (.Call (.Name "enumerate" p) [e] [] pos) Δ μ QA Ex := CI.enumT hm h hg hst
theorem CS.imp {E' : DE} (h : CS c st Δ μ E) (hn : ∀ Δ m, E.nx Δ m → E'.nx Δ m) (hr : ∀ d m, E.rt d m → E'.rt d m) (hb : ∀ Δ m, E.bk Δ m → E'.bk Δ m) (hc : ∀ Δ m, E.ct Δ m → E'.ct Δ m) (hx : ∀ C o Δ m, E.ex C o Δ m → E'.ex C o Δ m) : CS c st Δ μ E' :=
  fun σ H ok hs Ev S => h σ H ok hs Ev ⟨fun σ' Δ' m H' e o q => S.nx σ' Δ' m H' e o (hn _ _ q), fun v d m H' e t q => S.rt v d m H' e t (hr _ _ q), fun σ' Δ' m H' e o q => S.bk σ' Δ' m H' e o (hb _ _ q), fun σ' Δ' m H' e o q => S.ct σ' Δ' m H' e o (hc _ _ q),
    fun x y C o σ' Δ' m H' e k z q => S.ex x y C o σ' Δ' m H' e k z (hx _ _ _ _ q)⟩
/-- what is known behind a statement -/
theorem CSs.cut (I : Sl → Mu → Prop) (h1 : CS c st Δ μ { E with nx := I }) (h2 : ∀ Δ' m', I Δ' m' → CSs c sts Δ' m' E) : CSs c (st :: sts) Δ μ E :=
  CSs.cons (CS.imp h1 h2 (fun _ _ q => q) (fun _ _ q => q) (fun _ _ q => q) (fun _ _ _ _ q => q))
end
section
variable {c : Ctx} {scope : Scope} {vs : List Nat} {g : TGD} {t elt : Expr} {Δ : Sl} {Q : D → Mu → Prop} {ds : List D} {m : Mu}
theorem LcDL.map1 (f : D → D) (hl : ds.length ≤ 100000) (h : ∀ d acc L, d ∈ ds → m L = none → ∃ Δ2, g d (wipeD Δ vs) = some Δ2 ∧ AllB c scope fun c => CE c elt Δ2 (m.set L (.l acc)) (fun r m2 => r = f d ∧ m2 = m.set L (.l acc)) noX)
    (q : ∀ p, m p = none → Q (.loc p) (m.set p (.l (ds.map f)))) : LcDL c scope vs g [] elt Δ Q ds m := by
  refine ⟨hl, fun i acc m' => m' = m ∧ acc = (ds.map f).take i, ⟨rfl, rfl⟩, fun i d acc m' L hd ⟨e1, e2⟩ hL => ?_, fun acc m' p hp ⟨e1, e2⟩ => ?_⟩
  · subst e1
    obtain ⟨Δ2, hg, he⟩ := h d acc L (List.mem_of_getElem? hd) hL
    refine ⟨Δ2, hg, fun s H C cl fp => (he s H C cl fp).imp fun r m2 ⟨z1, z2⟩ => ⟨m', z2, hL, rfl, ?_⟩⟩
    subst z1; subst e2
    have : (ds.map f)[i]? = some (f d) := by rw [List.getElem?_map, hd]; rfl
    rw [List.take_succ, this]
  · subst e1; subst e2
    have : (ds.map f).length = ds.length := by simp
    rw [← this, List.take_length]; exact q p hp
end
section
variable {c : Ctx} {e a b tg : Expr} {es : List Expr} {Δ : Sl} {μ : Mu} {Q Q' : D → Mu → Prop} {Ex Ex' : XD} {pos p apos : Pos} {scope : Scope}
/-- [..], a list that will change -/
theorem CE.lcL {iter elt : Expr} {ifs : List Expr} {own : List (Str × Nat)} {g : TGD} (hc : c.X.calm = true) (hN : c.X.N.Nodup) (hok : BlkOk c.X.N c.X.env.scope scope own) (hg : CGB c scope (own.map (·.2)) tg g)
    (h : CI c tg iter Δ μ (LcDL c scope (own.map (·.2)) g ifs elt Δ Q) Ex) (hf : ∀ x, foldedSetIterable iter c.X.env x = pure x := by intro _; rfl) : CE c (.ListComp elt [⟨tg, iter, ifs, 0⟩] scope pos) Δ μ Q Ex := by
  intro σ H ok hs QV hQ hX
  obtain ⟨t, pg, ht⟩ := hg.ex
  obtain ⟨w, hw, q⟩ := h σ H ok hs (fun (J : It) (H1 : Hp) => ∀ L, H1 L = none → ∃ W : Nat → Nat → Hp → Prop, (∃ m, W 0 m (upd H1 L (.lst []))) ∧ ∀ i m H, W i m H →
      (J.stop i H ∧ QV (.ref L) H) ∨ (J.go i H ∧ ∃ Nx : Hp → Prop, (∀ H', Nx H' → ∃ m', m' < m ∧ W (i + 1) m' H') ∧ ∀ x H', J.yld i H x H' → t x (wipe σ (own.map (·.2))) H' fun σ2 H2 => wipe σ2 (own.map (·.2)) = wipe σ (own.map (·.2)) ∧
        ttB c scope ifs σ2 H2 fun b H3 =>
          if b = true then teB c scope elt σ2 H3 fun y H4 => ∃ acc, H4 L = some (.lst acc) ∧ acc.length < sizeLine ∧ Nx (upd H4 L (.lst (acc ++ [y]))) else Nx H3))
    (fun J ds m H1 ev W hl => lc_mainL ht ev.s (ok.evo ev) W hl (WantV.evo hQ ev)) hX
  exact ⟨_, pe_lc hc hN hw hok (fun s H C cl fp => pg s H C cl fp) (fun s H C cl fp => pts_b (c := c) s H C cl fp) (fun s H C cl fp => pe_b (c := c) s H C cl fp) hf, q⟩
end
end AM

set_option autoImplicit false
set_option maxRecDepth 100000
set_option maxHeartbeats 1000000
namespace AM
open PySem L2 PySem.Spec PyProof.Rows
/-! ### what comes again -/
def isE (e : Int) : Pat → Bool
  | .comb x _ => decide (x = e)
  | .beat x _ => decide (x = e)
  | _ => false
def cmn (b2 b3 : Bool) : Nat := (if b2 then 2 else 1) * (if b3 then 3 else 1)
def comL (ps : List Pat) : Nat := cmn (ps.any (isE 2)) (ps.any (isE 3))
def com (p : Pat) : Nat := comL p.subs
theorem cmn_pos {a b : Bool} : 1 ≤ cmn a b ∧ cmn a b ≤ 6 := by cases a <;> cases b <;> decide
theorem lcm_cmn2 {a b : Bool} : Nat.lcm (cmn a b) 2 = cmn true b := by cases a <;> cases b <;> decide
theorem lcm_cmn3 {a b : Bool} : Nat.lcm (cmn a b) 3 = cmn a true := by cases a <;> cases b <;> decide
theorem cmn_dvd {a b : Bool} {T : Nat} (h : cmn a b ∣ T) : (a = true → 2 ∣ T) ∧ (b = true → 3 ∣ T) := by
  refine ⟨fun e => ?_, fun e => ?_⟩
  · subst e; exact Nat.dvd_trans (by cases b <;> decide) h
  · subst e; exact Nat.dvd_trans (by cases a <;> decide) h
def rndN (rg : Bool) (n : Nat) : Nat := (rnd rg n).toNat
theorem rndN_eq {rg : Bool} {n : Nat} (h : 1 ≤ n) : ((rndN rg n : Nat) : Int) = rnd rg n := by
  have := rnd_pos (rg := rg) h
  unfold rndN; omega
theorem rndN_pos {rg : Bool} {n : Nat} (h : 1 ≤ n) : 1 ≤ rndN rg n := by
  have := rnd_pos (rg := rg) h
  unfold rndN; omega
theorem rndN_le {rg : Bool} {n : Nat} (h : 1 ≤ n) : rndN rg n ≤ 2 * n := by
  unfold rndN rnd
  cases rg
  · simp only [Bool.false_eq_true, if_false]; split <;> omega
  · simp; omega
theorem dot_per {rg : Bool} {n t T : Nat} {k : Int} {u : Bool} (h : 1 ≤ n) (hT : rndN rg n ∣ T) : dotAt rg n (t + T) k u = dotAt rg n t k u := by
  obtain ⟨c, rfl⟩ := hT
  have e := rndN_eq (rg := rg) h
  unfold dotAt
  cases rg
  · simp only [Bool.false_eq_true, if_false]
    by_cases h1 : 1 < (n : Int)
    · rw [if_pos h1, if_pos h1]
      have z : ∀ x : Int, (x + (rnd false n) * (c : Int)) % rnd false n = x % rnd false n := fun x => Int.add_mul_emod_self_left x _ _
      have w : (((t + rndN false n * c : Nat)) : Int) = (t : Int) + rnd false n * c := by rw [← e]; push_cast; rfl
      rw [w]
      cases u
      · simp only [Bool.false_eq_true, if_false]
        rw [show (t : Int) + rnd false n * c - k % n = ((t : Int) - k % n) + rnd false n * c by omega, z]
      · simp only [if_true]
        rw [show (t : Int) + rnd false n * c + k % n = ((t : Int) + k % n) + rnd false n * c by omega, z]
    · rw [if_neg h1, if_neg h1]
  · simp only [if_true]
    have e2 : rnd true n = n := rfl
    rw [e2] at e
    have w : (((t + rndN true n * c : Nat)) : Int) = (t : Int) + (n : Int) * c := by rw [← e]; push_cast; rfl
    rw [w]
    cases u
    · simp only [Bool.false_eq_true, if_false]
      have z := Int.add_mul_emod_self_left (k % n - t) (n : Int) (-(c : Int))
      rw [Int.mul_neg] at z
      rw [← z]; congr 1; omega
    · simp only [if_true]
      have z := Int.add_mul_emod_self_left (k % n + t) (n : Int) (c : Int)
      rw [← z]; congr 1; omega
theorem mod_per {e : Int} {t T : Nat} (h : e = 2 ∨ e = 3) (h2 : e = 2 → 2 ∣ T) (h3 : e = 3 → 3 ∣ T) : (((t + T : Nat) : Int)) % e = (t : Int) % e := by
  rcases h with rfl | rfl
  · have := h2 rfl; omega
  · have := h3 rfl; omega
theorem onP_per {rg : Bool} {n t T i : Nat} (h : 1 ≤ n) (hT : rndN rg n ∣ T) : ∀ p : Pat, p.ok → (∀ q ∈ p.subs, (isE 2 q = true → 2 ∣ T) ∧ (isE 3 q = true → 3 ∣ T)) → onP rg n (t + T) p i = onP rg n t p i
  | .all, _, _ => rfl
  | .none, _, _ => rfl
  | .lamp k, _, _ => rfl
  | .comb e r, _, _ => rfl
  | .dot k u, _, _ => by
    show decide ((i : Int) = dotAt rg n (t + T) k u) = decide ((i : Int) = dotAt rg n t k u)
    rw [dot_per h hT]
  | .beat e r, ho, hs => by
    have hs := hs _ (List.mem_singleton.mpr rfl)
    show decide (((t + T : Nat) : Int) % e = r) = decide ((t : Int) % e = r)
    rw [mod_per ho.1 (fun z => hs.1 (decide_eq_true z)) (fun z => hs.2 (decide_eq_true z))]
  | .not p, ho, hs => by
    show (!onP rg n (t + T) p i) = !onP rg n t p i
    rw [onP_per h hT p ho fun q hq => hs q (List.mem_cons_of_mem _ hq)]
  | .bin o p q, ho, hs => by
    have h1 := onP_per h hT (t := t) (i := i) p ho.1 fun x hx => hs x (List.mem_cons_of_mem _ (List.mem_append_left _ hx))
    have h2 := onP_per h hT (t := t) (i := i) q ho.2 fun x hx => hs x (List.mem_cons_of_mem _ (List.mem_append_right _ hx))
    cases o
    · show (onP rg n (t + T) p i && onP rg n (t + T) q i) = _
      rw [h1, h2]; rfl
    · show (onP rg n (t + T) p i || onP rg n (t + T) q i) = _
      rw [h1, h2]; rfl
    · show (xor (onP rg n (t + T) p i) (onP rg n (t + T) q i)) = _
      rw [h1, h2]; rfl
theorem com_dvd {ps : List Pat} {T : Nat} (h : comL ps ∣ T) : ∀ q ∈ ps, (isE 2 q = true → 2 ∣ T) ∧ (isE 3 q = true → 3 ∣ T) := fun q hq =>
  ⟨fun e => (cmn_dvd h).1 (List.any_eq_true.mpr ⟨q, hq, e⟩), fun e => (cmn_dvd h).2 (List.any_eq_true.mpr ⟨q, hq, e⟩)⟩
theorem pic_per {rg : Bool} {n t T : Nat} {p : Pat} (h : 1 ≤ n) (ho : p.ok) (hT : rndN rg n ∣ T) (hc : ∀ q ∈ p.subs, (isE 2 q = true → 2 ∣ T) ∧ (isE 3 q = true → 3 ∣ T)) : pic rg n (t + T) p = pic rg n t p := by
  unfold pic
  exact mk_congr fun i _ => onP_per h hT p ho hc
def isPer (f : Nat → Nat) (T : Nat) : Prop := ∀ t, f (t + T) = f t
theorem isPer.mul {f : Nat → Nat} {T : Nat} (h : isPer f T) (c t : Nat) : f (t + T * c) = f t := by
  induction c with
  | zero => rfl
  | succ c ih => rw [Nat.mul_succ, ← Nat.add_assoc, h, ih]
theorem isPer.mod {f : Nat → Nat} {N : Nat} (h : isPer f N) (t : Nat) : f (t % N) = f t := by
  have := h.mul (t / N) (t % N)
  rw [Nat.mod_add_div] at this
  exact this.symm
theorem isPer.rest {f : Nat → Nat} {a b : Nat} (h : isPer f a) (hb : isPer f b) : isPer f (b % a) := fun t => by
  have e := h.mul (b / a) (t + b % a)
  rw [Nat.add_assoc, Nat.mod_add_div, hb] at e
  exact e.symm
theorem least_ex {P : Nat → Prop} (h : ∃ n, P n) : ∃ n, P n ∧ ∀ k, k < n → ¬ P k := by
  obtain ⟨n, hn⟩ := h
  induction n using Nat.strongRecOn with
  | ind n ih =>
    by_cases hk : ∃ k, k < n ∧ P k
    · obtain ⟨k, h1, h2⟩ := hk
      exact ih k h1 h2
    · exact ⟨n, hn, fun k h1 h2 => hk ⟨k, h1, h2⟩⟩
/-- the least of what comes again -/
def LeastPer (f : Nat → Nat) (T : Nat) : Prop := 1 ≤ T ∧ isPer f T ∧ ∀ k, 1 ≤ k → k < T → ¬ isPer f k
theorem leastPer_ex {f : Nat → Nat} {N : Nat} (h1 : 1 ≤ N) (h : isPer f N) : ∃ T, LeastPer f T := by
  obtain ⟨T, ⟨a, b⟩, c⟩ := least_ex (P := fun T => 1 ≤ T ∧ isPer f T) ⟨N, h1, h⟩
  exact ⟨T, a, b, fun k h1 h2 h3 => c k h2 ⟨h1, h3⟩⟩
theorem LeastPer.dvd {f : Nat → Nat} {T N : Nat} (h : LeastPer f T) (hN : isPer f N) : T ∣ N := by
  obtain ⟨h1, h2, h3⟩ := h
  have := h2.rest hN
  by_cases hz : N % T = 0
  · exact Nat.dvd_of_mod_eq_zero hz
  · exact absurd this (h3 _ (by omega) (Nat.mod_lt _ (by omega)))
def film (f : Nat → Nat) (N : Nat) : List Nat := (List.range N).map f
theorem film_len {f : Nat → Nat} {N : Nat} : (film f N).length = N := by unfold film; simp
theorem film_get {f : Nat → Nat} {N i : Nat} (h : i < N) : (film f N)[i]? = some (f i) := by unfold film; simp [h]
theorem film_rot {f : Nat → Nat} {N T : Nat} (hN : isPer f N) (h1 : 1 ≤ N) (hT : T ≤ N) : ((film f N).drop T ++ (film f N).take T = film f N) ↔ isPer f T := by
  have key : ∀ i, i < N → ((film f N).drop T ++ (film f N).take T)[i]? = some (f (i + T)) := fun i hi => by
    have hl : ((film f N).drop T).length = N - T := by rw [List.length_drop, film_len]
    by_cases h : i < N - T
    · rw [List.getElem?_append_left (by rw [hl]; exact h), List.getElem?_drop, film_get (by omega), Nat.add_comm]
    · rw [List.getElem?_append_right (by rw [hl]; omega), hl, List.getElem?_take_of_lt (by omega), film_get (by omega)]
      have := hN (i - (N - T))
      rw [← this]
      congr 2; omega
  constructor
  · intro h t
    have e : ∀ i, i < N → f (i + T) = f i := fun i hi => by
      have a := key i hi
      rw [h, film_get hi] at a
      exact (Option.some.inj a).symm
    have h2 := e (t % N) (Nat.mod_lt _ h1)
    rw [hN.mod] at h2
    rw [← h2, ← hN.mod (t % N + T), ← hN.mod (t + T)]
    congr 1
    rw [Nat.mod_add_mod]
  · intro h
    apply List.ext_getElem?
    intro i
    by_cases hi : i < N
    · rw [key i hi, film_get hi, h]
    · have a : ((film f N).drop T ++ (film f N).take T).length ≤ i := by rw [List.length_append, List.length_drop, List.length_take, film_len]; omega
      have b : (film f N).length ≤ i := by rw [film_len]; omega
      rw [List.getElem?_eq_none a, List.getElem?_eq_none b]
/-! ### lists of numbers as data -/
def natD (l : List Nat) : List D := l.map fun i => .int (i : Nat)
theorem natD_len {l : List Nat} : (natD l).length = l.length := by unfold natD; simp
theorem natD_py : ∀ {l : List Nat}, D.arePy (natD l) = true
  | [] => rfl
  | _ :: r => by show (true && D.arePy (natD r)) = true; rw [natD_py]; rfl
theorem natD_isPy {l : List Nat} : (D.lst (natD l)).isPy = true := by unfold D.isPy; exact natD_py
theorem natD_depth : ∀ {l : List Nat}, PyData.depthAll (D.pys (natD l)) ≤ 1
  | [] => by decide
  | a :: r => by
    have := natD_depth (l := r)
    show max (D.int (a : Nat)).py.depth (PyData.depthAll (D.pys (natD r))) ≤ 1
    have e : (D.int ((a : Nat) : Int)).py.depth ≤ 1 := by unfold D.py PyData.depth; decide
    omega
theorem natD_dep {l : List Nat} : (D.lst (natD l)).py.depth ≤ 64 := by
  have := natD_depth (l := l)
  unfold D.py PyData.depth; omega
theorem natD_eqv : ∀ {l k : List Nat}, PyData.eqvAll (D.pys (natD l)) (D.pys (natD k)) = decide (l = k)
  | [], [] => rfl
  | [], _ :: _ => rfl
  | _ :: _, [] => rfl
  | a :: r, b :: s => by
    have : PyData.eqvAll (D.pys (natD (a :: r))) (D.pys (natD (b :: s))) = (PyData.eqv (D.int (a : Nat)).py (D.int (b : Nat)).py && PyData.eqvAll (D.pys (natD r)) (D.pys (natD s))) := rfl
    rw [this, natD_eqv, eqv_int, decAnd]
    refine decide_eq_decide.mpr ?_
    constructor
    · rintro ⟨h1, h2⟩; rw [h2]; congr 1; omega
    · intro h; cases h; exact ⟨rfl, rfl⟩
theorem natD_eq {l k : List Nat} : PyData.eqv (D.lst (natD l)).py (D.lst (natD k)).py = decide (l = k) := natD_eqv
theorem natD_drop {l : List Nat} {n : Nat} : (natD l).drop n = natD (l.drop n) := by unfold natD; rw [List.map_drop]
theorem natD_take {l : List Nat} {n : Nat} : (natD l).take n = natD (l.take n) := by unfold natD; rw [List.map_take]
theorem natD_app {l k : List Nat} : natD l ++ natD k = natD (l ++ k) := by unfold natD; rw [List.map_append]
/-- the first that fits -/
theorem first_fit {P : Nat → Bool} {N T : Nat} (h1 : 1 ≤ T) (h2 : T ≤ N) (h3 : P T = true) (h4 : ∀ k, 1 ≤ k → k < T → P k = false) : ((rngD 1 1 N).filter fun d => P (intOf d).toNat)[0]? = some (.int (T : Nat)) := by
  have hl : T - 1 < (rngD 1 1 N).length := by rw [rngD_len]; omega
  have hg : (rngD 1 1 N)[T - 1] = .int (T : Nat) := by
    have := rngD_get (lo := 1) (s := 1) (n := N) (i := T - 1) (by omega)
    rw [List.getElem?_eq_getElem hl] at this
    rw [Option.some.inj this]; congr 1; omega
  have e : rngD 1 1 N = (rngD 1 1 N).take (T - 1) ++ .int (T : Nat) :: (rngD 1 1 N).drop (T - 1 + 1) := by
    rw [← hg, ← List.drop_eq_getElem_cons hl, List.take_append_drop]
  rw [e, List.filter_append, List.filter_eq_nil_iff.mpr, List.nil_append, List.filter_cons, if_pos]
  · rfl
  · show P (Int.toNat ((T : Nat) : Int)) = true
    rw [Int.toNat_natCast]; exact h3
  · intro d hd hp
    obtain ⟨i, hi, hd⟩ := List.mem_iff_getElem.mp hd
    rw [List.length_take, rngD_len] at hi
    have := rngD_get (lo := 1) (s := 1) (n := N) (i := i) (by omega)
    rw [List.getElem_take] at hd
    rw [List.getElem?_eq_getElem (by rw [rngD_len]; omega), hd] at this
    have := Option.some.inj this
    subst this
    have z := h4 (i + 1) (by omega) (by omega)
    have e2 : (intOf (.int (1 + (i : Int) * 1))).toNat = i + 1 := by show (1 + (i : Int) * 1).toNat = _; omega
    rw [e2, z] at hp; cases hp
end AM

set_option autoImplicit false
set_option maxRecDepth 100000
set_option maxHeartbeats 1000000
/-! A run that does not wake a sleeping generator leaves it as it is: replace it by one that cannot be woken, run, and put it back. -/
namespace GF
open PySem

/-- a continuation that never runs -/
def kU : Resume → Sem PySem.Fin := fun _ => .unsupported "asleep"
/-- asleep: what stands for it may not be woken -/
def Slp (y z : GenState) : Prop := ∃ k l c p fs cl, y = .suspended k l c p fs cl ∧ z = .suspended kU l c p fs cl
theorem Slp.seen {y z : GenState} (h : Slp y z) : y.seen = z.seen := by obtain ⟨k, l, c, p, fs, cl, rfl, rfl⟩ := h; rfl
theorem Slp.bare {y z : GenState} (h : Slp y z) : y.bare = z.bare := by obtain ⟨k, l, c, p, fs, cl, rfl, rfl⟩ := h; rfl
/-- no generator's mark among its frames -/
def NoM (y : GenState) : Prop := ∀ k l c p fs cl, y = .suspended k l c p fs cl → splitAtGen fs = none
structure Rl (B : Nat → Prop) (a b : Array GenState) : Prop where
  sz : a.size = b.size
  at_ : ∀ i, B i → ∃ y z, a[i]? = some y ∧ b[i]? = some z ∧ Slp y z
  eq : ∀ i, ¬ B i → b[i]? = a[i]?
  nom : ∀ i y, ¬ B i → b[i]? = some y → NoM y
def NoE : End → Prop
  | .ret _ => True
  | .susp _ _ _ _ _ _ fs => splitAtGen fs = none
theorem NoE.gen {e : End} (h : NoE e) : NoM e.genState := by
  cases e with
  | ret r => intro k l c p fs cl q; cases q
  | susp v g l k c p fs => intro k' l' c' p' fs' cl q; cases q; exact h

section
variable {B : Nat → Prop} {a b : Array GenState}
theorem Rl.lt (r : Rl B a b) {i : Nat} (h : B i) : i < b.size := by
  obtain ⟨y, z, _, h2, _⟩ := r.at_ i h
  exact (Array.getElem?_eq_some_iff.mp h2).1
theorem Rl.push (r : Rl B a b) (c : Code) : Rl B (a.push (.fresh c)) (b.push (.fresh c)) := by
  have h1 : ∀ {x : Array GenState} {i : Nat}, i < x.size → (x.push (.fresh c))[i]? = x[i]? := fun {x i} h => by
    rw [Array.getElem?_push]
    rw [if_neg (by omega)]
  refine ⟨by simp [r.sz], fun i hi => ?_, fun i hi => ?_, fun i y hi hy => ?_⟩
  · obtain ⟨y, z, e1, e2, e3⟩ := r.at_ i hi
    have := r.lt hi
    exact ⟨y, z, by rw [h1 (by rw [r.sz]; exact this)]; exact e1, by rw [h1 this]; exact e2, e3⟩
  · rw [Array.getElem?_push, Array.getElem?_push, r.sz]
    split
    · rfl
    · exact r.eq i hi
  · rw [Array.getElem?_push] at hy
    split at hy
    · cases hy; intro k l c' p fs cl q; cases q
    · exact r.nom i y hi hy
theorem Rl.set (r : Rl B a b) {g : Nat} (hg : ¬ B g) {x : GenState} (hx : NoM x) : Rl B (a.setIfInBounds g x) (b.setIfInBounds g x) := by
  have h1 : ∀ {u : Array GenState} {i : Nat}, i ≠ g → (u.setIfInBounds g x)[i]? = u[i]? := fun {u i} h => Array.getElem?_setIfInBounds_ne (Ne.symm h)
  refine ⟨by simp [r.sz], fun i hi => ?_, fun i hi => ?_, fun i y hi hy => ?_⟩
  · obtain ⟨y, z, e1, e2, e3⟩ := r.at_ i hi
    have ne : i ≠ g := fun e => hg (e ▸ hi)
    exact ⟨y, z, by rw [h1 ne]; exact e1, by rw [h1 ne]; exact e2, e3⟩
  · by_cases e : i = g
    · subst e
      rw [Array.getElem?_setIfInBounds, Array.getElem?_setIfInBounds, r.sz]
      simp only [if_pos]
    · rw [h1 e, h1 e]; exact r.eq i hi
  · by_cases e : i = g
    · subst e
      rw [Array.getElem?_setIfInBounds] at hy
      simp only [if_pos] at hy
      split at hy
      · cases hy; exact hx
      · cases hy
    · rw [h1 e] at hy; exact r.nom i y hi hy
def Kp (B : Nat → Prop) (a a' : Array GenState) : Prop := ∀ i, B i → a'[i]? = a[i]?
theorem Kp.refl : Kp B a a := fun _ _ => rfl
theorem Kp.trans {a1 a2 : Array GenState} (h : Kp B a a1) (h' : Kp B a1 a2) : Kp B a a2 := fun i hi => (h' i hi).trans (h i hi)
theorem Kp.push (r : Rl B a b) (c : Code) : Kp B a (a.push (.fresh c)) := fun i hi => by
  have := r.lt hi
  rw [Array.getElem?_push, if_neg (by rw [r.sz]; omega)]
theorem Kp.set {g : Nat} (hg : ¬ B g) {x : GenState} : Kp B a (a.setIfInBounds g x) := fun i hi => Array.getElem?_setIfInBounds_ne (fun e => hg (by rw [e]; exact hi))
end

theorem no_wake {M : Model} {Γ : Ctx} {p : Pos} {w : String} {fs : List Frame} {s s' : Shared} {e : End} (h : Runs M Γ p (.unsupported w) fs s e s') : False := by
  cases h with
  | segRet h1 h2 => cases h1
  | segGen h1 h2 => cases h1
  | segSuspOut h1 h2 => cases h2
  | segSuspGen h1 h2 h3 h4 => cases h2

def wg (s : Shared) (a : Array GenState) : Shared := { s with gens := a }
theorem split_app {a c : List Frame} (h : splitAtGen a = none) (h' : splitAtGen c = none) : splitAtGen (a ++ c) = none := by
  rw [splitAtGen_append_none c h, h']; rfl
theorem split_tl {k : Result → Sem PySem.Fin} {h g l c p kp} {st : List Frame} (q : splitAtGen (.ret k h g l c p kp :: st) = none) : splitAtGen st = none := by
  rw [splitAtGen_ret] at q
  cases e : splitAtGen st with
  | none => rfl
  | some x => rw [e] at q; cases q

theorem frame {M : Model} {B : Nat → Prop} {Γ : Ctx} {p : Pos} {t : Sem PySem.Fin} {fs : List Frame} {s s' : Shared} {e : End} (h : Runs M Γ p t fs s e s') :
    ∀ a, Rl B a s.gens → splitAtGen fs = none → ∃ a', Rl B a' s'.gens ∧ Kp B a a' ∧ NoE e ∧ Runs M Γ p t fs (wg s a) e (wg s' a') := by
  induction h with
  | done => intro a r hf; exact ⟨a, r, .refl, trivial, .done⟩
  | raise => intro a r hf; exact ⟨a, r, .refl, trivial, .raise⟩
  | again hq _ ih => intro a r hf; obtain ⟨a', r', k', n', h'⟩ := ih a r hf; exact ⟨a', r', k', n', .again hq h'⟩
  | rule _ ih => intro a r hf; obtain ⟨a', r', k', n', h'⟩ := ih a r hf; exact ⟨a', r', k', n', .rule h'⟩
  | «at» _ ih => intro a r hf; obtain ⟨a', r', k', n', h'⟩ := ih a r hf; exact ⟨a', r', k', n', .at h'⟩
  | load ho _ ih => intro a r hf; obtain ⟨a', r', k', n', h'⟩ := ih a r hf; exact ⟨a', r', k', n', .load ho h'⟩
  | update ho _ ih => intro a r hf; obtain ⟨a', r', k', n', h'⟩ := ih a r hf; exact ⟨a', r', k', n', .update ho h'⟩
  | loadIfAlive _ ih => intro a r hf; obtain ⟨a', r', k', n', h'⟩ := ih a r hf; exact ⟨a', r', k', n', .loadIfAlive h'⟩
  | point _ ih => intro a r hf; obtain ⟨a', r', k', n', h'⟩ := ih a r hf; exact ⟨a', r', k', n', .point h'⟩
  | alloc _ ih => intro a r hf; obtain ⟨a', r', k', n', h'⟩ := ih a r hf; exact ⟨a', r', k', n', .alloc h'⟩
  | fresh _ ih => intro a r hf; obtain ⟨a', r', k', n', h'⟩ := ih a r hf; exact ⟨a', r', k', n', .fresh h'⟩
  | ask _ ih => intro a r hf; obtain ⟨a', r', k', n', h'⟩ := ih a r hf; exact ⟨a', r', k', n', .ask h'⟩
  | choose hn _ ih => intro a r hf; obtain ⟨a', r', k', n', h'⟩ := ih a r hf; exact ⟨a', r', k', n', .choose hn h'⟩
  | os _ ih => intro a r hf; obtain ⟨a', r', k', n', h'⟩ := ih a r hf; exact ⟨a', r', k', n', .os h'⟩
  | handled _ ih => intro a r hf; obtain ⟨a', r', k', n', h'⟩ := ih a r hf; exact ⟨a', r', k', n', .handled h'⟩
  | stack _ ih => intro a r hf; obtain ⟨a', r', k', n', h'⟩ := ih a r hf; exact ⟨a', r', k', n', .stack h'⟩
  | thread _ ih => intro a r hf; obtain ⟨a', r', k', n', h'⟩ := ih a r hf; exact ⟨a', r', k', n', .thread h'⟩
  | @genState g st Γ p k s e s' hg _ ih =>
    intro a r hf
    obtain ⟨a', r', k', n', h'⟩ := ih a r hf
    by_cases hB : B g
    · obtain ⟨y, z, e1, e2, e3⟩ := r.at_ g hB
      rw [hg] at e2; cases e2
      refine ⟨a', r', k', n', .genState (st := y) e1 ?_⟩
      rw [e3.seen]; exact h'
    · refine ⟨a', r', k', n', .genState (st := st) ?_ h'⟩
      show a[g]? = some st
      rw [← r.eq g hB]; exact hg
  | @newGen Γ p k s e s' c _ ih =>
    intro a r hf
    obtain ⟨a', r', k', n', h'⟩ := ih (a.push (.fresh c)) (r.push c) hf
    refine ⟨a', r', (Kp.push r c).trans k', n', .newGen ?_⟩
    have : (wg s a).gens.size = s.gens.size := r.sz
    rw [this]; exact h'
  | call _ _ ih1 ih2 =>
    intro a r hf
    obtain ⟨a1, r1, k1, n1, h1⟩ := ih1 a r rfl
    obtain ⟨a2, r2, k2, n2, h2⟩ := ih2 a1 r1 rfl
    exact ⟨a2, r2, k1.trans k2, n2, .call h1 h2⟩
  | callSusp _ ih =>
    intro a r hf
    obtain ⟨a1, r1, k1, n1, h1⟩ := ih a r rfl
    exact ⟨a1, r1, k1, split_app n1 rfl, .callSusp h1⟩
  | yield => intro a r hf; exact ⟨a, r, .refl, rfl, .yield⟩
  | @resumeFresh Γ p g l k s c e₁ s₁ e s' hg _ hq _ ih1 ih2 =>
    intro a r hf
    have hB : ¬ B g := fun z => by
      obtain ⟨y, z, _, e2, e3⟩ := r.at_ g z
      rw [hg] at e2; cases e2
      obtain ⟨_, _, _, _, _, _, _, e4⟩ := e3
      cases e4
    obtain ⟨a1, r1, k1, n1, h1⟩ := ih1 (a.setIfInBounds g .running) (r.set hB (fun _ _ _ _ _ _ q => by cases q)) rfl
    obtain ⟨a2, r2, k2, n2, h2⟩ := ih2 (a1.setIfInBounds g e₁.genState) (r1.set hB n1.gen) hf
    exact ⟨a2, r2, (((Kp.set hB).trans k1).trans (Kp.set hB)).trans k2, n2, .resumeFresh (c := c) (s₁ := wg s₁ a1) ((r.eq g hB).symm.trans hg) h1 hq h2⟩
  | @resumeSuspended Γ p g rr l k s k₀ l₀ c₀ p₀ fs₀ cl e₁ s₁ e s' hg h1 hq _ ih1 ih2 =>
    intro a r hf
    by_cases hB : B g
    · obtain ⟨y, z, _, e2, e3⟩ := r.at_ g hB
      rw [hg] at e2; cases e2
      obtain ⟨_, _, _, _, _, _, _, e4⟩ := e3
      cases e4
      exact (no_wake h1).elim
    · obtain ⟨a1, r1, k1, n1, h1⟩ := ih1 (a.setIfInBounds g .running) (r.set hB (fun _ _ _ _ _ _ q => by cases q)) (r.nom g _ hB hg _ _ _ _ _ _ rfl)
      obtain ⟨a2, r2, k2, n2, h2⟩ := ih2 (a1.setIfInBounds g e₁.genState) (r1.set hB n1.gen) hf
      exact ⟨a2, r2, (((Kp.set hB).trans k1).trans (Kp.set hB)).trans k2, n2, .resumeSuspended (s₁ := wg s₁ a1) ((r.eq g hB).symm.trans hg) h1 hq h2⟩
  | @resumeJustStarted g v Γ p k s e s' l c hg hv _ ih =>
    intro a r hf
    have hB : ¬ B g := fun z => by
      obtain ⟨y, z, _, e2, e3⟩ := r.at_ g z
      rw [hg] at e2; cases e2
      obtain ⟨_, _, _, _, _, _, _, e4⟩ := e3
      cases e4
    obtain ⟨a', r', k', n', h'⟩ := ih a r hf
    exact ⟨a', r', k', n', .resumeJustStarted (c := c) ((r.eq g hB).symm.trans hg) hv h'⟩
  | @resumeThrowFresh g Γ p k e s' x l s c hg _ ih =>
    intro a r hf
    have hB : ¬ B g := fun z => by
      obtain ⟨y, z, _, e2, e3⟩ := r.at_ g z
      rw [hg] at e2; cases e2
      obtain ⟨_, _, _, _, _, _, _, e4⟩ := e3
      cases e4
    obtain ⟨a', r', k', n', h'⟩ := ih (a.setIfInBounds g .finished) (r.set hB (fun _ _ _ _ _ _ q => by cases q)) hf
    exact ⟨a', r', (Kp.set hB).trans k', n', .resumeThrowFresh (c := c) ((r.eq g hB).symm.trans hg) h'⟩
  | @resumeRunning g Γ p k s e s' rr l hg _ ih =>
    intro a r hf
    have hB : ¬ B g := fun z => by
      obtain ⟨y, z, _, e2, e3⟩ := r.at_ g z
      rw [hg] at e2; cases e2
      obtain ⟨_, _, _, _, _, _, _, e4⟩ := e3
      cases e4
    obtain ⟨a', r', k', n', h'⟩ := ih a r hf
    exact ⟨a', r', k', n', .resumeRunning ((r.eq g hB).symm.trans hg) h'⟩
  | @resumeFinished g Γ p k s e s' rr l hg _ ih =>
    intro a r hf
    have hB : ¬ B g := fun z => by
      obtain ⟨y, z, _, e2, e3⟩ := r.at_ g z
      rw [hg] at e2; cases e2
      obtain ⟨_, _, _, _, _, _, _, e4⟩ := e3
      cases e4
    obtain ⟨a', r', k', n', h'⟩ := ih a r hf
    exact ⟨a', r', k', n', .resumeFinished ((r.eq g hB).symm.trans hg) h'⟩
  | segRet _ _ ih1 ih2 =>
    intro a r hf
    obtain ⟨a1, r1, k1, n1, h1⟩ := ih1 a r rfl
    obtain ⟨a2, r2, k2, n2, h2⟩ := ih2 a1 r1 (split_tl hf)
    exact ⟨a2, r2, k1.trans k2, n2, .segRet h1 h2⟩
  | segGen _ _ ih1 ih2 => intro a r hf; rw [splitAtGen_gen] at hf; cases hf
  | segSuspOut hs _ ih =>
    intro a r hf
    obtain ⟨a1, r1, k1, n1, h1⟩ := ih a r rfl
    exact ⟨a1, r1, k1, split_app n1 hf, .segSuspOut hs h1⟩
  | segSuspGen hs _ _ _ ih1 ih2 => intro a r hf; rw [hs] at hf; cases hf

/-- the generators that stand, asleep ones replaced -/
def slp : GenState → GenState
  | .suspended k l c p fs cl => .suspended kU l c p fs cl
  | x => x
def isS : GenState → Bool
  | .suspended .. => true
  | _ => false
def Bs (a : Array GenState) (i : Nat) : Prop := ∃ y, a[i]? = some y ∧ isS y = true
theorem rl_slp (a : Array GenState) : Rl (Bs a) a (a.map slp) := by
  refine ⟨by simp, fun i ⟨y, h1, h2⟩ => ?_, fun i hi => ?_, fun i y hi hy => ?_⟩
  · refine ⟨y, slp y, h1, by simp [h1], ?_⟩
    cases y <;> first | (exact ⟨_, _, _, _, _, _, rfl, rfl⟩) | (cases h2)
  · rw [Array.getElem?_map]
    cases e : a[i]? with
    | none => rfl
    | some y =>
      cases y <;> first | rfl | exact (hi ⟨_, e, rfl⟩).elim
  · rw [Array.getElem?_map] at hy
    cases e : a[i]? with
    | none => rw [e] at hy; cases hy
    | some z =>
      rw [e] at hy
      cases z <;> first | (cases hy; intro _ _ _ _ _ _ q; cases q; done) | exact (hi ⟨_, e, rfl⟩).elim
theorem bare_slp {a : Array GenState} (h : ∀ y ∈ a, y.bare = true) : ∀ y ∈ a.map slp, y.bare = true := fun y hy => by
  obtain ⟨z, hz, rfl⟩ := Array.mem_map.mp hy
  have := h z hz
  cases z <;> exact this
theorem Rl.bare {B : Nat → Prop} {a b : Array GenState} (r : Rl B a b) (h : ∀ y ∈ b, y.bare = true) : ∀ y ∈ a, y.bare = true := fun y hy => by
  obtain ⟨i, hi, rfl⟩ := Array.mem_iff_getElem.mp hy
  have e : a[i]? = some a[i] := Array.getElem?_eq_getElem hi
  by_cases hB : B i
  · obtain ⟨y, z, e1, e2, e3⟩ := r.at_ i hB
    rw [e] at e1; cases e1
    rw [e3.bare]; exact h z (Array.mem_of_getElem? e2)
  · have := r.eq i hB
    rw [e] at this
    exact h _ (Array.mem_of_getElem? this)

theorem frame_wakes {M : Model} {B : Nat → Prop} {Γ : Ctx} {p : Pos} {g : Nat} {rr : Resume} {s s' : Shared} {res : GenResult} (h : Wakes M Γ p g rr s res s') {a : Array GenState} (r : Rl B a s.gens) :
    ∃ a', Rl B a' s'.gens ∧ Kp B a a' ∧ Wakes M Γ p g rr (wg s a) res (wg s' a') := by
  unfold Wakes at h ⊢
  have ne : ∀ {z : GenState}, s.gens[g]? = some z → isS z = false → ¬ B g := fun {z} hz h0 hB => by
    obtain ⟨y, z', _, e2, e3⟩ := r.at_ g hB
    rw [hz] at e2; cases e2
    obtain ⟨_, _, _, _, _, _, _, e4⟩ := e3
    subst e4; cases h0
  cases e : s.gens[g]? with
  | none => rw [e] at h; exact h.elim
  | some z =>
    rw [e] at h
    cases z with
    | fresh c =>
      have hB := ne e rfl
      have ea : (wg s a).gens[g]? = some (.fresh c) := (r.eq g hB).symm.trans e
      rw [ea]
      cases rr with
      | send v =>
        by_cases hv : v = .none
        · subst hv
          obtain ⟨e₁, s₁, hr, hq, rfl, rfl⟩ := h
          obtain ⟨a1, r1, k1, n1, h1⟩ := frame hr (a.setIfInBounds g .running) (r.set hB (fun _ _ _ _ _ _ q => by cases q)) rfl
          exact ⟨a1.setIfInBounds g e₁.genState, r1.set hB n1.gen, ((Kp.set hB).trans k1).trans (Kp.set hB), e₁, wg s₁ a1, h1, hq, rfl, rfl⟩
        · have hh : res = .justStarted ∧ s' = s := by cases v <;> first | exact absurd rfl hv | exact h
          obtain ⟨rfl, rfl⟩ := hh
          refine ⟨a, r, .refl, ?_⟩
          cases v <;> first | exact absurd rfl hv | exact ⟨rfl, rfl⟩
      | throw x =>
        obtain ⟨rfl, rfl⟩ := h
        exact ⟨a.setIfInBounds g .finished, r.set hB (fun _ _ _ _ _ _ q => by cases q), Kp.set hB, rfl, rfl⟩
    | suspended k₀ l₀ c₀ p₀ fs₀ cl =>
      obtain ⟨e₁, s₁, hr, hq, rfl, rfl⟩ := h
      by_cases hB : B g
      · obtain ⟨y, z, _, e2, e3⟩ := r.at_ g hB
        rw [e] at e2; cases e2
        obtain ⟨_, _, _, _, _, _, _, e4⟩ := e3
        cases e4
        exact (no_wake hr).elim
      · have ea : (wg s a).gens[g]? = some (.suspended k₀ l₀ c₀ p₀ fs₀ cl) := (r.eq g hB).symm.trans e
        rw [ea]
        obtain ⟨a1, r1, k1, n1, h1⟩ := frame hr (a.setIfInBounds g .running) (r.set hB (fun _ _ _ _ _ _ q => by cases q)) (r.nom g _ hB e _ _ _ _ _ _ rfl)
        exact ⟨a1.setIfInBounds g e₁.genState, r1.set hB n1.gen, ((Kp.set hB).trans k1).trans (Kp.set hB), e₁, wg s₁ a1, h1, hq, rfl, rfl⟩
    | running =>
      obtain ⟨rfl, rfl⟩ := h
      have ea : (wg s' a).gens[g]? = some .running := (r.eq g (ne e rfl)).symm.trans e
      rw [ea]
      exact ⟨a, r, .refl, rfl, rfl⟩
    | finished =>
      obtain ⟨rfl, rfl⟩ := h
      have ea : (wg s' a).gens[g]? = some .finished := (r.eq g (ne e rfl)).symm.trans e
      rw [ea]
      exact ⟨a, r, .refl, rfl, rfl⟩

theorem frame_wp {α : Type} (M : Model) (B : Nat → Prop) (Γ : Ctx) (t : Sem α) : ∀ (Q : α → Pos → Shared → Prop) (E : Value → Pos → Shared → Prop) (p : Pos) (s : Shared) (a : Array GenState), Rl B a s.gens → Sem.wp M Γ t Q E p s →
    Sem.wp M Γ t (fun x p' s' => ∃ s2, s' = wg s2 s'.gens ∧ Rl B s'.gens s2.gens ∧ Kp B a s'.gens ∧ Q x p' s2) (fun x p' s' => ∃ s2, s' = wg s2 s'.gens ∧ Rl B s'.gens s2.gens ∧ Kp B a s'.gens ∧ E x p' s2) p (wg s a) := by
  have mono : ∀ {β : Type} (t : Sem β) (Q : β → Pos → Shared → Prop) (E : Value → Pos → Shared → Prop) (p : Pos) (s : Shared) (a a0 : Array GenState), Kp B a0 a →
      Sem.wp M Γ t (fun x p' s' => ∃ s2, s' = wg s2 s'.gens ∧ Rl B s'.gens s2.gens ∧ Kp B a s'.gens ∧ Q x p' s2) (fun x p' s' => ∃ s2, s' = wg s2 s'.gens ∧ Rl B s'.gens s2.gens ∧ Kp B a s'.gens ∧ E x p' s2) p s →
      Sem.wp M Γ t (fun x p' s' => ∃ s2, s' = wg s2 s'.gens ∧ Rl B s'.gens s2.gens ∧ Kp B a0 s'.gens ∧ Q x p' s2) (fun x p' s' => ∃ s2, s' = wg s2 s'.gens ∧ Rl B s'.gens s2.gens ∧ Kp B a0 s'.gens ∧ E x p' s2) p s :=
    fun t Q E p s a a0 hk h => Sem.wp_mono M Γ t (fun x p' s' ⟨s2, e, r, k, q⟩ => ⟨s2, e, r, hk.trans k, q⟩) (fun x p' s' ⟨s2, e, r, k, q⟩ => ⟨s2, e, r, hk.trans k, q⟩) p s h
  induction t with
  | pure x => intro Q E p s a r h; exact ⟨s, rfl, r, .refl, h⟩
  | raise x => intro Q E p s a r h; exact ⟨s, rfl, r, .refl, h⟩
  | unsupported _ => intro Q E p s a r h; exact h
  | finish _ => intro Q E p s a r h; exact h
  | rule _ k ih => intro Q E p s a r h; exact ih () Q E p s a r h
  | «at» p' k ih => intro Q E p s a r h; exact ih () Q E p' s a r h
  | load ad _ k ih => intro Q E p s a r h; obtain ⟨o, ho, h⟩ := h; exact ⟨o, ho, ih o Q E p s a r h⟩
  | update ad _ f k ih => intro Q E p s a r h; exact ⟨h.1, ih () Q E p { s with heap := s.heap.update ad f } a r h.2⟩
  | loadIfAlive ad k ih => intro Q E p s a r h; exact ih _ Q E p s a r h
  | point _ k ih => intro Q E p s a r h; exact ih () Q E p s a r h
  | register _ _ => intro Q E p s a r h; exact h
  | alloc o k ih => intro Q E p s a r h; exact ih _ Q E p { s with heap := s.heap.push o } a r h
  | fresh k ih => intro Q E p s a r h; exact ih _ Q E p { s with toks := s.toks + 1 } a r h
  | ask k ih => intro Q E p s a r h; exact ih _ Q E p s a r h
  | choose src m k ih => intro Q E p s a r h; exact ⟨h.1, ih _ Q E p { s with drawn := s.drawn.bump src } a r h.2⟩
  | os q _ k ih => intro Q E p s a r h; exact ih _ Q E p { s with os := (Os.step s.os q).1 } a r h
  | call c hd _ _ k ih =>
    intro Q E p s a r h
    obtain ⟨res, s', hr, h⟩ := h
    obtain ⟨a1, r1, k1, n1, h1⟩ := frame (show Runs M (Γ.enter c hd p) p (M.den (Γ.enter c hd p).code) [] s (.ret res) s' from hr) a r rfl
    exact ⟨res, wg s' a1, h1, mono (k res) Q E p (wg s' a1) a1 a k1 (ih res Q E p s' a1 r1 h)⟩
  | handled own k ih => intro Q E p s a r h; exact ih _ Q E p s a r h
  | genState g k ih =>
    intro Q E p s a r h
    obtain ⟨st, hs, h⟩ := h
    by_cases hB : B g
    · obtain ⟨y, z, e1, e2, e3⟩ := r.at_ g hB
      rw [hs] at e2; cases e2
      refine ⟨y, e1, ?_⟩
      rw [e3.seen]; exact ih _ Q E p s a r h
    · exact ⟨st, (r.eq g hB).symm.trans hs, ih _ Q E p s a r h⟩
  | newGen c k ih =>
    intro Q E p s a r h
    have z := ih _ Q E p { s with gens := s.gens.push (.fresh c) } (a.push (.fresh c)) (r.push c) h
    have e : (wg s a).gens.size = s.gens.size := r.sz
    show Sem.wp M Γ (k (wg s a).gens.size) _ _ p _
    rw [e]
    exact mono _ Q E p _ _ a (Kp.push r c) z
  | resume g rr _ k ih =>
    intro Q E p s a r h
    obtain ⟨res, s', hw, h⟩ := h
    obtain ⟨a1, r1, k1, h1⟩ := frame_wakes hw r
    exact ⟨res, wg s' a1, h1, mono (k res) Q E p (wg s' a1) a1 a k1 (ih res Q E p s' a1 r1 h)⟩
  | yield _ _ _ _ => intro Q E p s a r h; exact h
  | stack k ih => intro Q E p s a r h; exact ih _ Q E p s a r h
  | fork _ _ => intro Q E p s a r h; exact h
  | thread k ih => intro Q E p s a r h; exact ih _ Q E p s a r h
  | await _ _ _ _ _ => intro Q E p s a r h; exact h

/-- THE FRAME: what runs with the sleeping generators locked runs with them, and they sleep on -/
theorem locked {α : Type} {M : Model} {A : Around} {t : Sem α} {Q : α → Shared → Prop} {E : Value → Shared → Prop} {s : Shared} (h : wpAny M A t Q E { s with gens := s.gens.map slp }) :
    wpAny M A t (fun x s' => ∃ s2, s' = wg s2 s'.gens ∧ Rl (Bs s.gens) s'.gens s2.gens ∧ Kp (Bs s.gens) s.gens s'.gens ∧ Q x s2) (fun x s' => ∃ s2, s' = wg s2 s'.gens ∧ Rl (Bs s.gens) s'.gens s2.gens ∧ Kp (Bs s.gens) s.gens s'.gens ∧ E x s2) s :=
  fun Γ p hΓ => frame_wp M (Bs s.gens) Γ t _ _ p { s with gens := s.gens.map slp } s.gens (rl_slp s.gens) (h Γ p hΓ)
end GF

set_option autoImplicit false
set_option maxRecDepth 100000
set_option maxHeartbeats 1000000
/-! A generator that is walked while its consumer works: each wake stands over the heap as it is then, cut at the generator's own frame. -/
namespace AM
open PySem L2 PySem.Spec PyProof.Rows

/-! ### the heap below an address -/
def cut (h : Heap) (n : Nat) : Heap := { h with objs := h.objs.extract 0 n }
theorem cut_lt {h : Heap} {n a : Nat} (ha : a < n) : (cut h n).get? a = h.get? a := by
  have e : (h.objs.extract 0 n)[a]? = h.objs[a]? := by
    rw [Array.getElem?_extract]
    split
    · rw [Nat.zero_add]
    · rename_i hn
      symm
      exact Array.getElem?_eq_none (by omega)
  show (match (h.objs.extract 0 n)[a]? with | some ⟨_, _, .freed, _⟩ => none | o => o) = _
  rw [e]; rfl
theorem cut_size {h : Heap} {n : Nat} (hn : n ≤ h.objs.size) : (cut h n).objs.size = n := by
  show (h.objs.extract 0 n).size = n
  simp; omega
theorem cut_get {h : Heap} {n a : Nat} {o : Obj} (e : (cut h n).get? a = some o) : h.get? a = some o ∧ a < n := by
  have hl := Heap.lt_size e
  have hn : a < n := by
    have : (cut h n).objs.size ≤ n := by show (h.objs.extract 0 n).size ≤ n; simp; omega
    exact Nat.lt_of_lt_of_le hl this
  rw [cut_lt hn] at e
  exact ⟨e, hn⟩

structure GW where
  P : Program
  w : World
  K : PySem.W.Frag
  mg : Str → Option Value
  base : Heap
  N : List Str
  qual : Str
  sc : Scope
  f : Addr
  cdv : Value
  A : Around
  outer : List Env
  L : Addr
  a : Addr
  go : Obj
  items : List D
  J : Nat → Mu → Hp → Shared → Prop
namespace GW
variable (G : GW)
def env : Env := envOfC G.qual G.sc G.L G.f G.cdv
/-- the context of a wake at s with the heap H -/
@[reducible] def X (s : Shared) (H : Hp) : Cx where
  prog := G.P
  w := G.w
  K := G.K
  mg := G.mg
  base := G.base
  A := G.A.deeper (envOfC G.qual G.sc G.L G.f G.cdv)
  N := G.N
  s_0 := { s with heap := cut s.heap G.L }
  H_0 := H
  env := envOfC G.qual G.sc G.L G.f G.cdv
  outer := G.outer
  stack := envOfC G.qual G.sc G.L G.f G.cdv :: G.outer
  ex := []
  fn := fun _ => true
  calm := true
  pn := []
  xe := fun _ _ => False
@[reducible] def c (s : Shared) (H : Hp) : Ctx := ⟨G.X s H, fun _ _ _ _ => False, takes0, PassesOwn.never⟩
/-- what a wake's segment keeps -/
structure Mid (s₀ : Shared) (H₀ : Hp) (s₁ : Shared) (H₁ : Hp) : Prop where
  os : s₁.os = s₀.os
  bare : AllBare s₁.gens
  un : Un (frs G.outer) [] H₀ H₁ (cut s₀.heap G.L) s₁.heap
  hok : HOk G.P G.w H₁ s₁.heap
/-- the generator's own objects, as they stand while it sleeps -/
def Priv (pr : List (Addr × Obj)) (H : Hp) (s : Shared) : Prop :=
  ∀ p ∈ pr, s.heap.get? p.1 = some p.2 ∧ H p.1 = none ∧ p.1 ∉ frs G.outer ∧ G.L ≤ p.1 ∧ ∀ v, p.2.data ≠ .cell v
def Y : Protocol := fun k s₀ v s₁ kap => ∃ m H₀ H₁ x d pr pre post, k = post.length + 1 ∧ G.items = pre ++ d :: post ∧ G.J k m H₀ s₀ ∧ RelV x v ∧ Dt G.K m H₁ x d ∧ Evo G.K m H₀ m H₁ ∧ G.Mid s₀ H₀ s₁ H₁ ∧
  (G.a, G.go) ∈ pr ∧ G.Priv pr H₁ s₁ ∧ ∀ m₂ H₂ s₂ r, (r = .send .none ∨ r = .send (.bool true)) → G.J post.length m₂ H₂ s₂ → Evo G.K m H₁ m₂ H₂ → G.Priv pr H₂ s₂ → kap r s₂
def F (n : Nat) (s₀ s₁ : Shared) : Prop := n = 1 ∧ ∃ m H₀ H₁, G.J 0 m H₀ s₀ ∧ Evo G.K m H₀ m H₁ ∧ G.Mid s₀ H₀ s₁ H₁
def R : GenEnd := fun n s₀ r s₁ => ((r = .ok (.ret .none) ∨ r = .ok .next) ∧ G.F n s₀ s₁) ∨ ∃ e, r = .error e ∧ False
/-- what a wake gives -/
structure JOk : Prop where
  L : ∀ n m H s, G.J n m H s → G.L ≤ s.heap.objs.size
  bare : ∀ n m H s, G.J n m H s → AllBare s.gens
  bs : ∀ n m H s, G.J n m H s → ∀ b o, G.base.get? b = some o → s.heap.get? b = some o ∧ H b = none
  funs : ∀ n m H s, G.J n m H s → s.heap.FunFrames G.base G.outer
  frf : ∀ n m H s, G.J n m H s → ∀ b ∈ frs G.outer, H b = none
  hok : ∀ n m H s, G.J n m H s → HOk G.P G.w H s.heap
/-- what never changes -/
structure Stat : Prop where
  mod : Mod G.K G.mg G.base
  bsz : G.base.objs.size ≤ G.L
  kind : G.sc.kind = .function
  nocell : ∀ y ∈ G.sc.names, y.2 ≠ .cell ∧ y.2 ≠ .free
  hd : G.A.handled = none
  frames : G.A.frames = some G.outer
  frL : ∀ b ∈ frs G.outer, b < G.L
/-- the generator's slots and iterators, at rest -/
structure Rest (ip : List (Addr × Obj)) (σ : L2.St) (s : Shared) : Prop where
  loc : ∃ m, s.heap.Ns G.L m ∧ ∀ (i : Nat) (x : Str) (v : V), G.N[i]? = some x → σ[i]? = some (some v) → Vis G.sc x → ∃ u, RelV v u ∧ Look (envOfC G.qual G.sc G.L G.f G.cdv) s.heap m x u
  ip : ∀ p ∈ ip, p.1 ≠ G.L ∧ ∀ v, p.2.data ≠ .cell v
  len : σ.length = G.N.length
variable {G}
theorem nolook {sc : Scope} (h : ∀ y ∈ sc.names, y.2 ≠ .cell ∧ y.2 ≠ .free) {x : Str} : sc.names.lookup x ≠ some .cell ∧ sc.names.lookup x ≠ some .free :=
  ⟨fun e => (h _ (PySem.mem_of_lookup e)).1 rfl, fun e => (h _ (PySem.mem_of_lookup e)).2 rfl⟩
theorem nocells {sc : Scope} (h : ∀ y ∈ sc.names, y.2 ≠ .cell ∧ y.2 ≠ .free) : ∀ {x : Str} {c : Addr} {n : Nat}, (cellsFrom n sc.names []).lookup x ≠ some c := fun {x c n} e => by
  have key : ∀ (l : List (Str × NameKind)) (n : Nat) (acc : List (Str × Addr)), (∀ y ∈ l, y.2 ≠ .cell ∧ y.2 ≠ .free) → cellsFrom n l acc = acc := by
    intro l
    induction l with
    | nil => intro n acc _; rfl
    | cons y r ih =>
      intro n acc hl
      obtain ⟨nm, kd⟩ := y
      unfold cellsFrom
      have hk : (kd == NameKind.cell) = false := by
        have := (hl (nm, kd) List.mem_cons_self).1
        cases kd <;> first | rfl | exact absurd rfl this
      rw [hk]
      exact ih n acc fun y hy => hl y (List.mem_cons_of_mem _ hy)
  rw [key _ _ _ h] at e
  cases e
/-- a wake: the context stands over the heap as it is now -/
theorem wake (S : G.Stat) (jo : G.JOk) {n : Nat} {m : Mu} {H : Hp} {s s' : Shared} {ip pr : List (Addr × Obj)} {σ : L2.St} (j : G.J n m H s) (R : G.Rest ip σ s') (hpr : ∀ o, s'.heap.get? G.L = some o → (G.L, o) ∈ pr) (hip : ∀ p ∈ ip, p ∈ pr) (hp : G.Priv pr H s) : Inv (G.X s H) ip σ H s := by
  have hL := jo.L _ _ _ _ j
  have cs : (cut s.heap G.L).objs.size = G.L := cut_size hL
  have nc : ∀ {x : Str} {c : Addr}, (envOfC G.qual G.sc G.L G.f G.cdv).cells.lookup x ≠ some c := fun {x c} => nocells S.nocell
  obtain ⟨mm, hn, hl⟩ := R.loc
  obtain ⟨oL, es, ep, hoL, hr⟩ := id hn
  obtain ⟨hL1, hL2, _, _, _⟩ := hp _ (hpr _ hoL)
  have hn2 : s.heap.Ns G.L mm := ⟨oL, es, ep, hL1, hr⟩
  refine ⟨⟨S.mod, S.kind, rfl, rfl, ?_, fun x y c e _ => (nc e).elim, fun x hx => ?_, fun x c _ e => (nc e).elim, fun _ => S.hd, Around.frames_deeper S.frames, .inr ⟨rfl, rfl⟩, fun b z => absurd z (List.not_mem_nil), fun b o e => ?_, ?_, fun b o _ z => absurd z (List.not_mem_nil), fun b z => absurd z (List.not_mem_nil), ?_, jo.frf _ _ _ _ j⟩,
    rfl, jo.bare _ _ _ _ j, Un.kept fun b o e => (cut_get e).1, ⟨mm, hn2, fun i x v e1 e2 e3 => ?_⟩, fun x c e => (nc e).elim, hL2, fun x c e => (nc e).elim, fun p hp' => ?_, jo.hok _ _ _ _ j, R.len⟩
  · show (cut s.heap G.L).objs.size ≤ G.L
    rw [cs]; exact Nat.le_refl _
  · have hx : G.sc.names.lookup x = some .cell ∨ G.sc.names.lookup x = some .free := hx
    exact hx.elim (fun z => absurd z (nolook S.nocell).1) fun z => absurd z (nolook S.nocell).2
  · obtain ⟨h1, h2⟩ := jo.bs _ _ _ _ j b o e
    refine ⟨?_, h2⟩
    show (cut s.heap G.L).get? b = some o
    rw [cut_lt (Nat.lt_of_lt_of_le (Heap.lt_size e) S.bsz)]; exact h1
  · show G.base.objs.size ≤ (cut s.heap G.L).objs.size
    rw [cs]; exact S.bsz
  · have all : ∀ (l : List Env), (∀ b ∈ frs l, b < G.L) → s.heap.FunFrames G.base l → (cut s.heap G.L).FunFrames G.base l := by
      intro l
      induction l with
      | nil => intro _ _; trivial
      | cons env r ih =>
        intro hs hl
        obtain ⟨hk, ⟨L, o, hf, hn, ho, hd⟩, hr⟩ := hl
        have hb : L < G.L := hs L (by unfold frs; rw [List.filterMap_cons, hf]; exact List.mem_cons_self)
        exact ⟨hk, ⟨L, o, hf, hn, by rw [cut_lt hb]; exact ho, hd⟩, ih (fun b hb => hs b (by unfold frs; rw [List.filterMap_cons, hf]; exact List.mem_cons_of_mem _ hb)) hr⟩
    exact all _ S.frL (jo.funs _ _ _ _ j)
  · obtain ⟨u, r, l⟩ := hl i x v e1 e2 e3
    refine ⟨u, r, ?_⟩
    rcases l with l | ⟨k, c, e, z⟩
    · exact .inl l
    · exact (nc e).elim
  · have hp' : p ∈ ip := hp'
    obtain ⟨q1, q2, q3, q4, q5⟩ := hp p (hip p hp')
    exact ⟨q1, q2, (R.ip p hp').1, q3, q5⟩
theorem mid {s₀ s₁ : Shared} {H₀ H₁ : Hp} {ip : List (Addr × Obj)} {σ : L2.St} (I : Inv (G.X s₀ H₀) ip σ H₁ s₁) : G.Mid s₀ H₀ s₁ H₁ := ⟨I.os, I.bare, I.base, I.hok⟩
theorem rest {s₀ s₁ : Shared} {H₀ H₁ : Hp} {ip : List (Addr × Obj)} {σ : L2.St} (I : Inv (G.X s₀ H₀) ip σ H₁ s₁) : G.Rest ip σ s₁ :=
  ⟨I.loc, fun p hp => let ⟨_, _, q, _, r⟩ := I.pin p hp; ⟨q, r⟩, I.len⟩

/-! ### the generator's statements -/
structure At (G : GW) (μa : Mu) (Ha : Hp) (ip : List (Addr × Obj)) (n : Nat) (Δ : Sl) (s₀ s : Shared) (m : Mu) (H₀ H : Hp) (σ : L2.St) : Prop where
  j : G.J n m H₀ s₀
  ea : Evo G.K μa Ha m H
  e : Evo G.K m H₀ m H
  inv : Inv (G.X s₀ H₀) ip σ H s
  ok : OkS G.K m H σ Δ
structure Pos (G : GW) (ip : List (Addr × Obj)) (c : Code) (fs : List Frame) (gd : Bool → Bool) : Prop where
  over : G.A.over c fs = G.A.deeper (envOfC G.qual G.sc G.L G.f G.cdv)
  split : splitAtGen fs = none
  guard : fs.any Frame.guarded = false
  gd : gd false = false
  me : (G.a, G.go) ∈ ip
  ipL : ∀ p ∈ ip, G.L ≤ p.1
abbrev M (G : GW) : Model := model G.P G.w
/-- G's code goes on with the flow next -/
def On (G : GW) (ip : List (Addr × Obj)) (μa : Mu) (Ha : Hp) (c : Code) (fs : List Frame) (T : Sem PySem.Fin) (NX : List D → Sl → Prop) : Prop :=
  ∀ ys Δ s₀ s m H₀ H σ, (∃ pre, G.items = pre ++ ys) → At G μa Ha ip ys.length Δ s₀ s m H₀ H σ → NX ys Δ → Seg G.M G.A G.R G.Y (ys.length + 1) s₀ c T fs s
def C1 (G : GW) (st : Stmt) (ys : List D) (Δ : Sl) (NX : List D → Sl → Prop) : Prop :=
  ∀ μa Ha ip c fs (K' : Flow → Sem PySem.Fin) (J' : Value → Sem PySem.Fin) gd lv s₀ s m H₀ H σ, Pos G ip c fs gd → (∃ pre, G.items = pre ++ ys) → At G μa Ha ip ys.length Δ s₀ s m H₀ H σ →
    On G ip μa Ha c fs (K' .next) NX → Seg G.M G.A G.R G.Y (ys.length + 1) s₀ c ((exec st (envOfC G.qual G.sc G.L G.f G.cdv)).wrap K' J' gd lv) fs s
def Cs (G : GW) (sts : List Stmt) (ys : List D) (Δ : Sl) (NX : List D → Sl → Prop) : Prop :=
  ∀ μa Ha ip c fs (K' : Flow → Sem PySem.Fin) (J' : Value → Sem PySem.Fin) gd lv s₀ s m H₀ H σ, Pos G ip c fs gd → (∃ pre, G.items = pre ++ ys) → At G μa Ha ip ys.length Δ s₀ s m H₀ H σ →
    On G ip μa Ha c fs (K' .next) NX → Seg G.M G.A G.R G.Y (ys.length + 1) s₀ c ((execs sts (envOfC G.qual G.sc G.L G.f G.cdv)).wrap K' J' gd lv) fs s
section
variable {ys : List D} {Δ : Sl} {NX : List D → Sl → Prop} {st : Stmt} {sts : List Stmt}
theorem Cs.nil (h : NX ys Δ) : Cs G [] ys Δ NX := fun μa Ha ip c fs K' J' gd lv s₀ s m H₀ H σ P suf a k =>
  seg_execs_nil (k ys Δ s₀ s m H₀ H σ suf a h)
theorem Cs.cons (h : C1 G st ys Δ fun ys' Δ' => Cs G sts ys' Δ' NX) : Cs G (st :: sts) ys Δ NX := fun μa Ha ip c fs K' J' gd lv s₀ s m H₀ H σ P suf a k => by
  refine seg_execs_cons (h μa Ha ip c fs _ J' gd lv s₀ s m H₀ H σ P suf a fun ys' Δ' s₀' s' m' H₀' H' σ' suf' a' q => ?_)
  exact q μa Ha ip c fs K' J' gd lv s₀' s' m' H₀' H' σ' P suf' a' k
theorem Cs.one (h : C1 G st ys Δ NX) : Cs G [st] ys Δ NX := Cs.cons fun μa Ha ip c fs K' J' gd lv s₀ s m H₀ H σ P suf a k =>
  h μa Ha ip c fs K' J' gd lv s₀ s m H₀ H σ P suf a fun ys' Δ' s₀' s' m' H₀' H' σ' suf' a' q => k ys' Δ' s₀' s' m' H₀' H' σ' suf' a' (Cs.nil q)
/-- a statement that hands out nothing -/
theorem C1.plain (h : ∀ s₀ H₀ m, CS (G.c s₀ H₀) st Δ m { nx := fun Δ' m' => m' = m ∧ NX ys Δ', rt := fun _ _ => False }) : C1 G st ys Δ NX := fun μa Ha ip c fs K' J' gd lv s₀ s m H₀ H σ P suf a k => by
  refine seg_wrap ?_
  rw [P.over]
  have q := h s₀ H₀ m σ H a.ok a.e.s { nx := fun σ' H' => ∃ Δ', Evo G.K m H m H' ∧ OkS G.K m H' σ' Δ' ∧ NX ys Δ', rt := fun _ _ => False }
    ⟨fun σ' Δ' m' H' e o ⟨z, q⟩ => by subst z; exact ⟨Δ', e, o, q⟩, fun _ _ _ _ _ _ z => z.elim, fun _ _ _ _ _ _ z => z.elim, fun _ _ _ _ _ _ z => z.elim, fun _ _ _ _ _ _ _ _ _ _ _ z => z.elim⟩
  refine wpAny_mono ((ps_w (X := G.X s₀ H₀)).run ip s σ H _ a.inv q) (fun f s' hs => ?_) fun x s' hx => hx.elim
  cases f with
  | next =>
    obtain ⟨σ', H', I', Δ', e, o, q⟩ := hs
    exact k ys Δ' s₀ s' m H₀ H' σ' suf ⟨a.j, a.ea.trans e, a.e.trans e, I', o⟩ q
  | brk => obtain ⟨_, _, _, q⟩ := hs; exact q.elim
  | cont => obtain ⟨_, _, _, q⟩ := hs; exact q.elim
  | ret u => obtain ⟨_, _, _, _, _, q⟩ := hs; exact q.elim
/-- yield e -/
theorem C1.yield (S : G.Stat) (jo : G.JOk) {e : Expr} {yp pos : PySem.Pos} {d : D} {r : List D} (hy : ys = d :: r) (h : ∀ s₀ H₀ m, CE (G.c s₀ H₀) e Δ m (fun d' m' => m' = m ∧ d' = d) noX) (hn : NX r Δ)
    (hco : (envOfC G.qual G.sc G.L G.f G.cdv).scope.isCoroutine = false) (hi : interactive (envOfC G.qual G.sc G.L G.f G.cdv) = false := by rfl) : C1 G (.Expr (.Yield (some e) yp) pos) ys Δ NX := fun μa Ha ip c fs K' J' gd lv s₀ s m H₀ H σ P suf a k => by
  subst hy
  obtain ⟨pre, suf⟩ := suf
  refine seg_Expr_Yield P.split P.gd P.guard ?_ hco hi
  rw [P.over]
  have q := h s₀ H₀ m σ H a.ok a.e.s (fun v H' => Evo G.K m H m H' ∧ Dt G.K m H' v d) (fun v d' m' H' e t ⟨z, z2⟩ => by subst z; subst z2; exact ⟨e, t⟩) (fun _ _ _ _ _ _ _ _ z => z.elim)
  refine wpAny_mono ((pe_w (X := G.X s₀ H₀)).run ip s σ H _ a.inv q) (fun v s' hs => ?_) fun x s' hx => hx.elim
  obtain ⟨x, H', I', rv, e1, t1⟩ := hs
  intro kap hk
  have inv := I'
  obtain ⟨mm, hn0, _⟩ := I'.loc
  obtain ⟨oL, es, ep, hoL, hdL, _⟩ := id hn0
  have hoL : s'.heap.get? G.L = some oL := hoL
  have pv : G.Priv ((G.L, oL) :: ip) H' s' := fun p hp => by
    rcases List.mem_cons.mp hp with z | z
    · subst z
      exact ⟨hoL, I'.free, fun z => absurd (S.frL _ z) (Nat.lt_irrefl _), Nat.le_refl _, fun v z => by rw [hdL] at z; cases z⟩
    · obtain ⟨q1, q2, q3, q4, q5⟩ := I'.pin p z
      exact ⟨q1, q2, q4, P.ipL p z, q5⟩
  refine ⟨m, H₀, H', x, d, (G.L, oL) :: ip, pre, r, rfl, suf, a.j, rv, t1, a.e.trans e1, mid I', List.mem_cons_of_mem _ P.me, pv, fun m₂ H₂ s₂ rr hrr j₂ e₂ p₂ => ?_⟩
  have I₂ : Inv (G.X s₂ H₂) ip σ H₂ s₂ := wake S jo j₂ (rest I') (fun o ho => by rw [hoL] at ho; cases ho; exact List.mem_cons_self) (fun p hp => List.mem_cons_of_mem _ hp) p₂
  have go := k r Δ s₂ s₂ m₂ H₂ H₂ σ ⟨pre ++ [d], by rw [suf]; simp⟩ ⟨j₂, (a.ea.trans e1).trans e₂, Evo.refl e₂.s, I₂, a.ok.evo (e1.trans e₂)⟩ hn
  rcases hrr with z | z
  · subst z; exact hk .none s₂ go
  · subst z; exact hk (.bool true) s₂ go
end

/-! ### for -/
section
variable {A : Around} {R : GenEnd} {Y : Protocol} {n : Nat} {s₀ : Shared} {fs : List Frame} {s : Shared} {env : Env} {prog : Program} {w : World} {cc : Code} {tg it : Expr} {body : List Stmt} {pos : PySem.Pos}
  {K' : Flow → Sem PySem.Fin} {J' : Value → Sem PySem.Fin} {gd : Bool → Bool} {lv : List Value → List Value}
/-- the frame a loop's code stands over -/
abbrev lfr (env : Env) (K' : Flow → Sem PySem.Fin) (J' : Value → Sem PySem.Fin) (gd : Bool → Bool) (lv : List Value → List Value) (c : Code) (p : PySem.Pos) : Frame :=
  .ret (fun r => ((match r with | .ok f => (.pure f : Sem Flow) | .error e => .raise e).onRaise (cameBack env)).wrap K' J' gd lv) none (gd false) (lv []) c p []
theorem seg_for (hs : ∀ x, foldedSetIterable it env x = pure x)
    (h : wpAny (model prog w) (A.over cc fs) (eval it env) (fun x s₁ => wpAny (model prog w) (A.over cc fs) (pyIter x) (fun iv s₂ =>
      ∀ p, Seg (model prog w) A R Y n s₀ (.forLoop tg iv body [] env) ((model prog w).den (.forLoop tg iv body [] env)) (lfr env K' J' gd lv cc p :: fs) s₂) (fun _ _ => False) s₁) (fun _ _ => False) s) :
    Seg (model prog w) A R Y n s₀ cc ((exec (.For tg it body [] pos) env).wrap K' J' gd lv) fs s := by
  rw [exec_For]
  refine seg_bind_wrap (wpAny_standAt ?_)
  refine seg_bind_wrap (wpAny_mono h (fun x s₁ h₁ => ?_) fun _ _ z => z.elim)
  refine seg_bind_wrap (wpAny_of_eq (hs x) ?_)
  refine seg_bind_wrap (wpAny_standAt ?_)
  refine seg_bind_wrap (wpAny_holding (wpAny_mono h₁ (fun iv s₂ h₂ => ?_) fun _ _ z => z.elim))
  exact seg_call h₂
/-- one turn -/
theorem seg_turn {iv : Value}
    (h : wpAny (model prog w) (A.over (.forLoop tg iv body [] env) fs) (pyNext iv) (fun r s₁ => match r with
      | none => Seg (model prog w) A R Y n s₀ (.block [] env) ((model prog w).den (.block [] env)) fs s₁
      | some v => wpAny (model prog w) (A.over (.forLoop tg iv body [] env) fs) (letOwnedTupleGo tg iv v) (fun _ s₂ => wpAny (model prog w) (A.over (.forLoop tg iv body [] env) fs) (assign tg env v) (fun _ s₃ =>
          Seg (model prog w) A R Y n s₀ (.forLoop tg iv body [] env) ((execs body env).wrap (fun f => match f with
            | .next | .cont => .pure (.again (.forLoop tg iv body [] env))
            | .brk => .pure (.done .next)
            | .ret v => .pure (.done (.ret v))) (fun e => (do noteFrame e env; theTreesLotGoes e : Sem Unit).wrap (fun _ => .raise e) .raise id id) id id) fs s₃) (fun _ _ => False) s₂) (fun _ _ => False) s₁) (fun _ _ => False) s) :
    Seg (model prog w) A R Y n s₀ (.forLoop tg iv body [] env) ((model prog w).den (.forLoop tg iv body [] env)) fs s := by
  show Seg _ A R Y n s₀ _ ((forTurn tg iv body [] env).onRaise (fun x => do noteFrame x env; theTreesLotGoes x)) fs s
  unfold forTurn
  rw [Sem.onRaise_eq_wrap]
  refine seg_bind_wrap (wpAny_standAt ?_)
  refine seg_bind_wrap (wpAny_onRaise (wpAny_mono h (fun r s₁ h₁ => ?_) fun _ _ z => z.elim))
  cases r with
  | none => exact seg_again rfl h₁
  | some v =>
    refine seg_bind_wrap (wpAny_mono h₁ (fun _ s₂ h₂ => ?_) fun _ _ z => z.elim)
    refine seg_bind_wrap (wpAny_mono h₂ (fun _ s₃ h₃ => ?_) fun _ _ z => z.elim)
    rw [Sem.bind_eq_wrap', Sem.wrap_wrap]
    rw [Sem.wrap_congr (execs body env) _ _ (K' := fun f => match f with
            | .next | .cont => .pure (.again (.forLoop tg iv body [] env))
            | .brk => .pure (.done .next)
            | .ret v => .pure (.done (.ret v))) (H' := (fun e => (do noteFrame e env; theTreesLotGoes e : Sem Unit).wrap (fun _ => .raise e) .raise id id))
        (fun f => by cases f <;> rfl) (fun e => by exact Sem.bind_eq_wrap _ _)]
    exact h₃
theorem seg_block (h : Seg (model prog w) A R Y n s₀ (.block [] env) (.pure (.done .next)) fs s) : Seg (model prog w) A R Y n s₀ (.block [] env) ((model prog w).den (.block [] env)) fs s := by
  show Seg _ A R Y n s₀ _ (((execs [] env).onRaise (fun x => do noteFrame x env; theTreesLotGoes x)) >>= fun f => pure (.done f)) fs s
  rw [Sem.onRaise_eq_wrap, Sem.bind_eq_wrap', Sem.wrap_wrap]
  exact seg_execs_nil h
end
theorem pos_loop {ip ip' : List (Addr × Obj)} {c c' : Code} {fs : List Frame} {gd : Bool → Bool} {env : Env} {K' : Flow → Sem PySem.Fin} {J' : Value → Sem PySem.Fin} {lv : List Value → List Value} {p : PySem.Pos} (P : Pos G ip c fs gd) (hm : ∀ p ∈ ip, p ∈ ip') (hL : ∀ p ∈ ip', G.L ≤ p.1) (hw : c'.weight = 0) (hu : c'.cUnits = 0) :
    Pos G ip' c' (lfr env K' J' gd lv c p :: fs) id where
  over := (GenW.over_loop hw hu).trans P.over
  split := by
    show (splitAtGen fs).map _ = none
    rw [P.split]; rfl
  guard := by
    show (gd false || fs.any Frame.guarded) = false
    rw [P.gd, P.guard]; rfl
  gd := rfl
  me := hm _ P.me
  ipL := hL
theorem C1.for {tg e : Expr} {body : List Stmt} {pos : PySem.Pos} {g : TGD} {ys : List D} {Δ : Sl} {NX : List D → Sl → Prop} {ds : List D} (I : Nat → List D → Sl → Prop) (hg : ∀ s₀ H₀, CG (G.c s₀ H₀) tg g)
    (h : ∀ s₀ H₀ m, CI (G.c s₀ H₀) tg e Δ m (fun ds' m' => m' = m ∧ ds' = ds) noX) (h0 : I 0 ys Δ)
    (h1 : ∀ i d ys' Δ', ds[i]? = some d → I i ys' Δ' → ∃ Δ2, g d Δ' = some Δ2 ∧ Cs G body ys' Δ2 (I (i + 1))) (h2 : ∀ ys' Δ', I ds.length ys' Δ' → NX ys' Δ')
    (hs : ∀ x, foldedSetIterable e (envOfC G.qual G.sc G.L G.f G.cdv) x = pure x) (jo : G.JOk) : C1 G (.For tg e body [] pos) ys Δ NX := fun μa Ha ip c fs K' J' gd lv s₀ s m H₀ H σ P suf a k => by
  refine seg_for hs ?_
  rw [P.over]
  obtain ⟨w, hw, hq⟩ := h s₀ H₀ m σ H a.ok a.e.s (fun J H' => Evo G.K m H m H' ∧ Walks G.K J ds m H') (fun J ds' m' H' e1 W ⟨z, z2⟩ => by subst z; subst z2; exact ⟨e1, W⟩) (fun _ _ _ _ _ _ _ _ z => z.elim)
  refine wpAny_mono (hw.run ip s σ H _ a.inv hq) (fun v s1 q1 => wpAny_mono q1 (fun iv s2 q2 => ?_) fun _ _ z => z.elim) fun _ _ z => z.elim
  obtain ⟨it, fp, tn, J, H2, e, I2, T, st2, f2, e2, W⟩ := q2
  subst e
  intro p
  have hLs : (cut s₀.heap G.L).objs.size = G.L := cut_size (jo.L _ _ _ _ a.j)
  have gl := fun (x : List (Addr × Obj)) (hm : ∀ p ∈ ip, p ∈ x) (hL : ∀ p ∈ x, G.L ≤ p.1) (c' : Code) (hw : c'.weight = 0) (hu : c'.cUnits = 0) =>
    pos_loop (env := envOfC G.qual G.sc G.L G.f G.cdv) (K' := K') (J' := J') (lv := lv) (p := p) (c' := c') P hm hL hw hu
  have stat : ∀ {s₀' : Shared} {H₀' H' : Hp}, (G.L ≤ s₀'.heap.objs.size) → (∀ b ∈ fp, H' b = none) → ∀ b ∈ fp, FpOk (G.X s₀' H₀') ip H' b := fun {s₀' H₀' H'} hl hn b hb => by
    obtain ⟨_, q2, q3, q4, q5, q6⟩ := f2 b hb
    refine ⟨hn b hb, q2, q3, .inr ?_, q5, q6⟩
    show (cut s₀'.heap G.L).objs.size ≤ b
    rw [cut_size hl]
    rcases q4 with z | z
    · exact absurd z (List.not_mem_nil)
    · have z : (cut s₀.heap G.L).objs.size ≤ b := z
      rw [hLs] at z; exact z
  have fpL : ∀ b ∈ fp, G.L ≤ b := fun b hb => by
    obtain ⟨_, q2, q3, q4, q5, q6⟩ := f2 b hb
    rcases q4 with z | z
    · exact absurd z (List.not_mem_nil)
    · have z : (cut s₀.heap G.L).objs.size ≤ b := z
      rw [hLs] at z; exact z
  have pinL : ∀ (h : Heap), ∀ p ∈ ip ++ pinsAt fp h, G.L ≤ p.1 := fun h p hp => by
    rcases List.mem_append.mp hp with z | z
    · exact P.ipL p z
    · exact fpL _ (of_pinsAt z).1
  have base := a.ea.trans e2
  have loop : ∀ (r i : Nat) (ys : List D) (Δ : Sl) (s₀ s : Shared) (m' : Mu) (H₀ H : Hp) (σ : L2.St), i + r = ds.length → (∃ pre, G.items = pre ++ ys) → At G m H2 ip ys.length Δ s₀ s m' H₀ H σ → (∀ b ∈ fp, H b = none) → tn i s.heap → I i ys Δ →
      Seg G.M G.A G.R G.Y (ys.length + 1) s₀ (.forLoop tg (.ref it) body [] (envOfC G.qual G.sc G.L G.f G.cdv)) (G.M.den (.forLoop tg (.ref it) body [] (envOfC G.qual G.sc G.L G.f G.cdv))) (lfr (envOfC G.qual G.sc G.L G.f G.cdv) K' J' gd lv c p :: fs) s := by
    intro r
    induction r with
    | zero =>
      intro i ys Δ s₀ s m' H₀ H σ hi suf a fr tni hI
      have hi : i = ds.length := by omega
      subst hi
      refine seg_turn ?_
      rw [(gl ip (fun _ h => h) P.ipL (.forLoop tg (.ref it) body [] _) rfl rfl).over]
      refine wpAny_mono (T.done (G.X s₀ H₀) rfl rfl rfl rfl _ ip s σ H _ a.inv (stat (jo.L _ _ _ _ a.j) fr) tni (W.stop _ _ a.ea)) (fun r s1 ⟨hr, I1⟩ => ?_) fun _ _ z => z
      subst hr
      refine seg_block (seg_leaf (.ok .next) ?_)
      exact k ys Δ s₀ s1 m' H₀ H σ suf ⟨a.j, base.trans a.ea, a.e, I1, a.ok⟩ (h2 _ _ hI)
    | succ r ih =>
      intro i ys Δ s₀ s m' H₀ H σ hi suf a fr tni hI
      have hlt : i < ds.length := by omega
      refine seg_turn ?_
      rw [(gl ip (fun _ h => h) P.ipL (.forLoop tg (.ref it) body [] _) rfl rfl).over]
      refine wpAny_mono (T.item (G.X s₀ H₀) rfl rfl rfl rfl i ip s σ H _ a.inv (stat (jo.L _ _ _ _ a.j) fr) tni (W.go _ _ _ a.ea hlt)) (fun r s1 ⟨u, hr, q⟩ => ?_) fun _ _ z => z
      subst hr
      refine wpAny_mono q (fun _ s2 ⟨x, H', I1, rx, y, tn1, fr1⟩ => ?_) fun _ _ z => z
      obtain ⟨d, hd, dt, e3⟩ := W.yld _ _ _ _ _ a.ea hlt y
      obtain ⟨Δ2, hg2, hb⟩ := h1 i d ys Δ hd hI
      obtain ⟨t, pg, ht⟩ := (hg s₀ H₀).ex
      have I1' := I1.pinned (stat (jo.L _ _ _ _ a.j) fr1) (T.obj _ _ tn1)
      have q2 := ht x d σ H' Δ Δ2 m' (fun σ' H'' => H'' = H' ∧ OkS G.K m' H' σ' Δ2) (a.ok.evo e3) dt hg2 fun σ' o => ⟨rfl, o⟩
      refine wpAny_mono (pg.run _ s2 σ H' x u _ I1' rx q2) (fun _ s3 ⟨σ3, H3, I3, z, o3⟩ => ?_) fun _ _ z => z
      subst z
      refine hb m H2 (ip ++ pinsAt fp s2.heap) _ _ _ _ id id s₀ s3 m' H₀ H3 σ3 (gl _ (fun p hp => List.mem_append_left _ hp) (pinL _) (.forLoop tg (.ref it) body [] _) rfl rfl) suf ⟨a.j, a.ea.trans e3, a.e.trans e3, I3, o3⟩ ?_
      intro ys4 Δ4 s₀4 s4 m4 H₀4 H4 σ4 suf4 a4 hI4
      refine seg_again rfl ?_
      refine ih (i + 1) ys4 Δ4 s₀4 s4 m4 H₀4 H4 σ4 (by omega) suf4 ⟨a4.j, a4.ea, a4.e, a4.inv.unpinned, a4.ok⟩ (fun b hb' => ?_) (T.keep _ _ _ tn1 fun b hb' o e => ?_) hI4
      · obtain ⟨o, e, _⟩ := T.obj _ _ tn1 b hb'
        exact (a4.inv.pin (b, o) (List.mem_append_right _ (List.mem_append_right _ (mem_pinsAt hb' e)))).2.1
      · exact (a4.inv.pin (b, o) (List.mem_append_right _ (List.mem_append_right _ (mem_pinsAt hb' e)))).1
  exact loop ds.length 0 ys Δ s₀ s2 m H₀ H2 σ (by omega) suf ⟨a.j, Evo.refl e2.s, a.e.trans e2, I2, a.ok.evo e2⟩ (fun b hb => (f2 b hb).1) st2 h0
end GW
end AM

set_option autoImplicit false
set_option maxRecDepth 100000
set_option maxHeartbeats 1000000
/-! for over a generator that lives: the consumer's side. -/
namespace AM
open PySem L2 PySem.Spec PyProof.Rows

abbrev Ctx.nox (c : Ctx) : Ctx := ⟨c.X.nox, fun _ _ _ _ => False, takes0, PassesOwn.never⟩
section
variable {X : Cx} {pins : List (Addr × Obj)} {σ : L2.St} {H H₁ : Hp} {s s₁ : Shared}
/-- the generators are others -/
theorem Inv.regen (I : Inv X pins σ H s) {a : Array GenState} (h : AllBare a) : Inv X pins σ H (GF.wg s a) := ⟨I.ok, I.os, h, I.base, I.loc, I.cell, I.free, I.freeC, I.pin, I.hok, I.len⟩
/-- behind a wake: what stands below the generator's frame is ours again -/
theorem Inv.back {L : Nat} (I : Inv X pins σ H s) (hos : s₁.os = s.os) (hb : AllBare s₁.gens) (u : Un (frs X.stack) [] H H₁ (cut s.heap L) s₁.heap) (hok : HOk X.prog X.w H₁ s₁.heap) (hsz : X.s_0.heap.objs.size ≤ L) (hl : X.env.locals < L)
    (hc : ∀ x c, X.env.cells.lookup x = some c → c < L) (hp : ∀ p ∈ X.pn ++ pins, p.1 < L) : Inv X pins σ H₁ s₁ := by
  obtain ⟨h', g', d', t', o'⟩ := s₁
  have e : o' = s.os := hos
  subst e
  let ch : List Addr := (List.range s.heap.objs.size).filter fun b => decide (L ≤ b)
  have nch : ∀ b o, b ∉ ch → s.heap.get? b = some o → (cut s.heap L).get? b = some o := fun b o hb e => by
    have h1 := Heap.lt_size e
    have h2 : b < L := by
      rcases Nat.lt_or_ge b L with z | z
      · exact z
      · exact absurd (List.mem_filter.mpr ⟨List.mem_range.mpr h1, decide_eq_true z⟩) hb
    rw [cut_lt h2]; exact e
  have hch : ∀ b ∈ ch, L ≤ b := fun b hb => of_decide_eq_true (List.mem_filter.mp hb).2
  obtain ⟨m, ⟨o, es, ep, ho, r⟩, _⟩ := id I.loc
  have hoL : (cut s.heap L).get? X.env.locals = some o := by rw [cut_lt hl]; exact ho
  obtain ⟨sl, hL⟩ := u.any hoL I.free (List.not_mem_nil)
  refine I.step (ch := ch) (fun b hb => ⟨.inr (Nat.le_trans hsz (hch b hb)), Nat.ne_of_gt (Nat.lt_of_lt_of_le hl (hch b hb)), fun x c e => Nat.ne_of_lt (Nat.lt_of_lt_of_le (hc x c e) (hch b hb)), fun p hp' => Nat.ne_of_lt (Nat.lt_of_lt_of_le (hp p hp') (hch b hb))⟩)
    (fun b o h1 h2 h3 e n => ?_) (fun b o h1 h2 h3 e n => ?_) (fun b o h3 e n => ?_) (fun b o h3 e => ?_) u.tups u.frzs u.tbls (fun m' hm => ?_) hok hb
  · exact u.keep b o (nch b o h3 e) n (fun z => (List.mem_cons.mp (I.stkSub b z)).elim h1 h2) (List.not_mem_nil)
  · exact u.any (nch b o h3 e) n (List.not_mem_nil)
  · exact u.free b o (nch b o h3 e) n (List.not_mem_nil)
  · exact u.there b o (nch b o h3 e) (List.not_mem_nil)
  · obtain ⟨o', es', ep', ho', r'⟩ := hm
    rw [ho] at ho'; cases ho'
    exact ⟨_, es', ep', hL, r'⟩
end

/-! ### what a generator def promises -/
abbrev SpG := List D → List D → Prop
structure GScp (N ps : List Str) (sc : Scope) : Prop where
  kind : sc.kind = .function
  co : sc.isCoroutine = false
  gen : sc.isGenerator = true
  nd : N.Nodup
  pre : N.take ps.length = ps
  par : ∀ x ∈ ps, sc.names.lookup x = some .local
  noc : ∀ y ∈ sc.names, y.2 ≠ .cell ∧ y.2 ≠ .free
/-- a walked generator's words -/
abbrev mkGW (P : Program) (w : World) (K : PySem.W.Frag) (mg : Str → Option Value) (base : Heap) (N : List Str) (qual : Str) (sc : Scope) (f : Addr) (cdv : Value) (A : Around) (outer : List Env) (L a : Addr) (go : Obj) (items : List D) (J : Nat → Mu → Hp → Shared → Prop) : GW :=
  ⟨P, w, K, mg, base, N, qual, sc, f, cdv, A, outer, L, a, go, items, J⟩
structure GnG (P : Program) (w : World) (K : PySem.W.Frag) (mg : Str → Option Value) (base : Heap) (x : Str) (k : Nat) (s : SpG) : Prop where
  ex : ∃ (f : Addr) (fd : FuncData) (st : Stmt) (N ps : List Str), Fun K x x st f fd ∧ mg x = some (.ref f) ∧ Binds K fd ps [] ∧ GScp N ps (defScope st) ∧ (∀ ds items, s ds items → ds.length = ps.length) ∧
    ∀ (cdv : Value) (A : Around) (outer : List Env) (L a : Addr) (go : Obj) (items ds : List D) (J : Nat → Mu → Hp → Shared → Prop), s ds items → Room k (A.deeper (envOfC x (defScope st) L f cdv)) →
      (mkGW P w K mg base N x (defScope st) f cdv A outer L a go items J).Stat → (mkGW P w K mg base N x (defScope st) f cdv A outer L a go items J).JOk →
      GW.Cs (mkGW P w K mg base N x (defScope st) f cdv A outer L a go items J) (defBody st) items (startD N ds) fun ys _ => ys = []
/-- a generator def by its body -/
theorem gG {P : Program} {w : World} {K : PySem.W.Frag} {mg : Str → Option Value} {base : Heap} {x : Str} {st : Stmt} {N ps : List Str} {k : Nat} {s : SpG} (h : Df K mg x st ps) (S : GScp N ps (defScope st)) (len : ∀ ds items, s ds items → ds.length = ps.length)
    (body : ∀ (f : Addr) (cdv : Value) (A : Around) (outer : List Env) (L a : Addr) (go : Obj) (items ds : List D) (J : Nat → Mu → Hp → Shared → Prop), s ds items → Room k (A.deeper (envOfC x (defScope st) L f cdv)) →
      (mkGW P w K mg base N x (defScope st) f cdv A outer L a go items J).Stat → (mkGW P w K mg base N x (defScope st) f cdv A outer L a go items J).JOk →
      GW.Cs (mkGW P w K mg base N x (defScope st) f cdv A outer L a go items J) (defBody st) items (startD N ds) fun ys _ => ys = []) : GnG P w K mg base x (k + 1) s := by
  obtain ⟨f, fd, F, hm, hb⟩ := h.ex
  exact ⟨f, fd, st, N, ps, F, hm, hb, S, len, fun cdv A outer L a go items ds J h1 h2 => body f cdv A outer L a go items ds J h1 (h2.mono (Nat.le_succ _))⟩
theorem GnG.mono {P : Program} {w : World} {K : PySem.W.Frag} {mg : Str → Option Value} {base : Heap} {x : Str} {j k : Nat} {s : SpG} (h : GnG P w K mg base x j s) (hl : j ≤ k) : GnG P w K mg base x k s := by
  obtain ⟨f, fd, st, N, ps, F, hm, hb, S, len, body⟩ := h.ex
  exact ⟨f, fd, st, N, ps, F, hm, hb, S, len, fun cdv A outer L a go items ds J h1 h2 => body cdv A outer L a go items ds J h1 (h2.mono hl)⟩

/-- what a call of it gives -/
structure Made (N : List Str) (qual : Str) (sc : Scope) (body : List Stmt) (f : Addr) (cdv : Value) (vs : List V) (s : Shared) (L a : Addr) (g : Nat) (go oL : Obj) (s' : Shared) : Prop where
  hL : L = s.heap.objs.size
  ha : L < a
  hoL : s'.heap.get? L = some oL ∧ ∀ v, oL.data ≠ .cell v
  hgo : s'.heap.get? a = some go ∧ ∀ v, go.data ≠ .cell v
  cls : go.cls = .type "generator"
  data : ∃ nm qn, go.data = .fields #[.int g 0, nm, qn]
  slots : go.slots = #[]
  gens : s'.gens[g]? = some (.fresh (.func body (envOfC qual sc L f cdv)))
  os : s'.os = s.os
  bare : AllBare s'.gens
  kp : ∀ b o, s.heap.get? b = some o → s'.heap.get? b = some o
  loc : ∃ m, s'.heap.Ns L m ∧ ∀ (i : Nat) (x : Str) (v : V), N[i]? = some x → (L2.start N vs)[i]? = some (some v) → Vis sc x → ∃ u, RelV v u ∧ Look (envOfC qual sc L f cdv) s'.heap m x u
  len : (L2.start N vs).length = N.length
theorem made_gen {P : Program} {w : World} {K : PySem.W.Frag} {mg : Str → Option Value} {base : Heap} {A : Around} {outer : List Env} {s : Shared} {H : Hp} {f : Addr} {fd : FuncData} {x : Str} {st : Stmt} {N ps : List Str} {us : List Value} {vs : List V}
    (F : Fun K x x st f fd) (S : GScp N ps (defScope st)) (e0 : Env0 P w K mg base A outer s H) (hd : A.handled = none) (hroom : A.depth < recursionLimit) (hb : Binds K fd ps []) (r : Vals vs us) (hl : vs.length = ps.length) :
    codeAny (model P w) A (.call (.ref f) ⟨us, []⟩) (fun r s' => match r with | .ok (.ret u) => ∃ cdv L a g go oL, u = .ref a ∧ Made N x (defScope st) (defBody st) f cdv vs s L a g go oL s' | _ => False) s := by
  obtain ⟨oc, od, kV, doc, pm, an, cdv, ct, osl, rfl, lk, hcd⟩ := F.ex
  have KX : K.In s.heap := e0.mod.kin.keeps fun b o e => (e0.bs b o e).1
  have lim : s.heap.NoLimit := e0.mod.nolimit.keeps fun b o e => (e0.bs b o e).1
  have gsc : GScope N ps (defScope st) := ⟨S.kind, S.co, S.gen, S.nd, S.pre, fun x hx => .inl (S.par x hx), fun y hy => (S.noc y hy).2⟩
  have hkind : ∀ y ∈ ps.zip us, (defScope st).names.lookup y.1 = some .local ∨ ((defScope st).names.lookup y.1 = some .cell ∧ ((cellsFrom (s.heap.objs.size + 1) (defScope st).names []).lookup y.1).isSome = true) := fun ⟨n, v⟩ hy =>
    .inl (S.par n (List.of_mem_zip hy).1)
  have hlu : (us ++ []).length = ps.length := by rw [List.append_nil, ← r.length]; exact hl
  have hbb := hb s us KX hlu
  rw [List.append_nil] at hbb
  refine codeAny_call_generator hroom (KX _ _ lk) rfl S.co S.gen rfl (PySem.W.codeRec_of KX hcd) (hbb _ _ _ _ ?_)
  refine wpAny_newFunctionEnv_cells S.kind hkind fun env he s1 xx => ?_
  subst he
  have I1 : Inv (gcxOf P w K mg base N x (defScope st) f cdv A outer s H (fun _ _ _ => False) []) [] (L2.start N vs) H s1 := inv_startG gsc hd e0 hl r xx
  have kp1 : ∀ b o, s.heap.get? b = some o → s1.heap.get? b = some o := xx.toInCall.keep
  refine ⟨lim.keeps kp1, ?_⟩
  obtain ⟨h1, tk, es1, hk1⟩ := xx.done
  obtain ⟨mm, hn, hloc⟩ := I1.loc
  obtain ⟨oL, es, ep, hoL, hdL, hrr⟩ := id hn
  have fin : ∀ (go : Obj) (nm qn : Value) (tk2 : Nat), go.cls = .type "generator" → go.data = .fields #[.int s1.gens.size 0, nm, qn] → go.slots = #[] → (∀ h : Heap, (h.push go).get? h.objs.size = some go) →
      Made N x (defScope st) (defBody st) f cdv vs s s.heap.objs.size s1.heap.objs.size s1.gens.size go oL { s1 with gens := s1.gens.push (.fresh (.func (defBody st) (envOfC x (defScope st) s.heap.objs.size f cdv))), toks := tk2, heap := s1.heap.push go } := by
    intro go nm qn tk2 h1 h2 h3 h4
    have kp2 : ∀ b o, s1.heap.get? b = some o → (s1.heap.push go).get? b = some o := fun b o e => Heap.get?_push_of_some _ e
    refine ⟨rfl, xx.toInCall.ns.lt, ⟨kp2 _ _ hoL, fun v z => by rw [hdL] at z; cases z⟩, ⟨h4 _, fun v z => by rw [h2] at z; cases z⟩, h1, ⟨nm, qn, h2⟩, h3, Array.getElem?_push_size .., by rw [es1], AllBare.push I1.bare rfl, fun b o e => kp2 b o (kp1 b o e),
      ⟨mm, hn.at' (h' := s1.heap.push go) fun o e => kp2 _ _ e, fun i y v e1 e2 e3 => ?_⟩, I1.len⟩
    obtain ⟨u, ru, l⟩ := hloc i y v e1 e2 e3
    refine ⟨u, ru, ?_⟩
    rcases l with l | ⟨_, c, e, _⟩
    · exact .inl l
    · exact (GW.nocells S.noc e).elim
  exact ⟨cdv, _, _, _, _, oL, rfl, fin _ _ _ _ rfl rfl rfl fun h => Heap.get?_push_size h (by first | rfl | decide)⟩

/-! ### for -/
section
variable {c : Ctx} {e : Expr} {es : List Expr} {Δ : Sl} {μ : Mu} {pos p pos1 : PySem.Pos} {E : DE} {x : Str} {k : Nat} {s : SpG} {tg : Expr} {body : List Stmt} {g : TGD}
/-- the turns -/
def ForG (c : Ctx) (g : TGD) (body : List Stmt) (E : DE) (Δ : Sl) (ds : List D) (m : Mu) : Prop := ∃ I : Nat → Sl → Mu → Prop, I 0 Δ m ∧
  (∀ i d Δ' m', ds[i]? = some d → I i Δ' m' → ∃ Δ2, g d Δ' = some Δ2 ∧ CSs c.nox body Δ2 m' { E with nx := I (i + 1), ct := I (i + 1), bk := E.nx, ex := noX }) ∧ (∀ Δ' m', I ds.length Δ' m' → E.nx Δ' m')
/-- what the loop knows between two turns -/
def JG (X : Cx) (pins : List (Addr × Obj)) (N : Nat) (L : Nat) (μ1 : Mu) (H1 : Hp) (I : Nat → Sl → Mu → Prop) (n : Nat) (m : Mu) (H : Hp) (s : Shared) : Prop :=
  ∃ i Δ σ, i + n = N ∧ Inv X pins σ H s ∧ OkS X.K m H σ Δ ∧ Evo X.K μ1 H1 m H ∧ I i Δ m ∧ L ≤ s.heap.objs.size
def tForG (c : Ctx) (g : TGD) (body : List Stmt) (E : DE) (s : SpG) (as : List Expr) : TS := fun Ev σ H => wA c.X as σ H fun vs H1 => ∃ ds m items Δ, OkS c.K m H1 σ Δ ∧ HS c.K m H1 ∧ Dts c.K m H1 vs ds ∧ s ds items ∧ Sim c m H1 E Ev ∧ ForG c g body E Δ items m
theorem ps_forG (T : GnG c.X.prog c.X.w c.K c.X.mg c.X.base x k s) (hr : Room (k + 2) c.X.A) (hcalm : c.X.calm = true) (hg : CG c.nox tg g) (hgl : Gl c.X x) (hdb : (x == ("__debug__" : Str)) = false)
    (he : starEach (e :: es) c.X.env = (false, eval e c.X.env) :: starEach es c.X.env) (hpl : (backTo pos1 (starEach es c.X.env)).any (·.1) = false) (hs : ∀ y, foldedSetIterable (.Call (.Name x p) (e :: es) [] pos1) c.X.env y = pure y) :
    PS c.X (.For tg (.Call (.Name x p) (e :: es) [] pos1) body [] pos) (tForG c g body E s (e :: es)) := by
  refine ⟨fun pins s0 σ H Ev I0 hw => ?_⟩
  obtain ⟨f, fd, st, N, ps, Fu, hm, hb, S, len, gb⟩ := T.ex
  have hdp : c.X.A.depth < recursionLimit := by have := hr.dp; omega
  refine wpAny_For (wpAny_Call_Name_kw (ld_glob I0 hgl hm ?_ hdb)) hs
  refine PySem.W.callWith_K (h₀ := c.X.base) I0.ok.mod.kin Fu.kp (thn (pa_w.run pos1 pins s0 σ H _ I0 hw) fun us s1 ⟨vs, H1, I1, r, ds, m1, items, Δ, ok1, hs1, t1, sp, sim, Iv, iv0, ivs, ive⟩ => ⟨I1.kIn, ?_⟩) he hpl
  have hl : vs.length = ps.length := t1.length.trans (len _ _ sp)
  rw [List.nil_append]
  refine wpAny_call (codeAny_mono (made_gen Fu S I1.env0 (I0.ok.hd hcalm) hdp hb r hl) fun rr s2 hq => ?_)
  cases rr with
  | error e => exact hq.elim
  | ok fl =>
    cases fl with
    | next => exact hq.elim
    | brk => exact hq.elim
    | cont => exact hq.elim
    | ret u =>
      obtain ⟨cdv, L, a, gn, go, oL, rfl, M⟩ := hq
      have hL : L = s1.heap.objs.size := M.hL
      have I2 : Inv c.X pins σ H1 s2 := I1.call' (ch := []) M.os (Un.kept M.kp) (I1.hok.kept M.kp) M.bare fun b z => absurd z (List.not_mem_nil)
      have isg : ∀ {h : Heap}, h.get? a = some go → h.IsGen a gn := fun {h} e => let ⟨nm, qn, hd⟩ := M.data; ⟨go, nm, qn, e, M.cls, hd, M.slots⟩
      refine wpAny_pyIter_gen (isg M.hgo.1) ?_
      -- the words of the walk
      let J : Nat → Mu → Hp → Shared → Prop := JG c.X pins items.length L m1 H1 Iv
      let G : GW := mkGW c.X.prog c.X.w c.K c.X.mg c.X.base N x (defScope st) f cdv c.X.A.in1 c.X.stack L a go items J
      have szL : c.X.s_0.heap.objs.size ≤ L := by rw [hL]; exact I1.sz
      have locL : c.X.env.locals < L := by rw [hL]; exact I1.lt
      have celL : ∀ y cc, c.X.env.cells.lookup y = some cc → cc < L := fun y cc e => by
        obtain ⟨v, q⟩ := I1.cell y cc e
        rw [hL]; exact q.lt
      have pinL : ∀ q ∈ c.X.pn ++ pins, q.1 < L := fun q hq => by rw [hL]; exact Heap.lt_size (I1.pin q hq).1
      have frsL : ∀ b ∈ frs c.X.stack, b < L := fun b hb => by
        rcases List.mem_cons.mp (I1.stkSub b hb) with z | z
        · rw [z]; exact locL
        · obtain ⟨_, o, ho, _⟩ := I1.funs.mem z
          rw [hL]; exact Heap.lt_size ho
      have stat : G.Stat := ⟨I0.ok.mod, by show c.X.base.objs.size ≤ L; exact Nat.le_trans I0.ok.bsz szL, S.kind, S.noc, I0.ok.hd hcalm, I0.ok.frames, frsL⟩
      have jok : G.JOk := ⟨fun n m H s ⟨_, _, _, _, _, _, _, _, q⟩ => q, fun n m H s ⟨_, _, _, _, q, _⟩ => q.bare, fun n m H s ⟨_, _, _, _, q, _⟩ => q.bs, fun n m H s ⟨_, _, _, _, q, _⟩ => q.stack, fun n m H s ⟨_, _, _, _, q, _⟩ => q.stkFree, fun n m H s ⟨_, _, _, _, q, _⟩ => q.hok⟩
      have back : ∀ {σ' : L2.St} {H₀ H₁ : Hp} {t₀ t₁ : Shared}, Inv c.X pins σ' H₀ t₀ → G.Mid t₀ H₀ t₁ H₁ → Inv c.X pins σ' H₁ t₁ := fun {σ' H₀ H₁ t₀ t₁} I M => Inv.back I M.os M.bare M.un M.hok szL locL celL pinL
      have hroomG : Room k (G.A.deeper (envOfC x (defScope st) L f cdv)) := (hr.in1).deeper _
      have hLsz2 : L ≤ s2.heap.objs.size := Nat.le_of_lt (Heap.lt_size M.hoL.1)
      have hH1L : ∀ b, L ≤ b → H1 b = none := fun b hb => I1.hok.fresh (by rw [← hL]; exact hb)
      have young : ∀ b, L ≤ b → b ∉ frs c.X.stack := fun b hb z => absurd (Nat.lt_of_lt_of_le (frsL b z) hb) (Nat.lt_irrefl _)
      have fsS : ∀ b ∈ c.X.fs, b ∈ frs c.X.stack := fun b z => by
        rcases I1.ok.stk with w | ⟨w, hf⟩
        · rw [w]; exact z
        · rw [w]; unfold frs; rw [List.filterMap_cons, hf]; exact List.mem_cons_of_mem _ z
      -- the first wake
      have j0 : ∀ {t : Shared}, Inv c.X pins σ H1 t → L ≤ t.heap.objs.size → J items.length m1 H1 t := fun {t} I hl => ⟨0, Δ, σ, by omega, I, ok1, Evo.refl hs1, iv0, hl⟩
      have goes0 : ∃ gs, s2.gens[gn]? = some gs ∧ gs.Goes (model c.X.prog c.X.w) c.X.A.in1 G.R G.Y (items.length + 1) (.send .none) (s2.setGen gn .running) := by
        refine ⟨_, M.gens, rfl, ?_⟩
        refine seg_func ?_
        have I3 : Inv c.X pins σ H1 (s2.setGen gn .running) := Inv.regen I2 (allBare_setGen I2.bare rfl)
        have pv : G.Priv [(L, oL), (a, go)] H1 (s2.setGen gn .running) := fun q hq => by
          rcases List.mem_cons.mp hq with z | z
          · subst z; exact ⟨M.hoL.1, hH1L _ (Nat.le_refl _), young _ (Nat.le_refl _), Nat.le_refl _, M.hoL.2⟩
          · have z : q = (a, go) := List.mem_singleton.mp z
            subst z; exact ⟨M.hgo.1, hH1L _ (Nat.le_of_lt M.ha), young _ (Nat.le_of_lt M.ha), Nat.le_of_lt M.ha, M.hgo.2⟩
        have J0 : J items.length m1 H1 (s2.setGen gn .running) := j0 I3 hLsz2
        have rest : G.Rest [(a, go)] (L2.start N vs) (s2.setGen gn .running) := ⟨M.loc, fun q hq => by
          have z : q = (a, go) := List.mem_singleton.mp hq
          subst z; exact ⟨Nat.ne_of_gt M.ha, M.hgo.2⟩, M.len⟩
        have IG := GW.wake stat jok J0 rest (pr := [(L, oL), (a, go)]) (fun o ho => by
          have ho : s2.heap.get? L = some o := ho
          rw [M.hoL.1] at ho; cases ho; exact List.mem_cons_self) (fun q hq => List.mem_cons_of_mem _ hq) pv
        refine gb cdv c.X.A.in1 c.X.stack L a go items ds J sp hroomG stat jok m1 H1 [(a, go)] _ [] _ _ id id _ _ m1 H1 H1 (L2.start N vs) ⟨GenW.over_func, rfl, rfl, rfl, List.mem_singleton.mpr rfl, fun q hq => ?_⟩ ⟨[], rfl⟩ ⟨J0, Evo.refl hs1, Evo.refl hs1, IG, ok_start t1⟩ ?_
        · have z : q = (a, go) := List.mem_singleton.mp hq
          subst z; exact Nat.le_of_lt M.ha
        · intro ys Δ4 t0 t1 m4 H₀4 H4 σ4 suf a4 hy
          subst hy
          exact seg_end (.ok (.ret .none)) (.inl ⟨.inl rfl, rfl, m4, H₀4, H4, a4.j, a4.e, GW.mid a4.inv⟩)
      -- the loop
      obtain ⟨tt, pg, ht⟩ := hg.ex
      refine codeAny_forLoop_any (fun n t => ∃ i m H Δ' σ', n = items.length - i ∧ i ≤ items.length ∧ Inv c.X pins σ' H t ∧ OkS c.K m H σ' Δ' ∧ Evo c.K m1 H1 m H ∧ Iv i Δ' m ∧ L ≤ t.heap.objs.size ∧ t.heap.get? a = some go ∧
        ∃ gs, t.gens[gn]? = some gs ∧ gs.Goes (model c.X.prog c.X.w) c.X.A.in1 G.R G.Y (items.length - i + 1) (.send .none) (t.setGen gn .running)) ?_ items.length
        ⟨0, m1, H1, Δ, σ, by omega, Nat.zero_le _, I2, ok1, Evo.refl hs1, iv0, hLsz2, M.hgo.1, goes0⟩
      rintro n t ⟨i, m, H, Δ', σ', rfl, hi, It, okt, et, ivi, hLt, hgo, gs, hgs, goes⟩
      refine GenW.wpAny_gsz (n := gn + 1) (Array.getElem?_eq_some_iff.mp hgs).1 (next_genG (F := G.F) (Er := fun _ _ => False) (I0.ok.hd hcalm) It.nolimit hdp (isg hgo) hgs goes (fun v t1 gs' hbare hY => ?_) (fun t1 hF h' hk => ?_) (fun e s₁ z => z.elim))
      · -- an item
        intro hsz
        have hY : G.Y (items.length - i) (t.setGen gn .running) v t1 (fun r' s'' => gs'.Goes (model c.X.prog c.X.w) c.X.A.in1 G.R G.Y (items.length - i) r' s'') := hY
        obtain ⟨m5, H5, H6, xv, d, pr, pre, post, hk, hit, ⟨i5, Δ5, σ5, hi5, I5, ok5, e5, iv5, hL5⟩, rv, dt, e6, mid, hpr, pv, kap⟩ := hY
        have hit : items = pre ++ d :: post := hit
        have hlen : items.length = pre.length + (post.length + 1) := by rw [hit]; simp
        have ei : i5 = pre.length := by omega
        have hd : items[i5]? = some d := by rw [hit, ei]; simp
        have hi' : i5 = i := by omega
        subst hi'
        have I6 : Inv c.X pins σ5 H6 t1 := back I5 mid
        have I7 : Inv c.X pins σ5 H6 (t1.setGen gn gs') := Inv.regen I6 (allBare_setGen I6.bare hbare)
        obtain ⟨Δ2, hg2, hbody⟩ := ivs _ d Δ5 m5 hd iv5
        obtain ⟨nm, qn, hdat⟩ := M.data
        refine go_of (o := go) (n := "generator") (pv _ hpr).1 M.cls hdat (by decide) ?_
        have I8 : Inv c.X (pins ++ pr) σ5 H6 (t1.setGen gn gs') := I7.pins_of fun q hq => by
          rcases List.mem_append.mp hq with z | z
          · exact I7.pin q (List.mem_append_right _ z)
          · obtain ⟨q1, q2, q3, q4, q5⟩ := pv q z
            exact ⟨q1, q2, Nat.ne_of_gt (Nat.lt_of_lt_of_le locL q4), fun z => q3 (fsS _ z), q5⟩
        -- the target
        have Ig : Inv c.X.nox (pins ++ pr) σ5 H6 { (t1.setGen gn gs') with gens := (t1.setGen gn gs').gens.map GF.slp } := (Inv.regen I8 (GF.bare_slp I8.bare)).wish _
        have q1 := ht xv d σ5 H6 Δ5 Δ2 m5 (fun σ' H'' => H'' = H6 ∧ OkS c.K m5 H6 σ' Δ2) (ok5.evo e6) dt hg2 fun σ' o => ⟨rfl, o⟩
        refine wpAny_mono (GF.locked (pg.run _ _ σ5 H6 xv v _ Ig rv q1)) (fun _ t2 ⟨g2, et2, rl2, kp2, σ6, H7, I9, hH7, ok6⟩ => ?_) fun _ _ ⟨_, _, _, _, z⟩ => z.elim
        subst hH7
        have I10 : Inv c.X (pins ++ pr) σ6 H7 t2 := by rw [et2]; exact Inv.regen I9.unwish (rl2.bare I9.bare)
        -- the body
        have Ig2 : Inv c.X.nox (pins ++ pr) σ6 H7 { t2 with gens := t2.gens.map GF.slp } := (Inv.regen I10 (GF.bare_slp I10.bare)).wish _
        have e7 : Evo c.K m1 H1 m5 H7 := e5.trans e6
        have simn : Sim c.nox m5 H7 { E with nx := Iv (i5 + 1), ct := Iv (i5 + 1), bk := E.nx, ex := noX } { nx := fun σ' H' => ∃ Δ' m', Evo c.K m5 H7 m' H' ∧ OkS c.K m' H' σ' Δ' ∧ Iv (i5 + 1) Δ' m', rt := Ev.rt, bk := Ev.nx, ct := fun σ' H' => ∃ Δ' m', Evo c.K m5 H7 m' H' ∧ OkS c.K m' H' σ' Δ' ∧ Iv (i5 + 1) Δ' m' } :=
          ⟨fun σ' Δ' m' H' e o q => ⟨Δ', m', e, o, q⟩, (sim.rt.evo e7), fun σ' Δ' m' H' e o q => sim.nx _ _ _ _ (e7.trans e) o q, fun σ' Δ' m' H' e o q => ⟨Δ', m', e, o, q⟩, fun _ _ _ _ _ _ _ _ _ _ _ z => z.elim⟩
        have q2 := hbody σ6 H7 ok6 e6.s _ simn
        refine wpAny_mono (GF.locked ((pss_w (X := c.X.nox)).run _ _ σ6 H7 _ Ig2 q2)) (fun fl t3 ⟨g3, et3, rl3, kp3, q3⟩ => ?_) fun _ _ ⟨_, _, _, _, z⟩ => z.elim
        have up : ∀ {σ' : L2.St} {H' : Hp}, Inv c.X.nox (pins ++ pr) σ' H' g3 → Inv c.X (pins ++ pr) σ' H' t3 := fun {σ' H'} I => by rw [et3]; exact Inv.regen I.unwish (rl3.bare I.bare)
        have again : ∀ {σ' : L2.St} {H' : Hp}, Inv c.X (pins ++ pr) σ' H' t3 → (∃ Δ' m', Evo c.K m5 H7 m' H' ∧ OkS c.K m' H' σ' Δ' ∧ Iv (i5 + 1) Δ' m') → ∃ n', n' < items.length - i5 ∧ ∃ i m H Δ' σ', n' = items.length - i ∧ i ≤ items.length ∧ Inv c.X pins σ' H t3 ∧ OkS c.K m H σ' Δ' ∧ Evo c.K m1 H1 m H ∧ Iv i Δ' m ∧ L ≤ t3.heap.objs.size ∧ t3.heap.get? a = some go ∧
            ∃ gs, t3.gens[gn]? = some gs ∧ gs.Goes (model c.X.prog c.X.w) c.X.A.in1 G.R G.Y (items.length - i + 1) (.send .none) (t3.setGen gn .running) := fun {σ' H'} I ⟨Δ8, m8, e8, o8, iv8⟩ => by
          have pv8 : G.Priv pr H' t3 := fun q hq => by
            obtain ⟨w1, w2, _, _, w5⟩ := I.pin q (List.mem_append_right _ (List.mem_append_right _ hq))
            exact ⟨w1, w2, (pv q hq).2.2.1, (pv q hq).2.2.2.1, w5⟩
          have ga : t3.heap.get? a = some go := (pv8 _ hpr).1
          have hL8 : L ≤ t3.heap.objs.size := Nat.le_trans (Nat.le_of_lt M.ha) (Nat.le_of_lt (Heap.lt_size ga))
          have I9' : Inv c.X pins σ' H' t3 := I.unpinned
          have j8 : J post.length m8 H' (t3.setGen gn .running) := ⟨i5 + 1, Δ8, σ', by omega, Inv.regen I9' (allBare_setGen I9'.bare rfl), o8, e7.trans e8, iv8, hL8⟩
          have k1 := kap m8 H' (t3.setGen gn .running) (.send .none) (.inl rfl) j8 e8 pv8
          have k2 := kap m8 H' (t3.setGen gn .running) (.send (.bool true)) (.inr rfl) j8 e8 pv8
          refine ⟨items.length - (i5 + 1), by omega, i5 + 1, m8, H', Δ8, σ', rfl, by omega, I9', o8, e7.trans e8, iv8, hL8, ga, gs', ?_, ?_⟩
          · have e1 : (t1.setGen gn gs').gens[gn]? = some gs' := setGen_at (by
              have q : (t1.setGen gn gs').gens.size = t1.gens.size := GenW.setGen_size _ _ _
              omega)
            have hs : GF.isS gs' = true := by
              cases gs' with
              | fresh cc => obtain ⟨z, _⟩ := k2; cases z
              | suspended => rfl
              | running => exact k1.elim
              | finished => exact k1.elim
            have e2 := kp2 gn ⟨gs', e1, hs⟩
            have e2' : t2.gens[gn]? = some gs' := e2.trans e1
            exact (kp3 gn ⟨gs', e2', hs⟩).trans e2'
          · have e : items.length - (i5 + 1) + 1 = items.length - i5 := by omega
            rw [e]; exact k1
        cases fl with
        | next => obtain ⟨σ', H', I, q⟩ := q3; exact again (up I) q
        | cont => obtain ⟨σ', H', I, q⟩ := q3; exact again (up I) q
        | brk => obtain ⟨σ', H', I, q⟩ := q3; exact ⟨σ', H', (up I).unpinned, q⟩
        | ret u => obtain ⟨v', σ', H', I, rv', q⟩ := q3; exact ⟨v', σ', H', (up I).unpinned, rv', q⟩
      · -- the end
        intro _
        obtain ⟨hn, m5, H5, H6, ⟨i5, Δ5, σ5, hi5, I5, ok5, e5, iv5, hL5⟩, e6, mid⟩ := hF
        have hi' : i5 = items.length := by omega
        subst hi'
        have I6 : Inv c.X pins σ5 H6 t1 := back I5 mid
        have I7 : Inv c.X pins σ5 H6 (t1.setGen gn .finished) := Inv.regen I6 (allBare_setGen I6.bare rfl)
        have I8 := I7.kept (h' := h') (t' := (t1.setGen gn .finished).toks) hk
        exact wpAny_execs_nil ⟨σ5, H6, I8, sim.nx _ _ _ _ (e5.trans e6) (ok5.evo e6) (ive _ _ iv5)⟩
theorem CS.forG (T : GnG c.X.prog c.X.w c.K c.X.mg c.X.base x k s) (hr : Room (k + 2) c.X.A) (hcalm : c.X.calm = true) (hg : CG c.nox tg g)
    (h : CA c (e :: es) Δ μ (fun ds m => ∃ items, s ds items ∧ ForG c g body E Δ items m) E.ex) (hgl : Gl c.X x := by rfl) (hdb : (x == ("__debug__" : Str)) = false := by decide)
    (he : starEach (e :: es) c.X.env = (false, eval e c.X.env) :: starEach es c.X.env := by rfl) (hpl : (backTo pos1 (starEach es c.X.env)).any (·.1) = false := by rfl) (hs : ∀ y, foldedSetIterable (.Call (.Name x p) (e :: es) [] pos1) c.X.env y = pure y := by intro _; rfl) :
    CS c (.For tg (.Call (.Name x p) (e :: es) [] pos1) body [] pos) Δ μ E := fun σ H ok hs' Ev S =>
  ⟨_, ps_forG (E := E) T hr hcalm hg hgl hdb he hpl hs, h σ H ok hs' _ (fun vs ds m H' ev t ⟨items, sp, fg⟩ => ⟨ds, m, items, Δ, ok.evo ev, ev.s, t, sp, S.evo ev, fg⟩) (S.want ok)⟩
/-- .. turn by turn, by an invariant -/
theorem ForG.inv {items : List D} {m : Mu} (I : Nat → Sl → Mu → Prop) (h0 : I 0 Δ m) (h1 : ∀ i d Δ' m', items[i]? = some d → I i Δ' m' → ∃ Δ2, g d Δ' = some Δ2 ∧ CSs c.nox body Δ2 m' { E with nx := I (i + 1), ct := I (i + 1), bk := E.nx, ex := noX })
    (h2 : ∀ Δ' m', I items.length Δ' m' → E.nx Δ' m') : ForG c g body E Δ items m := ⟨I, h0, h1, h2⟩
/-- .. by what is left -/
theorem ForG.suf {items : List D} {m : Mu} (I : List D → Sl → Mu → Prop) (h0 : I items Δ m) (h1 : ∀ d r Δ' m', d ∈ items → I (d :: r) Δ' m' → ∃ Δ2, g d Δ' = some Δ2 ∧ CSs c.nox body Δ2 m' { E with nx := I r, ct := I r, bk := E.nx, ex := noX })
    (h2 : ∀ Δ' m', I [] Δ' m' → E.nx Δ' m') : ForG c g body E Δ items m := by
  refine ⟨fun i Δ' m' => I (items.drop i) Δ' m', h0, fun i d Δ' m' hd hI => ?_, fun Δ' m' hI => ?_⟩
  · have hl := (List.getElem?_eq_some_iff.mp hd).1
    have e : items.drop i = d :: items.drop (i + 1) := by
      rw [List.drop_eq_getElem_cons hl, (List.getElem?_eq_some_iff.mp hd).2]
    simp only [e] at hI
    exact h1 d _ Δ' m' (List.mem_of_getElem? hd) hI
  · simp only [List.drop_length] at hI
    exact h2 _ _ hI
end
theorem CSs.mid {c : Ctx} {st : Stmt} {sts : List Stmt} {Δ : Sl} {μ : Mu} {E : DE} (P : Sl → Mu → Prop) (h : CS c st Δ μ { E with nx := P }) (k : ∀ Δ' m, P Δ' m → CSs c sts Δ' m E) : CSs c (st :: sts) Δ μ E := by
  intro σ H ok hs Ev S
  refine ⟨_, pss_cons ps_w pss_w, ?_⟩
  exact h σ H ok hs { Ev with nx := wSs c.X sts Ev } ⟨fun σ' Δ' m H' e o q => k _ _ q σ' H' o e.s Ev (S.evo e), S.rt, S.bk, S.ct, S.ex⟩
end AM

set_option autoImplicit false
set_option maxRecDepth 100000
set_option maxHeartbeats 1000000
/-! sorted over plain data of one kind. -/
namespace AM
open PySem L2 PySem.Spec PyProof.Rows
open PySem.W (EachIs AllAlike Sortable dataLe)

def rSortD (K : PySem.W.Frag) : List V → Hp → VK → Prop := fun vs H Q => ∃ (a : Addr) (bs : List (V × PyData)), vs = [V.ref a] ∧ SqL K H a (bs.map (·.1)) ∧ (∀ b ∈ bs, L2.Dp K H b.1 b.2) ∧ AllAlike (bs.map (·.2)) ∧ Sortable (bs.map (·.2)) ∧ (∀ b ∈ bs, b.2.depth ≤ 40) ∧
  ∀ p, H p = none → Q (.ref p) (upd H p (.lst ((bs.mergeSort (dataLe false (·.2))).map (·.1))))
theorem each_vals : ∀ {bs : List (V × PyData)} {its : List Value}, Vals (bs.map (·.1)) its → EachIs (fun v (b : V × PyData) => RelV b.1 v) its bs
  | [], _, .nil => .nil
  | _ :: _, _, .cons a r => .cons a (each_vals r)
theorem vals_each : ∀ {bs : List (V × PyData)} {its : List Value}, EachIs (fun v (b : V × PyData) => RelV b.1 v) its bs → Vals (bs.map (·.1)) its
  | [], _, .nil => .nil
  | _ :: _, _, .cons a r => .cons a (vals_each r)
theorem each_mem {R R' : Value → V × PyData → Prop} : ∀ {bs : List (V × PyData)} {its : List Value}, (∀ v b, b ∈ bs → R v b → R' v b) → EachIs R its bs → EachIs R' its bs
  | [], _, _, .nil => .nil
  | _ :: _, _, k, .cons a r => .cons (k _ _ List.mem_cons_self a) (each_mem (fun v b hb => k v b (List.mem_cons_of_mem _ hb)) r)
theorem cr_sortD {X : Cx} (hu : X.A.units + 64 < cLine) : CallR X (.builtin "sorted") (rSortD X.K) := by
  intro pins s σ H vs us Q I r h
  obtain ⟨a, bs, rfl, hs, hd, hal, hk, hdp, q⟩ := h
  obtain ⟨its, rv, hl, hz⟩ := I.list hs
  obtain ⟨u, rfl, ru⟩ := vals1 r
  obtain rfl : u = Value.ref a := ru
  have e := each_vals rv
  have hz' : bs.length ≤ sizeLine := by
    have := rv.length
    rw [List.length_map] at this hz
    exact hz
  refine PySem.W.sorted_data (R := fun v (b : V × PyData) => RelV b.1 v) (enc := fun b : V × PyData => b.2) (bs := bs) hl.isList e (each_mem (fun v b hb hr => L2.Dp.reads I _ _ _ (hd b hb) hr) e) hal hk hz' (fun b hb => ?_) fun out hlen hout => ?_
  · have := hdp b hb
    omega
  · obtain ⟨n, hn⟩ := sortedAll_at s.heap its (List.toArray out)
    refine ⟨.ref (s.heap.objs.size + 1), upd H (s.heap.objs.size + 1) (.lst ((bs.mergeSort (dataLe false (·.2))).map (·.1))), I.laid (t' := s.toks) (fun b o z => sortedAll_old z) (Nat.le_succ _) ⟨?_, out, n, vals_each hout, hn⟩, rfl, q _ (I.hok.fresh (Nat.le_succ _))⟩
    rw [List.length_map, List.length_mergeSort]
    exact hz'

/-! ### of data -/
def sortD (ds : List D) : List D := ds.mergeSort (dataLe false D.py)
theorem sortD_perm {ds : List D} : (sortD ds).Perm ds := List.mergeSort_perm _ _
theorem dts_zip {K : PySem.W.Frag} {m : Mu} {H : Hp} : ∀ {xs : List V} {ds : List D}, Dts K m H xs ds → ∃ cs : List (V × D), cs.map (·.1) = xs ∧ cs.map (·.2) = ds ∧ ∀ c ∈ cs, Dt K m H c.1 c.2
  | _, _, .nil => ⟨[], rfl, rfl, fun _ h => by cases h⟩
  | _, _, .cons (v := x) (d := d) a r => by
    obtain ⟨cs, h1, h2, h3⟩ := dts_zip r
    exact ⟨(x, d) :: cs, by rw [List.map_cons, h1], by rw [List.map_cons, h2], fun c hc => by
      rcases List.mem_cons.mp hc with rfl | hc
      · exact a
      · exact h3 c hc⟩
theorem dts_unzip {K : PySem.W.Frag} {m : Mu} {H : Hp} : ∀ {cs : List (V × D)}, (∀ c ∈ cs, Dt K m H c.1 c.2) → Dts K m H (cs.map (·.1)) (cs.map (·.2))
  | [], _ => .nil
  | c :: r, h => .cons (h c List.mem_cons_self) (dts_unzip fun c hc => h c (List.mem_cons_of_mem _ hc))
section
variable {c : Ctx} {e : Expr} {Δ : Sl} {μ : Mu} {Q : D → Mu → Prop} {Ex : XD} {p pos : Pos}
/-- sorted(xs) -/
theorem CE.sortD (hu : c.X.A.units + 64 < cLine) (hm : c.X.mg "sorted" = none) (h : CE c e Δ μ (fun d m => ∃ ds, LstD m d ds ∧ (∀ d ∈ ds, d.isPy = true ∧ d.py.depth ≤ 40) ∧ AllAlike (ds.map D.py) ∧ Sortable (ds.map D.py) ∧ Q (.lst (sortD ds)) m) Ex) (hg : Gl c.X "sorted" := by rfl)
    (he : starEach [e] c.X.env = (false, eval e c.X.env) :: starEach [] c.X.env := by rfl) (hpl : (backTo pos (starEach [] c.X.env)).any (·.1) = false := by rfl) : CE c (.Call (.Name "sorted" p) [e] [] pos) Δ μ Q Ex :=
  CE.cb (cr_sortD hu) hm (by decide +kernel) (CA.cons (h.imp fun d m ⟨ds, hs, hp, hal, hk, q⟩ => CA.nil fun vs H QV hH t hQ => by
    cases t with
    | cons t1 r =>
      cases r
      obtain ⟨l, xs, z, hq, h2⟩ := hs.at hH t1
      subst z
      obtain ⟨cs, c1, c2, c3⟩ := dts_zip h2
      have e1 : (cs.map fun c => (c.1, c.2.py)).map (·.1) = xs := by rw [List.map_map]; exact c1
      have e2 : (cs.map fun c => (c.1, c.2.py)).map (·.2) = ds.map D.py := by rw [List.map_map, ← c2, List.map_map]; rfl
      have e3 : ((cs.map fun c => (c.1, c.2.py)).mergeSort (dataLe false (·.2))) = (cs.mergeSort (dataLe false fun c => c.2.py)).map fun c => (c.1, c.2.py) := (List.map_mergeSort (r := dataLe false fun c : V × D => c.2.py) (s := dataLe false fun b : V × PyData => b.2) (f := fun c : V × D => (c.1, c.2.py)) (fun _ _ _ _ => rfl)).symm
      have e4 : (cs.mergeSort (dataLe false fun c => c.2.py)).map (·.2) = AM.sortD ds := by
        unfold AM.sortD
        rw [← c2]
        exact List.map_mergeSort (r := dataLe false fun c : V × D => c.2.py) (s := dataLe false D.py) (f := fun c : V × D => c.2) (fun _ _ _ _ => rfl)
      have hm1 : ∀ c ∈ cs, c.2 ∈ ds := fun c hc => by rw [← c2]; exact List.mem_map.mpr ⟨c, hc, rfl⟩
      refine ⟨l, cs.map fun c => (c.1, c.2.py), rfl, by rw [e1]; exact hq, fun b hb => ?_, by rw [e2]; exact hal, by rw [e2]; exact hk, fun b hb => ?_, fun n hn => ?_⟩
      · obtain ⟨c, hc, rfl⟩ := List.mem_map.mp hb
        exact (c3 c hc).dp (hp _ (hm1 c hc)).1
      · obtain ⟨c, hc, rfl⟩ := List.mem_map.mp hb
        exact (hp _ (hm1 c hc)).2
      · have s1 := same_new (o := .lst (((cs.map fun c => (c.1, c.2.py)).mergeSort (dataLe false (·.2))).map (·.1))) hn
        refine hQ _ _ _ _ (evo_same hH s1) (.lst ⟨upd_same, hH.none hn⟩ ?_) q
        have k : ∀ z ∈ cs.mergeSort (dataLe false fun c => c.2.py), Dt c.K m H z.1 z.2 := fun z hc => c3 z ((List.mergeSort_perm _ _).mem_iff.mp hc)
        have e5 : (((cs.map fun c => (c.1, c.2.py)).mergeSort (dataLe false (·.2))).map (·.1)) = (cs.mergeSort (dataLe false fun c => c.2.py)).map (·.1) := by rw [e3, List.map_map]; rfl
        have kk := (dts_unzip k).keep (keeps_same s1)
        rw [e4, ← e5] at kk
        exact kk) he) hg (by decide) (by decide) he hpl
end
end AM

set_option autoImplicit false
set_option maxRecDepth 100000
set_option maxHeartbeats 1000000
set_option hygiene false
set_option pp.maxSteps 300
open PySem L2 PySem.Spec PyProof.Rows
namespace AM

def topS (i : Nat) : Stmt := PySem.Challenge.pw_lightchains_k11_things_that_hold.main.body.getD i (.Pass ⟨0, 0, 0, 0⟩)
abbrev topF : Str := PySem.Challenge.pw_lightchains_k11_things_that_hold.main.file
abbrev s_is_between : Stmt := topS 19
abbrev s_is_place : Stmt := topS 20
abbrev s_is_one_of : Stmt := topS 21
abbrev s_within : Stmt := topS 22
abbrev s_is_plain : Stmt := topS 23
abbrev s_is_pattern : Stmt := topS 24
abbrev s_all_patterns : Stmt := topS 25
abbrev s_Lights___init__ : Stmt := inClass (topS 26) 0
abbrev s_Lights_shape : Stmt := inClass (topS 26) 1
abbrev s_Lights_pattern : Stmt := inClass (topS 26) 2
abbrev s_Lights___eq__ : Stmt := inClass (topS 26) 3
abbrev s_divisor : Stmt := topS 28
abbrev s_multiple : Stmt := topS 29
abbrev s_common : Stmt := topS 30
abbrev s_around : Stmt := topS 31
abbrev s_Moment___init__ : Stmt := inClass (topS 32) 0
abbrev s_Moment_dot_at : Stmt := inClass (topS 32) 1
abbrev s_Moment_every_lamp : Stmt := inClass (topS 32) 2
abbrev s_Moment_plain : Stmt := inClass (topS 32) 3
abbrev s_Moment_lit : Stmt := inClass (topS 32) 4
abbrev s_picture_of : Stmt := topS 33
abbrev s_lamps_of : Stmt := topS 34
abbrev s_is_number : Stmt := topS 35
abbrev s_need_moment : Stmt := topS 36
abbrev s_picture : Stmt := topS 37
abbrev s_comes_round : Stmt := topS 38
abbrev s_moments : Stmt := topS 42
abbrev s_parting : Stmt := topS 43
abbrev s_alike : Stmt := topS 44
abbrev s_dark : Stmt := topS 45
abbrev s_full : Stmt := topS 46
abbrev s_Plainly___init__ : Stmt := inClass (topS 47) 0
abbrev s_moves : Stmt := topS 48
abbrev s_paths_of : Stmt := topS 49
abbrev s_put_at : Stmt := topS 50
abbrev s_spare : Stmt := topS 51
abbrev s__law_random : Stmt := topS 53
abbrev s__law_below : Stmt := topS 54
abbrev s__law_pick : Stmt := topS 55
abbrev s__law_leaf : Stmt := topS 56
abbrev s__law_pattern : Stmt := topS 57
abbrev s__law_lights : Stmt := topS 58
abbrev s__law_near : Stmt := topS 59
abbrev s__law_claims : Stmt := topS 60
abbrev s__law_turned : Stmt := topS 61
abbrev s_law : Stmt := topS 62
theorem sc_is_between : FnScope ["value", "least", "most"] ["value", "least", "most"] (defScope s_is_between) := ⟨rfl, rfl, rfl, by decide +kernel, rfl, by decide +kernel, by decide +kernel⟩
theorem sc_is_place : FnScope ["value"] ["value"] (defScope s_is_place) := ⟨rfl, rfl, rfl, by decide +kernel, rfl, by decide +kernel, by decide +kernel⟩
theorem sc_is_one_of : FnScope ["value", "some"] ["value", "some"] (defScope s_is_one_of) := ⟨rfl, rfl, rfl, by decide +kernel, rfl, by decide +kernel, by decide +kernel⟩
theorem sc_within : FnScope ["pattern", "item"] ["pattern"] (defScope s_within) := ⟨rfl, rfl, rfl, by decide +kernel, rfl, by decide +kernel, by decide +kernel⟩
theorem sc_is_plain : FnScope ["word", "items"] ["word", "items"] (defScope s_is_plain) := ⟨rfl, rfl, rfl, by decide +kernel, rfl, by decide +kernel, by decide +kernel⟩
theorem sc_is_pattern : FnScope ["value", "deep", "many", "word", "items", "item"] ["value", "deep"] (defScope s_is_pattern) := ⟨rfl, rfl, rfl, by decide +kernel, rfl, by decide +kernel, by decide +kernel⟩
theorem sc_all_patterns : FnScope ["pattern", "found", "inner"] ["pattern"] (defScope s_all_patterns) := ⟨rfl, rfl, rfl, by decide +kernel, rfl, by decide +kernel, by decide +kernel⟩
theorem sc_Lights___init__ : FnScope ["self", "shape", "pattern"] ["self", "shape", "pattern"] (defScope s_Lights___init__) := ⟨rfl, rfl, rfl, by decide +kernel, rfl, by decide +kernel, by decide +kernel⟩
theorem sc_divisor : FnScope ["one", "other"] ["one", "other"] (defScope s_divisor) := ⟨rfl, rfl, rfl, by decide +kernel, rfl, by decide +kernel, by decide +kernel⟩
theorem sc_multiple : FnScope ["one", "other"] ["one", "other"] (defScope s_multiple) := ⟨rfl, rfl, rfl, by decide +kernel, rfl, by decide +kernel, by decide +kernel⟩
theorem sc_common : FnScope ["lights", "found", "pattern"] ["lights"] (defScope s_common) := ⟨rfl, rfl, rfl, by decide +kernel, rfl, by decide +kernel, by decide +kernel⟩
theorem sc_around : FnScope ["lights", "n"] ["lights", "n"] (defScope s_around) := ⟨rfl, rfl, rfl, by decide +kernel, rfl, by decide +kernel, by decide +kernel⟩
theorem sc_Moment___init__ : FnScope ["self", "lights", "n", "t"] ["self", "lights", "n", "t"] (defScope s_Moment___init__) := ⟨rfl, rfl, rfl, by decide +kernel, rfl, by decide +kernel, by decide +kernel⟩
theorem sc_Moment_dot_at : FnScope ["self", "k", "way", "start", "at"] ["self", "k", "way"] (defScope s_Moment_dot_at) := ⟨rfl, rfl, rfl, by decide +kernel, rfl, by decide +kernel, by decide +kernel⟩
theorem sc_Moment_every_lamp : FnScope ["self"] ["self"] (defScope s_Moment_every_lamp) := ⟨rfl, rfl, rfl, by decide +kernel, rfl, by decide +kernel, by decide +kernel⟩
theorem sc_Moment_plain : FnScope ["self", "pattern", "word", "lamp", "every", "rest"] ["self", "pattern"] (defScope s_Moment_plain) := ⟨rfl, rfl, rfl, by decide +kernel, rfl, by decide +kernel, by decide +kernel⟩
theorem sc_Moment_lit : FnScope ["self", "pattern", "word", "one", "other"] ["self", "pattern"] (defScope s_Moment_lit) := ⟨rfl, rfl, rfl, by decide +kernel, rfl, by decide +kernel, by decide +kernel⟩
theorem sc_picture_of : FnScope ["lights", "n", "t"] ["lights", "n", "t"] (defScope s_picture_of) := ⟨rfl, rfl, rfl, by decide +kernel, rfl, by decide +kernel, by decide +kernel⟩
theorem sc_lamps_of : FnScope ["mask", "found", "lamp"] ["mask"] (defScope s_lamps_of) := ⟨rfl, rfl, rfl, by decide +kernel, rfl, by decide +kernel, by decide +kernel⟩
theorem sc_is_number : FnScope ["value", "least"] ["value", "least"] (defScope s_is_number) := ⟨rfl, rfl, rfl, by decide +kernel, rfl, by decide +kernel, by decide +kernel⟩
theorem sc_need_moment : FnScope ["n", "t"] ["n", "t"] (defScope s_need_moment) := ⟨rfl, rfl, rfl, by decide +kernel, rfl, by decide +kernel, by decide +kernel⟩
theorem sc_picture : FnScope ["lights", "n", "t"] ["lights", "n", "t"] (defScope s_picture) := ⟨rfl, rfl, rfl, by decide +kernel, rfl, by decide +kernel, by decide +kernel⟩
theorem sc_comes_round : FnScope ["lights", "n", "total", "masks", "some", "t", "times"] ["lights", "n"] (defScope s_comes_round) := ⟨rfl, rfl, rfl, by decide +kernel, rfl, by decide +kernel, by decide +kernel⟩
theorem gs_moments : GScp ["one", "other", "both", "n", "t"] ["one", "other"] (defScope s_moments) := ⟨rfl, rfl, rfl, by decide +kernel, rfl, by decide +kernel, by decide +kernel⟩
theorem sc_parting : FnScope ["one", "other", "n", "t", "mask"] ["one", "other"] (defScope s_parting) := ⟨rfl, rfl, rfl, by decide +kernel, rfl, by decide +kernel, by decide +kernel⟩
theorem sc_alike : FnScope ["one", "other"] ["one", "other"] (defScope s_alike) := ⟨rfl, rfl, rfl, by decide +kernel, rfl, by decide +kernel, by decide +kernel⟩
theorem sc_dark : FnScope ["lights", "n", "t"] ["lights"] (defScope s_dark) := ⟨rfl, rfl, rfl, by decide +kernel, rfl, by decide +kernel, by decide +kernel⟩
theorem sc_full : FnScope ["lights"] ["lights"] (defScope s_full) := ⟨rfl, rfl, rfl, by decide +kernel, rfl, by decide +kernel, by decide +kernel⟩
theorem sc_Plainly___init__ : FnScope ["self", "shape", "pattern"] ["self", "shape", "pattern"] (defScope s_Plainly___init__) := ⟨rfl, rfl, rfl, by decide +kernel, rfl, by decide +kernel, by decide +kernel⟩
theorem sc_moves : FnScope ["lights", "n", "t", "mask"] ["lights"] (defScope s_moves) := ⟨rfl, rfl, rfl, by decide +kernel, rfl, by decide +kernel, by decide +kernel⟩
theorem sc_paths_of : FnScope ["pattern", "found", "at", "inner", "path", "one"] ["pattern"] (defScope s_paths_of) := ⟨rfl, rfl, rfl, by decide +kernel, rfl, by decide +kernel, by decide +kernel⟩
theorem sc_put_at : FnScope ["pattern", "path", "new", "at"] ["pattern", "path", "new"] (defScope s_put_at) := ⟨rfl, rfl, rfl, by decide +kernel, rfl, by decide +kernel, by decide +kernel⟩
theorem sc_spare : FnScope ["lights", "found", "path", "pattern", "word", "other"] ["lights"] (defScope s_spare) := ⟨rfl, rfl, rfl, by decide +kernel, rfl, by decide +kernel, by decide +kernel⟩
theorem sc__law_random : FnScope ["_law_script", "_law_salt", "_law_seed", "_law_cell"] ["_law_script", "_law_salt"] (defScope s__law_random) := ⟨rfl, rfl, rfl, by decide +kernel, rfl, by decide +kernel, by decide +kernel⟩
theorem sc__law_below : FnScope ["_law_d", "_law_size", "_law_result"] ["_law_d", "_law_size"] (defScope s__law_below) := ⟨rfl, rfl, rfl, by decide +kernel, rfl, by decide +kernel, by decide +kernel⟩
theorem sc__law_pick : FnScope ["_law_d", "_law_items"] ["_law_d", "_law_items"] (defScope s__law_pick) := ⟨rfl, rfl, rfl, by decide +kernel, rfl, by decide +kernel, by decide +kernel⟩
theorem sc__law_leaf : FnScope ["_law_d", "_law_pick_here", "_law_every"] ["_law_d"] (defScope s__law_leaf) := ⟨rfl, rfl, rfl, by decide +kernel, rfl, by decide +kernel, by decide +kernel⟩
theorem sc__law_pattern : FnScope ["_law_d", "_law_deep", "_law_left", "_law_pick_here", "_law_one"] ["_law_d", "_law_deep", "_law_left"] (defScope s__law_pattern) := ⟨rfl, rfl, rfl, by decide +kernel, rfl, by decide +kernel, by decide +kernel⟩
theorem sc__law_lights : FnScope ["_law_d", "_law_deep", "_law_most"] ["_law_d", "_law_deep", "_law_most"] (defScope s__law_lights) := ⟨rfl, rfl, rfl, by decide +kernel, rfl, by decide +kernel, by decide +kernel⟩
theorem sc__law_near : FnScope ["_law_d", "_law_pattern_here", "_law_pick_here"] ["_law_d", "_law_pattern_here"] (defScope s__law_near) := ⟨rfl, rfl, rfl, by decide +kernel, rfl, by decide +kernel, by decide +kernel⟩
theorem sc__law_claims : FnScope ["_law_d", "_law_lights_here", "_law_other", "_law_n", "_law_t", "_law_now", "_law_small"] ["_law_d", "_law_lights_here", "_law_other"] (defScope s__law_claims) := ⟨rfl, rfl, rfl, by decide +kernel, rfl, by decide +kernel, by decide +kernel⟩
theorem sc__law_turned : FnScope ["_law_pattern_here", "_law_item"] ["_law_pattern_here"] (defScope s__law_turned) := ⟨rfl, rfl, rfl, by decide +kernel, rfl, by decide +kernel, by decide +kernel⟩
theorem sc_law : FnScope ["_law_script", "_law_d", "_law_lights_here", "_law_found", "_law_there", "_law_back", "_law_n", "_law_t", "_law_shape", "_law_pattern_here", "_law_path", "_law_word", "_law_lamp"] ["_law_script"] (defScope s_law) := ⟨rfl, rfl, rfl, by decide +kernel, rfl, by decide +kernel, by decide +kernel⟩
structure Mod (K : PySem.W.Frag) (mg : Str → Option Value) where
  NB_isinstance : NB mg "isinstance"
  NB_int : NB mg "int"
  NB_bool : NB mg "bool"
  NB_str : NB mg "str"
  NB_tuple : NB mg "tuple"
  NB_len : NB mg "len"
  NB_all : NB mg "all"
  NB_max : NB mg "max"
  NB_min : NB mg "min"
  NB_sum : NB mg "sum"
  NB_range : NB mg "range"
  NB_enumerate : NB mg "enumerate"
  NB_sorted : NB mg "sorted"
  NB_abs : NB mg "abs"
  c_RING : GC K mg "RING" (.str "ring")
  c_CHAIN : GC K mg "CHAIN" (.str "chain")
  c_LEAST_PLACE : GC K mg "LEAST_PLACE" (.int (-3))
  c_GREATEST_PLACE : GC K mg "GREATEST_PLACE" (.int 2)
  c_EVERIES : GC K mg "EVERIES" (.tup [.int 2, .int 3])
  c_WAYS : GC K mg "WAYS" (.tup [.str "down", .str "up"])
  c_MOST_PATTERNS : GC K mg "MOST_PATTERNS" (.int 15)
  c_DEEPEST : GC K mg "DEEPEST" (.int 6)
  c_BARE : GC K mg "BARE" (.tup [.str "all", .str "none"])
  c_CHECKERED : GC K mg "CHECKERED" (.tup [.str "beat", .str "comb"])
  c_DOUBLE : GC K mg "DOUBLE" (.tup [.str "and", .str "or", .str "unlike"])
  c_EACH_MORE : GC K mg "EACH_MORE" (.int 5)
  c_ALWAYS_MORE : GC K mg "ALWAYS_MORE" (.int 21)
  A_BadShape : Addr
  x_BadShape : ExcC K mg "BadShape" A_BadShape
  A_BadPattern : Addr
  x_BadPattern : ExcC K mg "BadPattern" A_BadPattern
  A_BadLength : Addr
  x_BadLength : ExcC K mg "BadLength" A_BadLength
  A_BadTime : Addr
  x_BadTime : ExcC K mg "BadTime" A_BadTime
  A_NotComparable : Addr
  x_NotComparable : ExcC K mg "NotComparable" A_NotComparable
  A_Lights : Addr
  f_Lights_own_shape : FldC K A_Lights "own_shape"
  f_Lights_own_pattern : FldC K A_Lights "own_pattern"
  D_Lights : Dc K mg "Lights" A_Lights "Lights.__init__" s_Lights___init__ ["self", "shape", "pattern"]
  P_Lights_shape : Dp K A_Lights "shape" "Lights.shape" s_Lights_shape ["self"]
  P_Lights_pattern : Dp K A_Lights "pattern" "Lights.pattern" s_Lights_pattern ["self"]
  E_Lights : De K A_Lights "Lights.__eq__" s_Lights___eq__ ["self", "other"]
  i_Lights : IsC K A_Lights
  A_Moment : Addr
  f_Moment_way_round : FldC K A_Moment "way_round"
  f_Moment_is_chain : FldC K A_Moment "is_chain"
  f_Moment_many : FldC K A_Moment "many"
  f_Moment_now : FldC K A_Moment "now"
  D_Moment : Dc K mg "Moment" A_Moment "Moment.__init__" s_Moment___init__ ["self", "lights", "n", "t"]
  D_Moment_dot_at : Dm K A_Moment "dot_at" "Moment.dot_at" s_Moment_dot_at ["self", "k", "way"]
  D_Moment_every_lamp : Dm K A_Moment "every_lamp" "Moment.every_lamp" s_Moment_every_lamp ["self"]
  D_Moment_plain : Dm K A_Moment "plain" "Moment.plain" s_Moment_plain ["self", "pattern"]
  D_Moment_lit : Dm K A_Moment "lit" "Moment.lit" s_Moment_lit ["self", "pattern"]
  A_Plainly : Addr
  f_Plainly_own_shape : FldC K A_Plainly "own_shape"
  f_Plainly_own_pattern : FldC K A_Plainly "own_pattern"
  D_Plainly : Dc K mg "Plainly" A_Plainly "Plainly.__init__" s_Plainly___init__ ["self", "shape", "pattern"]
  D_is_between : Df K mg "is_between" s_is_between ["value", "least", "most"]
  D_is_place : Df K mg "is_place" s_is_place ["value"]
  D_is_one_of : Df K mg "is_one_of" s_is_one_of ["value", "some"]
  D_within : Df K mg "within" s_within ["pattern"]
  D_is_plain : Df K mg "is_plain" s_is_plain ["word", "items"]
  D_is_pattern : Df K mg "is_pattern" s_is_pattern ["value", "deep"]
  D_all_patterns : Df K mg "all_patterns" s_all_patterns ["pattern"]
  D_divisor : Df K mg "divisor" s_divisor ["one", "other"]
  D_multiple : Df K mg "multiple" s_multiple ["one", "other"]
  D_common : Df K mg "common" s_common ["lights"]
  D_around : Df K mg "around" s_around ["lights", "n"]
  D_picture_of : Df K mg "picture_of" s_picture_of ["lights", "n", "t"]
  D_lamps_of : Df K mg "lamps_of" s_lamps_of ["mask"]
  D_is_number : Df K mg "is_number" s_is_number ["value", "least"]
  D_need_moment : Df K mg "need_moment" s_need_moment ["n", "t"]
  D_picture : Df K mg "picture" s_picture ["lights", "n", "t"]
  D_comes_round : Df K mg "comes_round" s_comes_round ["lights", "n"]
  D_moments : Df K mg "moments" s_moments ["one", "other"]
  D_parting : Df K mg "parting" s_parting ["one", "other"]
  D_alike : Df K mg "alike" s_alike ["one", "other"]
  D_dark : Df K mg "dark" s_dark ["lights"]
  D_full : Df K mg "full" s_full ["lights"]
  D_moves : Df K mg "moves" s_moves ["lights"]
  D_paths_of : Df K mg "paths_of" s_paths_of ["pattern"]
  D_put_at : Df K mg "put_at" s_put_at ["pattern", "path", "new"]
  D_spare : Df K mg "spare" s_spare ["lights"]
  D__law_random : Df K mg "_law_random" s__law_random ["_law_script", "_law_salt"]
  D__law_below : Df K mg "_law_below" s__law_below ["_law_d", "_law_size"]
  D__law_pick : Df K mg "_law_pick" s__law_pick ["_law_d", "_law_items"]
  D__law_leaf : Df K mg "_law_leaf" s__law_leaf ["_law_d"]
  D__law_pattern : Df K mg "_law_pattern" s__law_pattern ["_law_d", "_law_deep", "_law_left"]
  D__law_lights : Df K mg "_law_lights" s__law_lights ["_law_d", "_law_deep", "_law_most"]
  D__law_near : Df K mg "_law_near" s__law_near ["_law_d", "_law_pattern_here"]
  D__law_claims : Df K mg "_law_claims" s__law_claims ["_law_d", "_law_lights_here", "_law_other"]
  D__law_turned : Df K mg "_law_turned" s__law_turned ["_law_pattern_here"]
def shp (r : Bool) : Str := if r then "ring" else "chain"
end AM
set_option maxRecDepth 100000 in
set_option maxHeartbeats 0 in
theorem AM.early (h : PySem.Challenge.rw_lightchains_k11_things_that_hold.row.wellSaid = true → PySem.Challenge.rw_lightchains_k11_things_that_hold.row.Holds) : PySem.Challenge.rw_lightchains_k11_things_that_hold.Holds := by
  w_on; o_law; exact h (by assumption)
set_option autoImplicit false
set_option maxRecDepth 100000
set_option maxHeartbeats 1000000
set_option hygiene false
open PySem L2 PySem.Spec PyProof.Rows
namespace AM

local macro_rules | `(tactic| wtm_at "vis") => `(tactic| first | exact .inl rfl | exact .inr (.inl rfl) | exact .inr (.inr rfl))
local macro_rules | `(tactic| wtm_at "loc") => `(tactic| first | exact .inl rfl | exact .inr rfl)
local macro_rules | `(tactic| wtm_at "ne") => `(tactic| first | assumption | exact Ne.symm (by assumption) | (intro z; subst z; simp_all; done))
local macro_rules | `(tactic| wtm_at "mu") => `(tactic| first | assumption | exact AM.Mu.set_same | (rw [AM.Mu.set_ne (by wtm_at "ne")]; wtm_at "mu"))
local macro_rules | `(tactic| wtm_at "pl") => `(tactic| first | exact ⟨_, rfl⟩ | assumption | exact AM.Pat.pl _)
local macro_rules | `(tactic| wtm_at "ar") => `(tactic| first | ((with_reducible first | show _ = some (AM.MO.o _ _) | show _ = some (AM.MO.l _)); wtm_at "mu") | ((with_reducible show AM.Pl _); wtm_at "pl") | assumption | omega | exact ⟨by omega, by omega⟩ | decide | (refine ⟨?_, ?_, ?_⟩ <;> omega) | (refine ⟨?_, ?_, ?_, ?_⟩ <;> omega) | (exact .inl ⟨by omega, by omega⟩) | (exact .inr ⟨by omega, by omega⟩) | (simp; omega) | exact of_decide_eq_true rfl | (simp; done) | fail)
local macro_rules | `(tactic| wtm_at "ca") => `(tactic| fail)
local macro_rules | `(tactic| wtm_at "tr") => `(tactic| fail)
local macro_rules | `(tactic| wtm_at "xm") => `(tactic| fail)
local macro_rules | `(tactic| wtm_at "ls") => `(tactic| first | exact .inl rfl | exact .inr ⟨_, rfl, by wtm_at "mu"⟩)
local macro_rules | `(tactic| wtm_at "io") => `(tactic| fail)
local macro_rules | `(tactic| wtm_at "mt") => `(tactic| fail)
local macro_rules | `(tactic| wtm_at "eo") => `(tactic| fail)
local macro_rules | `(tactic| wtm_at "eot") => `(tactic| fail)
local macro_rules | `(tactic| wtm_at "pr") => `(tactic| fail)
local macro_rules | `(tactic| wtm_at "lcL") => `(tactic| fail)
local macro_rules | `(tactic| wtm_at "nl") => `(tactic| fail)
local macro_rules | `(tactic| wtm_at "lk") => `(tactic| refine AM.aLook.mk rfl ?_)
local macro_rules | `(tactic| wtm_at "rz") => `(tactic| fail)
local macro_rules | `(tactic| wtm_at "ix") => `(tactic| assumption)
local macro_rules | `(tactic| wtm_at "if") => `(tactic| first | refine L2.iteT ?_ | refine L2.iteF ?_ | refine AM.ifT (by assumption) ?_ | refine AM.ifF (by assumption) ?_ | refine AM.ifDT (by first | with_reducible rfl | assumption | omega) ?_ | refine AM.ifDF (by first | assumption | omega) ?_ | refine AM.ifN ?_)
local macro_rules | `(tactic| wtm_at "ans") => `(tactic| first
  | ((with_reducible show AM.aII _ _ _); refine AM.aII.mk ?_)
  | ((with_reducible show AM.aI _ _); refine AM.aI.mk ?_)
  | ((with_reducible show AM.aB _ _); refine AM.aB.mk ?_)
  | ((with_reducible show AM.aS _ _); refine AM.aS.mk ?_)
  | ((with_reducible show AM.aIB _ _); first | refine AM.aIB.int ?_ | refine AM.aIB.bl ?_)
  | ((with_reducible show AM.aEq _ _ _); first | refine AM.aEq.int ?_ | refine AM.aEq.str ?_ | refine AM.aEq.bl ?_ | refine AM.aEq.py rfl rfl (by decide) (by decide) ?_ | refine AM.aEq.py (by decide +kernel) (by decide +kernel) (by decide +kernel) (by decide +kernel) ?_)
  | ((with_reducible show AM.aSeq _ _ _); first | refine AM.aSeq.tup ?_ | refine AM.aSeq.lst ?_ | refine AM.aSeq.loc (by wtm_at "mu") ?_)
  | ((with_reducible show AM.aLst _ _ _); first | refine AM.aLst.lst ?_ | refine AM.aLst.loc (by wtm_at "mu") ?_)
  | ((with_reducible show AM.aStay _ _); first | refine AM.aStay.lst ?_ | refine AM.aStay.fz ?_)
  | ((with_reducible show AM.aPut _ _ _ _); refine AM.aPut.mk (by wtm_at "mu") (by first | exact AM.ixN_0 | exact AM.ixN_1 | rfl) ?_)
  | ((with_reducible show AM.aFA _ _ _ _ _); refine AM.aFA.mk (by wtm_at "mu") (by wtm_at "fc") rfl (by wtm_at "ar") ?_)
  | ((with_reducible show AM.aEqO _ _ _ _ _ _ _); refine ⟨_, by first | exact .inl rfl | exact .inr ⟨_, rfl, by wtm_at "mu"⟩, by first | exact .inl ⟨_, .inl rfl⟩ | exact .inr ⟨_, rfl, M.i_Lights.nf⟩, ?_⟩)
  | ((with_reducible show AM.aIS _ _); first | refine AM.aIS.str ?_ | refine AM.aIS.int (by exact AM.log_small (by omega) (by omega)) ?_)
  | ((with_reducible show AM.aIsO _ _ _ _ _); wtm_at "io")
  | ((with_reducible show AM.aIns _ _ _ _); first | refine AM.aIns.ins ?_ | refine AM.aIns.loc (by wtm_at "mu") ?_)
  | ((with_reducible show AM.HdD _ _ _ _ _ _ _); first | refine AM.HdD.hit (by wtm_at "xm") (fun _ _ => ?_) | refine AM.HdD.miss (by wtm_at "xm") ?_)
  | ((with_reducible show AM.aFz _ _ _); refine AM.aFz.mk (by wtm_at "mu") ?_)
  | ((with_reducible show AM.aTup _ _); refine AM.aTup.mk ?_)
  | ((with_reducible show AM.aLoc _ _ _); refine AM.aLoc.mk (by wtm_at "mu") ?_)
  | ((with_reducible show AM.aObj _ _ _); first | refine AM.aObj.ins ?_ | refine AM.aObj.loc (by wtm_at "mu") ?_)
  | ((with_reducible show AM.aAt _ _ _); refine AM.aAt.mk (by first | exact AM.atI_0 | exact AM.atI_1 | exact AM.atI_2 | rfl | wtm_at "ix") ?_)
  | ((with_reducible show AM.aTy _ _); refine AM.aTy.mk rfl ?_)
  | ((with_reducible show AM.aPlus _ _ _ _); first | refine AM.aPlus.int ?_ | refine AM.aPlus.tup (by wtm_at "ar") ?_ | refine AM.aPlus.lst (by wtm_at "ls") (by wtm_at "ls") (by wtm_at "ar") ?_)
  | ((with_reducible show AM.aTimes _ _ _ _); refine AM.aTimes.int (by wtm_at "ar") ?_)
  | ((with_reducible show AM.aSl _ _ _ _ _); first | refine AM.aSl.lst ?_ | refine AM.aSl.tup ?_ | refine AM.aSl.loc (by wtm_at "mu") ?_)
  | ((with_reducible show AM.aIn _ _ _ _); first | refine AM.aIn.str (.inl rfl) ?_ | refine AM.aIn.str (.inr (.inl rfl)) ?_ | refine AM.aIn.str (.inr (.inr ⟨_, rfl, by wtm_at "mu"⟩)) ?_ | refine AM.aIn.mk (.inl rfl) rfl rfl ?_ | refine AM.aIn.mk (.inr (.inl rfl)) rfl rfl ?_)
  | ((with_reducible show AM.aLook _ _ _); wtm_at "lk")
  | ((with_reducible show AM.aMeth _ _ _ _ _); first | refine AM.aMeth.ins rfl ?_ | refine AM.aMeth.loc (by wtm_at "mu") rfl ?_))
local macro_rules | `(tactic| wtm_at "bin") => `(tactic| first
  | ((with_reducible show AM.CE _ (Expr.BinOp _ Operator.Add _ _) _ _ _ _); refine AM.W.plus ?_)
  | ((with_reducible show AM.CE _ (Expr.BinOp _ Operator.Sub _ _) _ _ _ _); refine AM.W.sub ?_)
  | ((with_reducible show AM.CE _ (Expr.BinOp _ Operator.Mult _ _) _ _ _ _); refine AM.W.times ?_)
  | ((with_reducible show AM.CE _ (Expr.BinOp _ Operator.Mod _ _) _ _ _ _); refine AM.W.mod ?_)
  | ((with_reducible show AM.CE _ (Expr.BinOp _ Operator.FloorDiv _ _) _ _ _ _); refine AM.W.fdiv ?_)
  | ((with_reducible show AM.CE _ (Expr.BinOp _ Operator.Pow _ _) _ _ _ _); refine AM.W.pow ?_)
  | ((with_reducible show AM.CE _ (Expr.BinOp _ Operator.LShift _ _) _ _ _ _); refine AM.W.shl ?_)
  | ((with_reducible show AM.CE _ (Expr.BinOp _ Operator.RShift _ _) _ _ _ _); refine AM.W.shr ?_)
  | ((with_reducible show AM.CE _ (Expr.BinOp _ Operator.BitAnd _ _) _ _ _ _); refine AM.W.band ?_)
  | ((with_reducible show AM.CE _ (Expr.BinOp _ Operator.BitOr _ _) _ _ _ _); refine AM.W.bor ?_)
  | ((with_reducible show AM.CE _ (Expr.BinOp _ Operator.BitXor _ _) _ _ _ _); refine AM.W.bxor ?_))
local macro_rules | `(tactic| wtm_at "cmp") => `(tactic| first
  | wtm_at "eo"
  | ((with_reducible show AM.CE _ (Expr.Compare _ [CmpOp.Eq] _ _) _ _ _ _); refine AM.W.eq hr ?_)
  | ((with_reducible show AM.CE _ (Expr.Compare _ [CmpOp.NotEq] _ _) _ _ _ _); refine AM.W.ne hr ?_)
  | ((with_reducible show AM.CE _ (Expr.Compare _ [CmpOp.Lt] _ _) _ _ _ _); refine AM.W.lt ?_)
  | ((with_reducible show AM.CE _ (Expr.Compare _ [CmpOp.LtE] _ _) _ _ _ _); refine AM.W.le ?_)
  | ((with_reducible show AM.CE _ (Expr.Compare _ [CmpOp.Gt] _ _) _ _ _ _); refine AM.W.gt ?_)
  | ((with_reducible show AM.CE _ (Expr.Compare _ [CmpOp.GtE] _ _) _ _ _ _); refine AM.W.ge ?_)
  | ((with_reducible show AM.CE _ (Expr.Compare _ [CmpOp.In] _ _) _ _ _ _); refine AM.W.inq ?_)
  | ((with_reducible show AM.CE _ (Expr.Compare _ [CmpOp.NotIn] _ _) _ _ _ _); refine AM.W.notin ?_)
  | ((with_reducible show AM.CE _ (Expr.Compare _ [CmpOp.Is] [Expr.Constant Const.none _ _] _) _ _ _ _); refine AM.CE.isN ?_)
  | ((with_reducible show AM.CE _ (Expr.Compare _ [CmpOp.IsNot] [Expr.Constant Const.none _ _] _) _ _ _ _); refine AM.CE.notN ?_)
  | ((with_reducible show AM.CE _ (Expr.Compare _ [CmpOp.LtE, CmpOp.LtE] _ _) _ _ _ _); refine AM.W.lele ?_ (fun _ _ _ h1 h2 h3 => L2.pe_chain L2.op_le L2.op_le h1 h2 h3))
  | ((with_reducible show AM.CE _ (Expr.Compare _ [CmpOp.LtE, CmpOp.Lt] _ _) _ _ _ _); refine AM.W.lelt ?_ (fun _ _ _ h1 h2 h3 => L2.pe_chain L2.op_le L2.op_lt h1 h2 h3)))
local macro_rules | `(tactic| wtm_at "mt0") => `(tactic| first
  | ((with_reducible show AM.CE _ (Expr.Call (Expr.Attribute _ (Str.ofString "append") _) _ _ _) _ _ _ _); refine AM.W.append ?_ (by rfl) (fun _ _ h1 h2 => L2.pe_bm PySem.F.plainAttrs_list PySem.F.slot_list_append PySem.F.type_list_append L2.mt_append h1 h2))
  | ((with_reducible show AM.CE _ (Expr.Call (Expr.Attribute _ (Str.ofString "extend") _) _ _ _) _ _ _ _); refine AM.W.extend ?_ (by rfl) (fun _ _ h1 h2 => L2.pe_bm PySem.F.plainAttrs_list PySem.F.slot_list_extend PySem.F.type_list_extend L2.mt_extend h1 h2))
  | ((with_reducible show AM.CE _ (Expr.Call (Expr.Attribute _ (Str.ofString "pop") _) [] _ _) _ _ _ _); refine AM.W.pop ?_ (fun _ h1 => L2.pe_bm0 PySem.F.plainAttrs_list PySem.F.slot_list_pop PySem.F.type_list_pop L2.mt_pop h1))
  | ((with_reducible show AM.CE _ (Expr.Call (Expr.Attribute _ (Str.ofString "pop") _) _ _ _) _ _ _ _); refine AM.W.popAt ?_ (by rfl) (fun _ _ h1 h2 => L2.pe_bm PySem.F.plainAttrs_list PySem.F.slot_list_pop PySem.F.type_list_pop L2.mt_popAt h1 h2))
  | ((with_reducible show AM.CE _ (Expr.Call (Expr.Attribute _ (Str.ofString "join") _) _ _ _) _ _ _ _); refine AM.W.join ?_)
  | ((with_reducible show AM.CE _ (Expr.Call (Expr.Attribute _ (Str.ofString "split") _) _ _ _) _ _ _ _); refine AM.W.split ?_))
local macro_rules | `(tactic| wtm_at "e") => `(tactic| first
  | ((with_reducible show AM.CE _ (Expr.Name _ _) _ _ _ _); wtm_at "nm")
  | ((with_reducible show AM.CE _ (Expr.Constant _ _ _) _ _ _ _); first | refine AM.CE.int ?_ | refine AM.CE.str ?_ | refine AM.CE.bl ?_ | refine AM.CE.non ?_)
  | ((with_reducible show AM.CE _ (Expr.BinOp _ _ _ _) _ _ _ _); wtm_at "bin")
  | ((with_reducible show AM.CE _ (Expr.Compare _ _ _ _) _ _ _ _); wtm_at "cmp")
  | ((with_reducible show AM.CE _ (Expr.Call (Expr.Name _ _) _ _ _) _ _ _ _); wtm_at "fn")
  | ((with_reducible show AM.CE _ (Expr.Call (Expr.Attribute _ _ _) _ _ _) _ _ _ _); first | wtm_at "mt0" | wtm_at "mt")
  | ((with_reducible show AM.CE _ (Expr.Attribute _ _ _) _ _ _ _); first | wtm_at "pr" | refine AM.W.fld ?_)
  | ((with_reducible show AM.CE _ (Expr.Subscript _ (Expr.Slice _ _ none _) _) _ _ _ _); refine AM.W.sl ?_)
  | ((with_reducible show AM.CE _ (Expr.Subscript _ _ _) _ _ _ _); refine AM.W.ix ?_)
  | ((with_reducible show AM.CE _ (Expr.Tuple _ _ _) _ _ _ _); refine AM.W.tup ?_)
  | ((with_reducible show AM.CE _ (Expr.List _ _) _ _ _ _); first | wtm_at "nl" | refine AM.CE.lst ?_)
  | ((with_reducible show AM.CE _ (Expr.BoolOp _ [_] _) _ _ _ _); refine AM.CE.one ?_)
  | ((with_reducible show AM.CE _ (Expr.BoolOp BoolOp.And _ _) _ _ _ _); refine AM.W.and ?_)
  | ((with_reducible show AM.CE _ (Expr.BoolOp BoolOp.Or _ _) _ _ _ _); refine AM.W.or ?_)
  | ((with_reducible show AM.CE _ (Expr.UnaryOp UnaryOp.Not _ _) _ _ _ _); refine AM.W.not ?_)
  | ((with_reducible show AM.CE _ (Expr.UnaryOp UnaryOp.USub _ _) _ _ _ _); refine AM.W.neg ?_)
  | ((with_reducible show AM.CE _ (Expr.IfExp _ _ _ _) _ _ _ _); refine AM.CE.ifE ?_)
  | ((with_reducible show AM.CE _ (Expr.ListComp _ _ _ _) _ _ _ _); wtm_at "lc"))
local macro_rules | `(tactic| wtm_at "t") => `(tactic| first
  | wtm_at "eot"
  | ((with_reducible show AM.CT _ (Expr.Compare _ [CmpOp.Eq] _ _) _ _ _ _); refine AM.T.eq hr ?_)
  | ((with_reducible show AM.CT _ (Expr.Compare _ [CmpOp.NotEq] _ _) _ _ _ _); refine AM.T.ne hr ?_)
  | ((with_reducible show AM.CT _ (Expr.Compare _ [CmpOp.Lt] _ _) _ _ _ _); refine AM.T.lt ?_)
  | ((with_reducible show AM.CT _ (Expr.Compare _ [CmpOp.LtE] _ _) _ _ _ _); refine AM.T.le ?_)
  | ((with_reducible show AM.CT _ (Expr.Compare _ [CmpOp.Gt] _ _) _ _ _ _); refine AM.T.gt ?_)
  | ((with_reducible show AM.CT _ (Expr.Compare _ [CmpOp.GtE] _ _) _ _ _ _); refine AM.T.ge ?_)
  | ((with_reducible show AM.CT _ (Expr.Compare _ [CmpOp.In] _ _) _ _ _ _); refine AM.T.inq ?_)
  | ((with_reducible show AM.CT _ (Expr.Compare _ [CmpOp.NotIn] _ _) _ _ _ _); refine AM.T.notin ?_)
  | ((with_reducible show AM.CT _ (Expr.Compare _ [CmpOp.Is] [Expr.Constant Const.none _ _] _) _ _ _ _); refine AM.CT.isN ?_)
  | ((with_reducible show AM.CT _ (Expr.Compare _ [CmpOp.IsNot] [Expr.Constant Const.none _ _] _) _ _ _ _); refine AM.CT.notN ?_)
  | ((with_reducible show AM.CT _ (Expr.Compare _ [CmpOp.LtE, CmpOp.LtE] _ _) _ _ _ _); refine AM.T.lele ?_ (fun _ _ _ h1 h2 h3 => L2.pt_chain L2.op_le L2.op_le h1 h2 h3))
  | ((with_reducible show AM.CT _ (Expr.Compare _ [CmpOp.LtE, CmpOp.Lt] _ _) _ _ _ _); refine AM.T.lelt ?_ (fun _ _ _ h1 h2 h3 => L2.pt_chain L2.op_le L2.op_lt h1 h2 h3))
  | ((with_reducible show AM.CT _ (Expr.BoolOp _ _ _) _ _ _ _); refine AM.CT.w ?_)
  | ((with_reducible show AM.CT _ (Expr.UnaryOp UnaryOp.Not _ _) _ _ _ _); refine AM.CT.not ?_)
  | ((with_reducible show AM.CT _ (Expr.BinOp _ _ _ _) _ _ _ _); refine AM.T.int ?_)
  | refine AM.T.val ?_)
local macro_rules | `(tactic| wtm_at "w") => `(tactic| first
  | ((with_reducible show AM.CW _ (Expr.BoolOp BoolOp.And [_] _) _ _ _ _); refine AM.CW.and1 ?_)
  | ((with_reducible show AM.CW _ (Expr.BoolOp BoolOp.Or [_] _) _ _ _ _); refine AM.CW.or1 ?_)
  | ((with_reducible show AM.CW _ (Expr.BoolOp BoolOp.And _ _) _ _ _ _); refine AM.CW.and ?_)
  | ((with_reducible show AM.CW _ (Expr.BoolOp BoolOp.Or _ _) _ _ _ _); refine AM.CW.or ?_))
local macro_rules | `(tactic| wtm_at "ti") => `(tactic| fail)
local macro_rules | `(tactic| wtm_at "i") => `(tactic| first
  | wtm_at "ti"
  | ((with_reducible show AM.CI _ _ (Expr.Call (Expr.Name (Str.ofString "range") _) [_] _ _) _ _ _ _); refine AM.I.range1 (by wtm_at "nb") ?_)
  | ((with_reducible show AM.CI _ _ (Expr.Call (Expr.Name (Str.ofString "range") _) [_, _] _ _) _ _ _ _); refine AM.I.range2 (by wtm_at "nb") ?_)
  | ((with_reducible show AM.CI _ _ (Expr.Call (Expr.Name (Str.ofString "range") _) [_, _, _] _ _) _ _ _ _); refine AM.CI.range3 (by wtm_at "nb") ?_)
  | ((with_reducible show AM.CI _ _ (Expr.Call (Expr.Name (Str.ofString "enumerate") _) [_] _ _) _ _ _ _); refine AM.I.enum (by wtm_at "nb") ?_)
  | refine AM.I.list ?_)
local macro_rules | `(tactic| wtm_at "st") => `(tactic| first
  | ((with_reducible show AM.CS _ (Stmt.Assign [Expr.Name _ _] (Expr.ListComp _ _ _ _) _) _ _ _); wtm_at "slc")
  | ((with_reducible show AM.CS _ (Stmt.Assign [Expr.Name _ _] _ _) _ _ _); wtm_at "as")
  | ((with_reducible show AM.CS _ (Stmt.Assign [Expr.Tuple _ _ _] _ _) _ _ _); wtm_at "at")
  | ((with_reducible show AM.CS _ (Stmt.Assign [Expr.Attribute _ _ _] _ _) _ _ _); refine AM.S.fld ?_)
  | ((with_reducible show AM.CS _ (Stmt.Assign [Expr.Subscript _ _ _] _ _) _ _ _); refine AM.S.setIx ?_)
  | ((with_reducible show AM.CS _ (Stmt.AugAssign (Expr.Attribute _ _ _) Operator.Add _ _) _ _ _); refine AM.S.fldAdd ?_)
  | ((with_reducible show AM.CS _ (Stmt.Return _ _) _ _ _); first | wtm_at "rz" | refine AM.CS.ret ?_ | refine AM.CS.retN ?_)
  | ((with_reducible show AM.CS _ (Stmt.If _ _ _ _) _ _ _); refine AM.CS.ite ?_)
  | ((with_reducible show AM.CS _ (Stmt.Expr _ _) _ _ _); refine AM.CS.expr ?_)
  | ((with_reducible show AM.CS _ (Stmt.Raise _ _ _) _ _ _); wtm_at "ra")
  | ((with_reducible show AM.CS _ (Stmt.Pass _) _ _ _); refine AM.CS.pass ?_)
  | ((with_reducible show AM.CS _ (Stmt.Try _ _ _ _ _) _ _ _); wtm_at "tr")
  | ((with_reducible show AM.CS _ (Stmt.For _ _ _ _ _) _ _ _); wtm_at "fo"))
local macro_rules | `(tactic| wtm_at "s") => `(tactic| first
  | ((with_reducible show AM.CE _ _ _ _ _ _); wtm_at "e")
  | wtm_at "ans"
  | ((with_reducible show AM.CT _ _ _ _ _ _); wtm_at "t")
  | ((with_reducible show AM.CW _ _ _ _ _ _); wtm_at "w")
  | ((with_reducible show AM.CA _ _ _ _ _ _); first | refine AM.CA.nil ?_ | refine AM.A.star ?_ | refine AM.CA.cons ?_)
  | ((with_reducible show AM.CO _ _ _ _ _ _); first | refine AM.CO.none ?_ | refine AM.O.some ?_)
  | ((with_reducible show AM.CI _ _ _ _ _ _ _); wtm_at "i")
  | ((with_reducible show AM.CS _ _ _ _ _); wtm_at "st")
  | ((with_reducible show AM.CO _ _ _ _ _ _); first | refine AM.CO.none ?_ | refine AM.O.some ?_)
  | wtm_at "ca"
  | ((with_reducible show AM.CSs _ _ _ _ _); first | refine AM.CSs.nil ?_ | refine AM.CSs.one ?_ | refine AM.CSs.cons ?_)
  | ((with_reducible show (if _ then _ else _)); wtm_at "if")
  | ((with_reducible show (∃ _ _ _, D.loc _ = D.loc _ ∧ _)); refine ⟨_, _, _, rfl, by wtm_at "mu", ?_⟩)
  | ((with_reducible show (∃ _, AM.tgP _ _ _ _ = some _ ∧ _)); refine ⟨_, rfl, ?_⟩)
  | ((with_reducible show (∃ _ _, [_, _] = [_, _] ∧ _)); refine ⟨_, _, rfl, ?_⟩)
  | ((with_reducible show (AM.FldC _ _ _) ∧ _); refine ⟨by wtm_at "fc", ?_⟩)
  | ((with_reducible show _ ∧ _); refine ⟨by wtm_at "ar", ?_⟩))
local macro_rules | `(tactic| wtm_at "sp") => `(tactic| first | (refine AM.ifD (fun hc => ?_) (fun hc => ?_)) | (refine AM.ifN ?_) | (refine AM.ifB (fun hc => ?_) (fun hc => ?_)))
local macro_rules | `(tactic| wtm_at "go") => `(tactic| repeat (wtm_at "s"))
local macro_rules | `(tactic| wtm_at "all") => `(tactic| repeat' (first | wtm_at "s" | wtm_at "sp"))

section
local macro_rules | `(tactic| wtm_at "w0") => `(tactic| first | exact q | ((with_reducible show AM.aEq _ _ _); refine AM.aEq.nilT h1 h2 ?_; wtm_at "w0") | (refine toQb q ?_; clear q; simp only [oneB, strOf, List.map_cons, List.map_nil] at *; simp_all [plainB, intOf, eqv0]; done))
theorem eqv0 : (D.tup []).py.eqv (D.tup []).py = true := rfl
section
variable {P : Program} {w : World} {K : PySem.W.Frag} {mg : Str → Option Value} {base : Heap} (M : Mod K mg)
include M
def S_is_between : SpD := fun ds m Q _ => ∃ v lo hi, ds = [v, .int lo, .int hi] ∧ Pl v ∧ Q (.bl (btw v lo hi)) m
omit M in
theorem S_is_between.mk {v : D} {lo hi : Int} {m : Mu} {Q : D → Mu → Prop} {E : Addr → Option (List (Str × D)) → Mu → Prop} (h : Pl v ∧ Q (.bl (btw v lo hi)) m) : S_is_between [v, .int lo, .int hi] m Q E := ⟨v, lo, hi, rfl, h⟩
section
local macro_rules | `(tactic| wtm_at "nm") => `(tactic| first
  | ((with_reducible show AM.CE _ (Expr.Name (Str.ofString "value") _) _ _ _ _); refine AM.W.nm (i := 0) rfl rfl (by wtm_at "vis") ?_)
  | ((with_reducible show AM.CE _ (Expr.Name (Str.ofString "least") _) _ _ _ _); refine AM.W.nm (i := 1) rfl rfl (by wtm_at "vis") ?_)
  | ((with_reducible show AM.CE _ (Expr.Name (Str.ofString "most") _) _ _ _ _); refine AM.W.nm (i := 2) rfl rfl (by wtm_at "vis") ?_))
local macro_rules | `(tactic| wtm_at "fn") => `(tactic| first
  | ((with_reducible show AM.CE _ (Expr.Call (Expr.Name (Str.ofString "int") _) _ _ _) _ _ _ _); refine AM.W.intI M.NB_int ?_)
  | ((with_reducible show AM.CE _ (Expr.Call (Expr.Name (Str.ofString "isinstance") _) [_, Expr.Name (Str.ofString "int") _] _ _) _ _ _ _); refine AM.W.isi AM.TyS.int M.NB_isinstance M.NB_int ?_)
  | ((with_reducible show AM.CE _ (Expr.Call (Expr.Name (Str.ofString "isinstance") _) [_, Expr.Name (Str.ofString "bool") _] _ _) _ _ _ _); refine AM.W.isi AM.TyS.bool M.NB_isinstance M.NB_bool ?_))
local macro_rules | `(tactic| wtm_at "fc") => `(tactic| first
  | exact M.f_Lights_own_shape
  | exact M.f_Lights_own_pattern
  | exact M.f_Moment_way_round
  | exact M.f_Moment_is_chain
  | exact M.f_Moment_many
  | exact M.f_Moment_now
  | exact M.f_Plainly_own_shape
  | exact M.f_Plainly_own_pattern)
theorem b_is_between : FnG P w K mg base "is_between" 1 S_is_between :=
  gD M.D_is_between sc_is_between (fun ds m Q E ⟨v, lo, hi, h, _⟩ => by rw [h]; rfl) fun f cdv A outer s0 H E hr ds m Q Ex ⟨v, lo, hi, h, ⟨n, hn⟩, q⟩ => by
    subst h
    cases v <;> cases hn
    all_goals wtm_at "all"
    all_goals (first | exact q | (refine toQb q ?_; simp_all [btw]; try omega))
end
def S_is_place : SpD := fun ds m Q _ => ∃ v, ds = [v] ∧ Pl v ∧ Q (.bl (btw v (-3) 2)) m
omit M in
theorem S_is_place.mk {v : D} {m : Mu} {Q : D → Mu → Prop} {E : Addr → Option (List (Str × D)) → Mu → Prop} (h : Pl v ∧ Q (.bl (btw v (-3) 2)) m) : S_is_place [v] m Q E := ⟨v, rfl, h⟩
section
local macro_rules | `(tactic| wtm_at "nm") => `(tactic| first
  | ((with_reducible show AM.CE _ (Expr.Name (Str.ofString "value") _) _ _ _ _); refine AM.W.nm (i := 0) rfl rfl (by wtm_at "vis") ?_)
  | ((with_reducible show AM.CE _ (Expr.Name (Str.ofString "LEAST_PLACE") _) _ _ _ _); refine AM.W.gc M.c_LEAST_PLACE ?_ rfl)
  | ((with_reducible show AM.CE _ (Expr.Name (Str.ofString "GREATEST_PLACE") _) _ _ _ _); refine AM.W.gc M.c_GREATEST_PLACE ?_ rfl))
local macro_rules | `(tactic| wtm_at "fn") => `(tactic| first
  | ((with_reducible show AM.CE _ (Expr.Call (Expr.Name (Str.ofString "is_between") _) _ _ _) _ _ _ _); refine AM.W.call f_is_between hr (by first | decide | omega) ?_))
local macro_rules | `(tactic| wtm_at "ca") => `(tactic| first
  | ((with_reducible first | show AM.S_is_between _ _ _ _ | show AM.S_is_between _ _ _ _ _ | show AM.S_is_between _ _ _ _ _ _); first | refine AM.S_is_between.mk ?_ | refine AM.S_is_between.mk M ?_))
local macro_rules | `(tactic| wtm_at "fc") => `(tactic| first
  | exact M.f_Lights_own_shape
  | exact M.f_Lights_own_pattern
  | exact M.f_Moment_way_round
  | exact M.f_Moment_is_chain
  | exact M.f_Moment_many
  | exact M.f_Moment_now
  | exact M.f_Plainly_own_shape
  | exact M.f_Plainly_own_pattern)
theorem b_is_place : FnG P w K mg base "is_place" 2 S_is_place :=
  gD M.D_is_place sc_is_place (fun ds m Q E ⟨v, h, _⟩ => by rw [h]; rfl) fun f cdv A outer s0 H E hr ds m Q Ex ⟨v, h, hn, q⟩ => by
    subst h
    have f_is_between := b_is_between (P := P) (w := w) (base := base) M
    wtm_at "all"
    exact q
end
def S_is_one_of : SpD := fun ds m Q _ => ∃ v l, ds = [v, .tup (l.map D.str)] ∧ Pl v ∧ Q (.bl (oneB v l)) m
omit M in
theorem S_is_one_of.mk {v : D} {ts : List D} {m : Mu} {Q : D → Mu → Prop} {E : Addr → Option (List (Str × D)) → Mu → Prop} (h : Pl v ∧ Q (.bl (oneB v (ts.map strOf))) m) (hs : ts.all isS = true := by rfl) : S_is_one_of [v, .tup ts] m Q E := ⟨v, _, by rw [strsOf_eq hs], h⟩
section
local macro_rules | `(tactic| wtm_at "nm") => `(tactic| first
  | ((with_reducible show AM.CE _ (Expr.Name (Str.ofString "value") _) _ _ _ _); refine AM.W.nm (i := 0) rfl rfl (by wtm_at "vis") ?_)
  | ((with_reducible show AM.CE _ (Expr.Name (Str.ofString "some") _) _ _ _ _); refine AM.W.nm (i := 1) rfl rfl (by wtm_at "vis") ?_))
local macro_rules | `(tactic| wtm_at "fn") => `(tactic| first
  | ((with_reducible show AM.CE _ (Expr.Call (Expr.Name (Str.ofString "str") _) _ _ _) _ _ _ _); refine AM.W.strA M.NB_str ?_)
  | ((with_reducible show AM.CE _ (Expr.Call (Expr.Name (Str.ofString "isinstance") _) [_, Expr.Name (Str.ofString "str") _] _ _) _ _ _ _); refine AM.W.isi AM.TyS.str M.NB_isinstance M.NB_str ?_))
local macro_rules | `(tactic| wtm_at "fc") => `(tactic| first
  | exact M.f_Lights_own_shape
  | exact M.f_Lights_own_pattern
  | exact M.f_Moment_way_round
  | exact M.f_Moment_is_chain
  | exact M.f_Moment_many
  | exact M.f_Moment_now
  | exact M.f_Plainly_own_shape
  | exact M.f_Plainly_own_pattern)
theorem b_is_one_of : FnG P w K mg base "is_one_of" 1 S_is_one_of :=
  gD M.D_is_one_of sc_is_one_of (fun ds m Q E ⟨v, l, h, _⟩ => by rw [h]; rfl) fun f cdv A outer s0 H E hr ds m Q Ex ⟨v, l, h, ⟨n, hn⟩, q⟩ => by
    subst h
    cases v <;> cases hn
    all_goals wtm_at "all"
    all_goals first | exact q | skip
    refine aIn.mk (.inl rfl) rfl (flat_strs l) ?_
    rw [inD_strs]
    exact q
end
def S_within : SpD := fun ds m Q _ => ∃ p : Pat, ds = [p.d] ∧ Q (.lst (p.kids.map Pat.d)) m
omit M in
theorem S_within.mk {p : Pat} {m : Mu} {Q : D → Mu → Prop} {E : Addr → Option (List (Str × D)) → Mu → Prop} (h : Q (.lst (p.kids.map Pat.d)) m) : S_within [p.d] m Q E := ⟨p, rfl, h⟩
section
local macro_rules | `(tactic| wtm_at "nm") => `(tactic| first
  | ((with_reducible show AM.CE _ (Expr.Name (Str.ofString "pattern") _) _ _ _ _); refine AM.W.nm (i := 0) rfl rfl (by wtm_at "vis") ?_)
  | ((with_reducible show AM.CE _ (Expr.Name (Str.ofString "item") _) _ _ _ _); refine AM.W.nm (i := 1) rfl rfl (by wtm_at "vis") ?_))
local macro_rules | `(tactic| wtm_at "fn") => `(tactic| first
  | ((with_reducible show AM.CE _ (Expr.Call (Expr.Name (Str.ofString "tuple") _) _ _ _) _ _ _ _); refine AM.W.tupleOf M.NB_tuple ?_)
  | ((with_reducible show AM.CE _ (Expr.Call (Expr.Name (Str.ofString "isinstance") _) [_, Expr.Name (Str.ofString "tuple") _] _ _) _ _ _ _); refine AM.W.isi AM.TyS.tuple M.NB_isinstance M.NB_tuple ?_))
local macro_rules | `(tactic| wtm_at "lc") => `(tactic| first
  | ((with_reducible show AM.CE _ (Expr.ListComp _ [⟨Expr.Name (Str.ofString "item") _, _, _, 0⟩] _ _) _ _ _ _); refine AM.CE.lc (own := [("item", 1)]) rfl sc_within.nd (L2.blkOk_by (own := [("item", 1)]) (N := ["pattern", "item"]) (sc := defScope s_within) (by decide +kernel)) (AM.CGB.name rfl sc_within.nd (fun _ _ _ _ _ => by wtm_at "loc") (fun _ _ _ _ _ => by first | exact .inr rfl | exact .inl rfl)) ?_))
local macro_rules | `(tactic| wtm_at "lcL") => `(tactic| first
  | ((with_reducible show AM.CE _ (Expr.ListComp _ [⟨Expr.Name (Str.ofString "item") _, _, _, 0⟩] _ _) _ _ _ _); refine AM.CE.lcL (own := [("item", 1)]) rfl sc_within.nd (L2.blkOk_by (own := [("item", 1)]) (N := ["pattern", "item"]) (sc := defScope s_within) (by decide +kernel)) (AM.CGB.name rfl sc_within.nd (fun _ _ _ _ _ => by wtm_at "loc") (fun _ _ _ _ _ => by first | exact .inr rfl | exact .inl rfl)) ?_))
local macro_rules | `(tactic| wtm_at "ti") => `(tactic| first
  | ((with_reducible show AM.CI _ (Expr.Name (Str.ofString "item") _) _ _ _ _ _); refine AM.I.tup ?_))
local macro_rules | `(tactic| wtm_at "fc") => `(tactic| first
  | exact M.f_Lights_own_shape
  | exact M.f_Lights_own_pattern
  | exact M.f_Moment_way_round
  | exact M.f_Moment_is_chain
  | exact M.f_Moment_many
  | exact M.f_Moment_now
  | exact M.f_Plainly_own_shape
  | exact M.f_Plainly_own_pattern)
theorem b_within : FnG P w K mg base "within" 1 S_within :=
  gD M.D_within sc_within (fun ds m Q E ⟨p, h, _⟩ => by rw [h]; rfl) fun f cdv A outer s0 H E hr ds m Q Ex ⟨p, h, q⟩ => by
    subst h
    wtm_at "go"
    rw [Pat.d_eq]
    wtm_at "go"
    rw [cutD_tail]
    wtm_at "go"
    refine LcD.filt isTu id ?_ (fun d acc L hd hL => ⟨_, rfl, fun s H C cl fp => ?_, fun hp s H C cl fp => ?_⟩) (by rw [List.map_id, Pat.its_kids]; exact q)
    · have := p.its_len; omega
    · obtain ⟨n, hn⟩ := Pat.its_pl hd
      wtm_at "go"
      exact ⟨n, hn, _, rfl, isT_tu hn, rfl⟩
    · wtm_at "go"
      first | exact ⟨rfl, rfl⟩ | exact rfl
end
def S_is_plain : SpD := fun ds m Q _ => ∃ s its, ds = [.str s, .tup its] ∧ (D.tup its).isPy = true ∧ (D.tup its).py.depth ≤ 64 ∧ Q (.bl (plainB s its)) m
omit M in
theorem S_is_plain.mk {s : Str} {its : List D} {m : Mu} {Q : D → Mu → Prop} {E : Addr → Option (List (Str × D)) → Mu → Prop} (h : (D.tup its).isPy = true ∧ (D.tup its).py.depth ≤ 64 ∧ Q (.bl (plainB s its)) m) : S_is_plain [.str s, .tup its] m Q E := ⟨s, its, rfl, h⟩
section
local macro_rules | `(tactic| wtm_at "nm") => `(tactic| first
  | ((with_reducible show AM.CE _ (Expr.Name (Str.ofString "word") _) _ _ _ _); refine AM.W.nm (i := 0) rfl rfl (by wtm_at "vis") ?_)
  | ((with_reducible show AM.CE _ (Expr.Name (Str.ofString "items") _) _ _ _ _); refine AM.W.nm (i := 1) rfl rfl (by wtm_at "vis") ?_)
  | ((with_reducible show AM.CE _ (Expr.Name (Str.ofString "BARE") _) _ _ _ _); refine AM.W.gc M.c_BARE ?_ rfl)
  | ((with_reducible show AM.CE _ (Expr.Name (Str.ofString "WAYS") _) _ _ _ _); refine AM.W.gc M.c_WAYS ?_ rfl)
  | ((with_reducible show AM.CE _ (Expr.Name (Str.ofString "CHECKERED") _) _ _ _ _); refine AM.W.gc M.c_CHECKERED ?_ rfl)
  | ((with_reducible show AM.CE _ (Expr.Name (Str.ofString "EVERIES") _) _ _ _ _); refine AM.W.gc M.c_EVERIES ?_ rfl))
local macro_rules | `(tactic| wtm_at "fn") => `(tactic| first
  | ((with_reducible show AM.CE _ (Expr.Call (Expr.Name (Str.ofString "is_one_of") _) _ _ _) _ _ _ _); refine AM.W.call f_is_one_of hr (by first | decide | omega) ?_)
  | ((with_reducible show AM.CE _ (Expr.Call (Expr.Name (Str.ofString "is_between") _) _ _ _) _ _ _ _); refine AM.W.call f_is_between hr (by first | decide | omega) ?_)
  | ((with_reducible show AM.CE _ (Expr.Call (Expr.Name (Str.ofString "is_place") _) _ _ _) _ _ _ _); refine AM.W.call f_is_place hr (by first | decide | omega) ?_)
  | ((with_reducible show AM.CE _ (Expr.Call (Expr.Name (Str.ofString "len") _) _ _ _) _ _ _ _); refine AM.W.len M.NB_len ?_))
local macro_rules | `(tactic| wtm_at "ca") => `(tactic| first
  | ((with_reducible first | show AM.S_is_one_of _ _ _ _ | show AM.S_is_one_of _ _ _ _ _ | show AM.S_is_one_of _ _ _ _ _ _); first | refine AM.S_is_one_of.mk ?_ | refine AM.S_is_one_of.mk M ?_)
  | ((with_reducible first | show AM.S_is_between _ _ _ _ | show AM.S_is_between _ _ _ _ _ | show AM.S_is_between _ _ _ _ _ _); first | refine AM.S_is_between.mk ?_ | refine AM.S_is_between.mk M ?_)
  | ((with_reducible first | show AM.S_is_place _ _ _ _ | show AM.S_is_place _ _ _ _ _ | show AM.S_is_place _ _ _ _ _ _); first | refine AM.S_is_place.mk ?_ | refine AM.S_is_place.mk M ?_))
local macro_rules | `(tactic| wtm_at "fc") => `(tactic| first
  | exact M.f_Lights_own_shape
  | exact M.f_Lights_own_pattern
  | exact M.f_Moment_way_round
  | exact M.f_Moment_is_chain
  | exact M.f_Moment_many
  | exact M.f_Moment_now
  | exact M.f_Plainly_own_shape
  | exact M.f_Plainly_own_pattern)
theorem b_is_plain : FnG P w K mg base "is_plain" 3 S_is_plain :=
  gD M.D_is_plain sc_is_plain (fun ds m Q E ⟨v, l, h, _⟩ => by rw [h]; rfl) fun f cdv A outer s0 H E hr ds m Q Ex ⟨s, its, h, h1, h2, q⟩ => by
    subst h
    have f_is_between := b_is_between (P := P) (w := w) (base := base) M
    have f_is_place := b_is_place (P := P) (w := w) (base := base) M
    have f_is_one_of := b_is_one_of (P := P) (w := w) (base := base) M
    have hpl : ∀ d, d ∈ its → Pl d := fun d hd => isPy_pl (arePy_mem (tup_py ▸ h1) hd)
    match its, h1, h2, q, hpl with
    | [], h1, h2, q, hpl =>
      wtm_at "all"
      all_goals (try wtm_at "w0")
    | [a], h1, h2, q, hpl =>
      have pa := hpl a (by simp)
      wtm_at "all"
      all_goals (try wtm_at "w0")
    | [a, b], h1, h2, q, hpl =>
      have pa := hpl a (by simp)
      have pb := hpl b (by simp)
      wtm_at "all"
      all_goals (try wtm_at "w0")
      obtain ⟨i, rfl, h3, h4⟩ := btw_inv hc
      wtm_at "go"
      wtm_at "w0"
    | a :: b :: c :: r, h1, h2, q, hpl =>
      wtm_at "all"
      all_goals (try wtm_at "w0")
end
end
end
section
section
variable {P : Program} {w : World} {K : PySem.W.Frag} {mg : Str → Option Value} {base : Heap} (M : Mod K mg)
include M
def S_is_pattern (n : Nat) : SpD := fun ds m Q _ => ∃ v deep, ds = [v, .int deep] ∧ deep + n = 7 ∧ v.isPy = true ∧ v.py.depth ≤ 64 ∧ Q (.bl (patB n v)) m
omit M in
theorem S_is_pattern.mk {n : Nat} {v : D} {deep : Int} {m : Mu} {Q : D → Mu → Prop} {E : Addr → Option (List (Str × D)) → Mu → Prop} (h : deep + n = 7 ∧ v.isPy = true ∧ v.py.depth ≤ 64 ∧ Q (.bl (patB n v)) m) : S_is_pattern n [v, .int deep] m Q E := ⟨v, deep, rfl, h⟩
section
local macro_rules | `(tactic| wtm_at "nm") => `(tactic| first
  | ((with_reducible show AM.CE _ (Expr.Name (Str.ofString "value") _) _ _ _ _); refine AM.W.nm (i := 0) rfl rfl (by wtm_at "vis") ?_)
  | ((with_reducible show AM.CE _ (Expr.Name (Str.ofString "deep") _) _ _ _ _); refine AM.W.nm (i := 1) rfl rfl (by wtm_at "vis") ?_)
  | ((with_reducible show AM.CE _ (Expr.Name (Str.ofString "many") _) _ _ _ _); refine AM.W.nm (i := 2) rfl rfl (by wtm_at "vis") ?_)
  | ((with_reducible show AM.CE _ (Expr.Name (Str.ofString "word") _) _ _ _ _); refine AM.W.nm (i := 3) rfl rfl (by wtm_at "vis") ?_)
  | ((with_reducible show AM.CE _ (Expr.Name (Str.ofString "items") _) _ _ _ _); refine AM.W.nm (i := 4) rfl rfl (by wtm_at "vis") ?_)
  | ((with_reducible show AM.CE _ (Expr.Name (Str.ofString "item") _) _ _ _ _); refine AM.W.nm (i := 5) rfl rfl (by wtm_at "vis") ?_)
  | ((with_reducible show AM.CE _ (Expr.Name (Str.ofString "DEEPEST") _) _ _ _ _); refine AM.W.gc M.c_DEEPEST ?_ rfl)
  | ((with_reducible show AM.CE _ (Expr.Name (Str.ofString "DOUBLE") _) _ _ _ _); refine AM.W.gc M.c_DOUBLE ?_ rfl))
local macro_rules | `(tactic| wtm_at "fn") => `(tactic| first
  | ((with_reducible show AM.CE _ (Expr.Call (Expr.Name (Str.ofString "is_plain") _) _ _ _) _ _ _ _); refine AM.W.call f_is_plain hr (by first | decide | omega) ?_)
  | ((with_reducible show AM.CE _ (Expr.Call (Expr.Name (Str.ofString "is_pattern") _) _ _ _) _ _ _ _); refine AM.W.call f_is_pattern hr (by first | decide | omega) ?_)
  | ((with_reducible show AM.CE _ (Expr.Call (Expr.Name (Str.ofString "int") _) _ _ _) _ _ _ _); refine AM.W.intI M.NB_int ?_)
  | ((with_reducible show AM.CE _ (Expr.Call (Expr.Name (Str.ofString "all") _) _ _ _) _ _ _ _); refine AM.W.all rfl M.NB_all ?_)
  | ((with_reducible show AM.CE _ (Expr.Call (Expr.Name (Str.ofString "tuple") _) _ _ _) _ _ _ _); refine AM.W.tupleOf M.NB_tuple ?_)
  | ((with_reducible show AM.CE _ (Expr.Call (Expr.Name (Str.ofString "str") _) _ _ _) _ _ _ _); refine AM.W.strA M.NB_str ?_)
  | ((with_reducible show AM.CE _ (Expr.Call (Expr.Name (Str.ofString "len") _) _ _ _) _ _ _ _); refine AM.W.len M.NB_len ?_)
  | ((with_reducible show AM.CE _ (Expr.Call (Expr.Name (Str.ofString "isinstance") _) [_, Expr.Name (Str.ofString "int") _] _ _) _ _ _ _); refine AM.W.isi AM.TyS.int M.NB_isinstance M.NB_int ?_)
  | ((with_reducible show AM.CE _ (Expr.Call (Expr.Name (Str.ofString "isinstance") _) [_, Expr.Name (Str.ofString "str") _] _ _) _ _ _ _); refine AM.W.isi AM.TyS.str M.NB_isinstance M.NB_str ?_)
  | ((with_reducible show AM.CE _ (Expr.Call (Expr.Name (Str.ofString "isinstance") _) [_, Expr.Name (Str.ofString "tuple") _] _ _) _ _ _ _); refine AM.W.isi AM.TyS.tuple M.NB_isinstance M.NB_tuple ?_))
local macro_rules | `(tactic| wtm_at "ca") => `(tactic| first
  | ((with_reducible first | show AM.S_is_plain _ _ _ _ | show AM.S_is_plain _ _ _ _ _ | show AM.S_is_plain _ _ _ _ _ _); first | refine AM.S_is_plain.mk ?_ | refine AM.S_is_plain.mk M ?_)
  | ((with_reducible first | show AM.S_is_pattern _ _ _ _ | show AM.S_is_pattern _ _ _ _ _ | show AM.S_is_pattern _ _ _ _ _ _); first | refine AM.S_is_pattern.mk ?_ | refine AM.S_is_pattern.mk M ?_))
local macro_rules | `(tactic| wtm_at "as") => `(tactic| first
  | ((with_reducible show AM.CS _ (Stmt.Assign [Expr.Name (Str.ofString "many") _] _ _) _ _ _); refine AM.CS.set (i := 2) rfl (by wtm_at "loc") ?_ sc_is_pattern.nd (.inl rfl)))
local macro_rules | `(tactic| wtm_at "lc") => `(tactic| first
  | ((with_reducible show AM.CE _ (Expr.ListComp _ [⟨Expr.Name (Str.ofString "item") _, _, _, 0⟩] _ _) _ _ _ _); refine AM.CE.lc (own := [("item", 5)]) rfl sc_is_pattern.nd (L2.blkOk_by (own := [("item", 5)]) (N := ["value", "deep", "many", "word", "items", "item"]) (sc := defScope s_is_pattern) (by decide +kernel)) (AM.CGB.name rfl sc_is_pattern.nd (fun _ _ _ _ _ => by wtm_at "loc") (fun _ _ _ _ _ => by first | exact .inr rfl | exact .inl rfl)) ?_))
local macro_rules | `(tactic| wtm_at "lcL") => `(tactic| first
  | ((with_reducible show AM.CE _ (Expr.ListComp _ [⟨Expr.Name (Str.ofString "item") _, _, _, 0⟩] _ _) _ _ _ _); refine AM.CE.lcL (own := [("item", 5)]) rfl sc_is_pattern.nd (L2.blkOk_by (own := [("item", 5)]) (N := ["value", "deep", "many", "word", "items", "item"]) (sc := defScope s_is_pattern) (by decide +kernel)) (AM.CGB.name rfl sc_is_pattern.nd (fun _ _ _ _ _ => by wtm_at "loc") (fun _ _ _ _ _ => by first | exact .inr rfl | exact .inl rfl)) ?_))
local macro_rules | `(tactic| wtm_at "at") => `(tactic| first
  | ((with_reducible show AM.CS _ (Stmt.Assign [Expr.Tuple [Expr.Name (Str.ofString "word") _, Expr.Name (Str.ofString "items") _] _ _] (Expr.Tuple _ _ _) _) _ _ _); refine AM.CS.par (i := 3) (j := 4) rfl sc_is_pattern.nd rfl rfl (by decide) rfl rfl ?_ (by rfl)))
local macro_rules | `(tactic| wtm_at "ti") => `(tactic| first
  | ((with_reducible show AM.CI _ (Expr.Name (Str.ofString "item") _) _ _ _ _ _); refine AM.I.tup ?_))
local macro_rules | `(tactic| wtm_at "fc") => `(tactic| first
  | exact M.f_Lights_own_shape
  | exact M.f_Lights_own_pattern
  | exact M.f_Moment_way_round
  | exact M.f_Moment_is_chain
  | exact M.f_Moment_many
  | exact M.f_Moment_now
  | exact M.f_Plainly_own_shape
  | exact M.f_Plainly_own_pattern)
theorem b_is_pattern : ∀ n, FnG P w K mg base "is_pattern" (4 + n) (S_is_pattern n) := fun n => by
  induction n with
  | zero =>
    refine gD M.D_is_pattern sc_is_pattern (fun ds m Q E ⟨v, l, h, _⟩ => by rw [h]; rfl) fun f cdv A outer s0 H E hr ds m Q Ex ⟨v, deep, h, hn, h1, h2, q⟩ => ?_
    subst h
    obtain rfl : deep = 7 := by omega
    wtm_at "go"
    exact q
  | succ n ih =>
    refine gD (k := 4 + n) M.D_is_pattern sc_is_pattern (fun ds m Q E ⟨v, l, h, _⟩ => by rw [h]; rfl) fun f cdv A outer s0 H E hr ds m Q Ex ⟨v, deep, h, hn, h1, h2, q⟩ => ?_
    subst h
    have f_is_pattern := ih
    have f_is_plain := (b_is_plain (P := P) (w := w) (base := base) M)
    wtm_at "go"
    obtain ⟨nm, hnm⟩ := isPy_pl h1
    cases v <;> cases hnm
    case succ.tup.refl its _ =>
      cases its with
      | nil => wtm_at "go"; exact q
      | cons a r =>
        wtm_at "go"
        refine aEq.nilT h1 h2 ?_
        wtm_at "go"
        have ha : a.isPy = true := arePy_mem (tup_py ▸ h1) (by simp)
        obtain ⟨nm, hnm⟩ := isPy_pl ha
        obtain ⟨g1, g2⟩ := tup_tail h1 h2
        refine aTy.mk hnm ?_
        cases a <;> cases hnm
        case str.refl s _ =>
          wtm_at "go"
          rw [cutD_tail]
          by_cases hd : inS s ["and", "or", "unlike"] = true
          · wtm_at "go"
            refine ifD (fun hc => ?_) (fun hc => ?_)
            · wtm_at "go"
              refine LcD.map1 (fun d => .bl (patB n d)) (by omega) (fun d acc L hd hL => ⟨_, rfl, fun s2 H2 C cl fp => ?_⟩) ?_
              · wtm_at "go"
                refine ⟨arePy_mem (tup_py ▸ g1) hd, ?_, rfl, rfl⟩
                have := depth_mem (Nat.le_refl _) hd
                rw [tup_depth] at g2; omega
              · wtm_at "go"
                refine ⟨r.map (patB n), by rw [List.map_map]; rfl, ?_⟩
                refine toQb q ?_
                unfold patB
                rw [if_pos hd, List.all_map]
                have : (r.length == 2) = true := by simp; omega
                rw [this]; rfl
            · wtm_at "go"
              refine toQb q ?_
              unfold patB
              rw [if_pos hd]
              have : (r.length == 2) = false := by simp; omega
              rw [this]; rfl
          · rw [Bool.not_eq_true] at hd
            by_cases hn : s = "not"
            · subst hn
              wtm_at "go"
              refine ifD (fun hc => ?_) (fun hc => ?_)
              · wtm_at "go"
                have hc2 : (r.length : Int) = 1 := hc
                refine LcD.map1 (fun d => .bl (patB n d)) (by omega) (fun d acc L hd hL => ⟨_, rfl, fun s2 H2 C cl fp => ?_⟩) ?_
                · wtm_at "go"
                  refine ⟨arePy_mem (tup_py ▸ g1) hd, ?_, rfl, rfl⟩
                  have := depth_mem (Nat.le_refl _) hd
                  rw [tup_depth] at g2; omega
                · wtm_at "go"
                  refine ⟨r.map (patB n), by rw [List.map_map]; rfl, ?_⟩
                  refine toQb q ?_
                  unfold patB
                  rw [if_neg (by rw [hd]; decide), if_pos rfl, List.all_map]
                  have : (r.length == 1) = true := by simp; omega
                  rw [this]; rfl
              · wtm_at "go"
                have hc2 : ¬ (r.length : Int) = 1 := hc
                refine toQb q ?_
                unfold patB
                rw [if_neg (by rw [hd]; decide), if_pos rfl]
                have : (r.length == 1) = false := by simp; omega
                rw [this]; rfl
            · wtm_at "go"
              refine ifDT (by rw [if_neg (by simpa using hn)]) ?_
              wtm_at "go"
              refine toQb q ?_
              unfold patB
              rw [if_neg (by rw [hd]; decide), if_neg hn]
        all_goals (refine aB.mk ?_; wtm_at "go"; exact q)
    all_goals (wtm_at "go"; exact q)
end
end
end
section
theorem subs_take (p : Pat) (i : Nat) : ((p.kids.take i).map Pat.subs).flatten.length ≤ p.cnt := by
  cases p <;> simp [Pat.kids]
  case not p =>
    cases i with
    | zero => simp
    | succ i => simp [Pat.subs_len, Pat.cnt]
  case bin o p q =>
    match i with
    | 0 => simp
    | 1 => simp [Pat.subs_len, Pat.cnt]; omega
    | i + 2 => simp [Pat.subs_len, Pat.cnt]
section
variable {P : Program} {w : World} {K : PySem.W.Frag} {mg : Str → Option Value} {base : Heap} (M : Mod K mg)
include M
def S_all_patterns (n : Nat) : SpD := fun ds m Q _ => ∃ p : Pat, ds = [p.d] ∧ p.dep < n ∧ p.cnt ≤ 1000 ∧ Q (.lst (p.subs.map Pat.d)) m
omit M in
theorem S_all_patterns.mk {n : Nat} {p : Pat} {m : Mu} {Q : D → Mu → Prop} {E : Addr → Option (List (Str × D)) → Mu → Prop} (h : p.dep < n ∧ p.cnt ≤ 1000 ∧ Q (.lst (p.subs.map Pat.d)) m) : S_all_patterns n [p.d] m Q E := ⟨p, rfl, h⟩
section
local macro_rules | `(tactic| wtm_at "nm") => `(tactic| first
  | ((with_reducible show AM.CE _ (Expr.Name (Str.ofString "pattern") _) _ _ _ _); refine AM.W.nm (i := 0) rfl rfl (by wtm_at "vis") ?_)
  | ((with_reducible show AM.CE _ (Expr.Name (Str.ofString "found") _) _ _ _ _); refine AM.W.nm (i := 1) rfl rfl (by wtm_at "vis") ?_)
  | ((with_reducible show AM.CE _ (Expr.Name (Str.ofString "inner") _) _ _ _ _); refine AM.W.nm (i := 2) rfl rfl (by wtm_at "vis") ?_))
local macro_rules | `(tactic| wtm_at "fn") => `(tactic| first
  | ((with_reducible show AM.CE _ (Expr.Call (Expr.Name (Str.ofString "within") _) _ _ _) _ _ _ _); refine AM.W.call f_within hr (by first | decide | omega) ?_)
  | ((with_reducible show AM.CE _ (Expr.Call (Expr.Name (Str.ofString "all_patterns") _) _ _ _) _ _ _ _); refine AM.W.call f_all_patterns hr (by first | decide | omega) ?_))
local macro_rules | `(tactic| wtm_at "ca") => `(tactic| first
  | ((with_reducible first | show AM.S_within _ _ _ _ | show AM.S_within _ _ _ _ _ | show AM.S_within _ _ _ _ _ _); first | refine AM.S_within.mk ?_ | refine AM.S_within.mk M ?_)
  | ((with_reducible first | show AM.S_all_patterns _ _ _ _ | show AM.S_all_patterns _ _ _ _ _ | show AM.S_all_patterns _ _ _ _ _ _); first | refine AM.S_all_patterns.mk ?_ | refine AM.S_all_patterns.mk M ?_))
local macro_rules | `(tactic| wtm_at "as") => `(tactic| first
  | ((with_reducible show AM.CS _ (Stmt.Assign [Expr.Name (Str.ofString "found") _] (Expr.ListComp _ _ _ _) _) _ _ _); refine AM.CS.set (i := 1) rfl (by wtm_at "loc") ?_ sc_all_patterns.nd (.inl rfl); wtm_at "lcL")
  | ((with_reducible show AM.CS _ (Stmt.Assign [Expr.Name (Str.ofString "found") _] (Expr.List _ _) _) _ _ _); refine AM.CS.set (i := 1) rfl (by wtm_at "loc") ?_ sc_all_patterns.nd (.inl rfl); refine AM.CE.newl ?_)
  | ((with_reducible show AM.CS _ (Stmt.Assign [Expr.Name (Str.ofString "found") _] _ _) _ _ _); refine AM.CS.set (i := 1) rfl (by wtm_at "loc") ?_ sc_all_patterns.nd (.inl rfl)))
local macro_rules | `(tactic| wtm_at "rz") => `(tactic| first
  | ((with_reducible show AM.CS _ (Stmt.Return (some (Expr.Name (Str.ofString "found") _)) _) _ _ _); refine AM.CS.ret (AM.W.fz ?_)))
local macro_rules | `(tactic| wtm_at "fo") => `(tactic| first
  | ((with_reducible show AM.CS _ (Stmt.For (Expr.Name (Str.ofString "inner") _) _ _ _ _) _ _ _); refine AM.S.for rfl (AM.CG.name (i := 2) rfl (by wtm_at "loc") sc_all_patterns.nd (.inl rfl)) ?_))
local macro_rules | `(tactic| wtm_at "fc") => `(tactic| first
  | exact M.f_Lights_own_shape
  | exact M.f_Lights_own_pattern
  | exact M.f_Moment_way_round
  | exact M.f_Moment_is_chain
  | exact M.f_Moment_many
  | exact M.f_Moment_now
  | exact M.f_Plainly_own_shape
  | exact M.f_Plainly_own_pattern)
theorem b_all_patterns : ∀ n, FnG P w K mg base "all_patterns" (2 + n) (S_all_patterns n) := fun n => by
  induction n with
  | zero => exact (gD (k := 1) M.D_all_patterns sc_all_patterns (fun ds m Q E ⟨v, h, h2, _⟩ => absurd h2 (Nat.not_lt_zero _)) fun f cdv A outer s0 H E hr ds m Q Ex ⟨v, h, h2, q⟩ => absurd h2 (Nat.not_lt_zero _))
  | succ n ih =>
    refine gD (k := 2 + n) M.D_all_patterns sc_all_patterns (fun ds m Q E ⟨p, h, _⟩ => by rw [h]; rfl) fun f cdv A outer s0 H E hr ds m Q Ex ⟨p, h, hd, hcn, q⟩ => ?_
    subst h
    have f_all_patterns := ih
    have f_within := (b_within (P := P) (w := w) (base := base) M)
    wtm_at "go"
    intro a ha
    wtm_at "go"
    refine ⟨fun i Δ' m' => ∃ x, Δ' = [some p.d, some (.loc a), x] ∧ m' = m.set a (.l ((p :: ((p.kids.take i).map Pat.subs).flatten).map Pat.d)), ⟨_, rfl, rfl⟩, fun i d Δ' m' hd2 ⟨x, hx, hm⟩ => ?_, fun Δ' m' ⟨x, hx, hm⟩ => ?_⟩
    · obtain ⟨k, hk, rfl⟩ := map_get hd2
      subst hx; subst hm
      have hmem := List.mem_of_getElem? hk
      have h1 := Pat.kids_dep hmem
      have h2 := Pat.kids_cnt hmem
      refine ⟨_, rfl, ?_⟩
      wtm_at "go"
      have hl := subs_take p i
      refine ⟨by rw [List.length_map, List.length_map, List.length_cons, Pat.subs_len]; omega, _, rfl, ?_⟩
      rw [Mu.set_set, List.take_succ, hk]
      simp
    · subst hx; subst hm
      wtm_at "go"
      refine toQ q ?_ (Mu.del_set ha)
      rw [List.length_map, List.take_length, ← Pat.subs_kids]
end
def S_Lights : SpD := fun ds m Q E => ∃ a sh pt, ds = [.loc a, sh, pt] ∧ m a = some (.o M.A_Lights []) ∧ Pl sh ∧ pt.isPy = true ∧ pt.py.depth ≤ 64 ∧
  (if oneB sh ["chain", "ring"] = true then if patB 7 pt = true then ∀ p : Pat, pt = p.d → p.ok → p.dep < 7 → p.cnt ≤ 1000 ∧ if decide (15 < (p.cnt : Int)) = true then E M.A_BadPattern none m else Q .non (m.set a (.o M.A_Lights [("own_shape", sh), ("own_pattern", pt)])) else E M.A_BadPattern none m else E M.A_BadShape none m)
section
local macro_rules | `(tactic| wtm_at "nm") => `(tactic| first
  | ((with_reducible show AM.CE _ (Expr.Name (Str.ofString "self") _) _ _ _ _); refine AM.W.nm (i := 0) rfl rfl (by wtm_at "vis") ?_)
  | ((with_reducible show AM.CE _ (Expr.Name (Str.ofString "shape") _) _ _ _ _); refine AM.W.nm (i := 1) rfl rfl (by wtm_at "vis") ?_)
  | ((with_reducible show AM.CE _ (Expr.Name (Str.ofString "pattern") _) _ _ _ _); refine AM.W.nm (i := 2) rfl rfl (by wtm_at "vis") ?_)
  | ((with_reducible show AM.CE _ (Expr.Name (Str.ofString "MOST_PATTERNS") _) _ _ _ _); refine AM.W.gc M.c_MOST_PATTERNS ?_ rfl)
  | ((with_reducible show AM.CE _ (Expr.Name (Str.ofString "CHAIN") _) _ _ _ _); refine AM.W.gc M.c_CHAIN ?_ rfl)
  | ((with_reducible show AM.CE _ (Expr.Name (Str.ofString "RING") _) _ _ _ _); refine AM.W.gc M.c_RING ?_ rfl))
local macro_rules | `(tactic| wtm_at "fn") => `(tactic| first
  | ((with_reducible show AM.CE _ (Expr.Call (Expr.Name (Str.ofString "is_one_of") _) _ _ _) _ _ _ _); refine AM.W.call f_is_one_of hr (by first | decide | omega) ?_)
  | ((with_reducible show AM.CE _ (Expr.Call (Expr.Name (Str.ofString "is_pattern") _) _ _ _) _ _ _ _); refine AM.W.call f_is_pattern hr (by first | decide | omega) ?_)
  | ((with_reducible show AM.CE _ (Expr.Call (Expr.Name (Str.ofString "all_patterns") _) _ _ _) _ _ _ _); refine AM.W.call f_all_patterns hr (by first | decide | omega) ?_)
  | ((with_reducible show AM.CE _ (Expr.Call (Expr.Name (Str.ofString "BadShape") _) _ _ _) _ _ _ _); refine AM.W.makeX f_BadShape hr (by first | decide | omega) ?_)
  | ((with_reducible show AM.CE _ (Expr.Call (Expr.Name (Str.ofString "BadPattern") _) _ _ _) _ _ _ _); refine AM.W.makeX f_BadPattern hr (by first | decide | omega) ?_)
  | ((with_reducible show AM.CE _ (Expr.Call (Expr.Name (Str.ofString "len") _) _ _ _) _ _ _ _); refine AM.W.len M.NB_len ?_))
local macro_rules | `(tactic| wtm_at "ca") => `(tactic| first
  | ((with_reducible first | show AM.S_is_one_of _ _ _ _ | show AM.S_is_one_of _ _ _ _ _ | show AM.S_is_one_of _ _ _ _ _ _); first | refine AM.S_is_one_of.mk ?_ | refine AM.S_is_one_of.mk M ?_)
  | ((with_reducible first | show AM.S_is_pattern _ _ _ _ | show AM.S_is_pattern _ _ _ _ _ | show AM.S_is_pattern _ _ _ _ _ _); first | refine AM.S_is_pattern.mk ?_ | refine AM.S_is_pattern.mk M ?_)
  | ((with_reducible first | show AM.S_all_patterns _ _ _ _ | show AM.S_all_patterns _ _ _ _ _ | show AM.S_all_patterns _ _ _ _ _ _); first | refine AM.S_all_patterns.mk ?_ | refine AM.S_all_patterns.mk M ?_))
local macro_rules | `(tactic| wtm_at "fc") => `(tactic| first
  | exact M.f_Lights_own_shape
  | exact M.f_Lights_own_pattern
  | exact M.f_Moment_way_round
  | exact M.f_Moment_is_chain
  | exact M.f_Moment_many
  | exact M.f_Moment_now
  | exact M.f_Plainly_own_shape
  | exact M.f_Plainly_own_pattern)
local macro_rules | `(tactic| wtm_at "ra") => `(tactic| first
  | ((with_reducible show AM.CS _ (Stmt.Raise (some (Expr.Call (Expr.Name (Str.ofString "BadShape") _) [] _ _)) none _) _ _ _); refine AM.CS.raise M.x_BadShape rfl ?_)
  | ((with_reducible show AM.CS _ (Stmt.Raise (some (Expr.Call (Expr.Name (Str.ofString "BadPattern") _) [] _ _)) none _) _ _ _); refine AM.CS.raise M.x_BadPattern rfl ?_))
theorem b_Lights : CnG P w K mg base "Lights" M.A_Lights 13 (S_Lights M) :=
  gC M.D_Lights sc_Lights___init__ (fun ds m Q E ⟨a, sh, pt, h, _⟩ => by rw [h]; rfl) fun f cdv A outer s0 H E hr ds m Q Ex ⟨a, sh, pt, h, hm, hs, h1, h2, q⟩ => by
    subst h
    have f_is_one_of := b_is_one_of (P := P) (w := w) (base := base) M
    have f_is_pattern := b_is_pattern (P := P) (w := w) (base := base) M 7
    have f_all_patterns := b_all_patterns (P := P) (w := w) (base := base) M 7
    by_cases c1 : oneB sh ["chain", "ring"] = true
    · rw [if_pos c1] at q
      by_cases c2 : patB 7 pt = true
      · rw [if_pos c2] at q
        obtain ⟨p, rfl, ho, hd⟩ := patB_inv 7 pt c2
        obtain ⟨hn, q⟩ := q p rfl ho hd
        wtm_at "go"
        have e : (15 < (((p.subs.map Pat.d).length : Nat) : Int)) = (15 < (p.cnt : Int)) := by rw [List.length_map, Pat.subs_len]
        simp only [e]
        by_cases c3 : (15 < (p.cnt : Int))
        · rw [if_pos (decide_eq_true c3)] at q
          wtm_at "go"
          exact q
        · rw [if_neg (by rw [decide_eq_false c3]; decide)] at q
          wtm_at "go"
          refine toQ q rfl ?_
          rw [Mu.set_set]; rfl
      · rw [if_neg c2] at q
        rw [Bool.not_eq_true] at c2
        wtm_at "go"
        exact q
    · rw [if_neg c1] at q
      rw [Bool.not_eq_true] at c1
      wtm_at "go"
      exact q
end
end
end
section
section
variable {P : Program} {w : World} {K : PySem.W.Frag} {mg : Str → Option Value} {base : Heap} (M : Mod K mg)
include M
def lit (sh : Str) (p : Pat) : D := .ins M.A_Lights [("own_shape", .str sh), ("own_pattern", p.d)]
theorem S_Lights.mk {a : Addr} {sh : Str} {p : Pat} {m : Mu} {Q : D → Mu → Prop} {E : Addr → Option (List (Str × D)) → Mu → Prop} (h : m a = some (.o M.A_Lights []) ∧ inS sh ["chain", "ring"] = true ∧ p.ok ∧ p.dep ≤ 6 ∧ p.cnt ≤ 15 ∧ Q .non (m.set a (.o M.A_Lights [("own_shape", .str sh), ("own_pattern", p.d)]))) : S_Lights M [.loc a, .str sh, p.d] m Q E := by
  obtain ⟨h1, h2, h3, h4, h5, h6⟩ := h
  have g := Pat.depth_py p
  refine ⟨a, _, _, rfl, h1, ⟨_, rfl⟩, pat_isPy p, by omega, ?_⟩
  have e1 : oneB (.str sh) ["chain", "ring"] = true := h2
  rw [if_pos e1, if_pos (patB_pat p 7 h3 (by omega))]
  intro p' hp ho hd
  have e2 : p' = p := by
    have z := pat_eqv p p'
    rw [← hp, pat_eqv p p] at z
    simp at z
    exact z.symm
  subst e2
  refine ⟨by omega, ?_⟩
  rw [if_neg (by rw [decide_eq_false (by omega)]; decide)]
  exact h6
def S_Lights___eq__ : SpD := fun ds m Q _ => ∃ (d1 d2 : D) (sh sh2 : Str) (p q : Pat), ds = [lit M sh p, lit M sh2 q] ∧ p.dep ≤ 40 ∧ q.dep ≤ 40 ∧ Q (.bl (decide (sh = sh2) && decide (p = q))) m
theorem S_Lights___eq__.mk {sh sh2 : Str} {p q : Pat} {m : Mu} {Q : D → Mu → Prop} {E : Addr → Option (List (Str × D)) → Mu → Prop} (h : p.dep ≤ 40 ∧ q.dep ≤ 40 ∧ Q (.bl (decide (sh = sh2) && decide (p = q))) m) : S_Lights___eq__ M [lit M sh p, lit M sh2 q] m Q E := ⟨.non, .non, sh, sh2, p, q, rfl, h⟩
section
local macro_rules | `(tactic| wtm_at "nm") => `(tactic| first
  | ((with_reducible show AM.CE _ (Expr.Name (Str.ofString "self") _) _ _ _ _); refine AM.W.nm (i := 0) rfl rfl (by wtm_at "vis") ?_)
  | ((with_reducible show AM.CE _ (Expr.Name (Str.ofString "other") _) _ _ _ _); refine AM.W.nm (i := 1) rfl rfl (by wtm_at "vis") ?_))
local macro_rules | `(tactic| wtm_at "io") => `(tactic| first
  | refine AM.aIsO.ins M.i_Lights (.inl rfl) ?_
  | refine AM.aIsO.tup M.i_Lights ?_)
local macro_rules | `(tactic| wtm_at "fn") => `(tactic| first
  | ((with_reducible show AM.CE _ (Expr.Call (Expr.Name (Str.ofString "isinstance") _) [_, Expr.Name (Str.ofString "Lights") _] _ _) _ _ _ _); refine AM.W.isiO M.NB_isinstance M.D_Lights.g ?_)
  | ((with_reducible show AM.CE _ (Expr.Call (Expr.Name (Str.ofString "Lights") _) _ _ _) _ _ _ _); refine AM.W.makeX f_Lights hr (by first | decide | omega) ?_))
local macro_rules | `(tactic| wtm_at "fc") => `(tactic| first
  | exact M.f_Lights_own_shape
  | exact M.f_Lights_own_pattern
  | exact M.f_Moment_way_round
  | exact M.f_Moment_is_chain
  | exact M.f_Moment_many
  | exact M.f_Moment_now
  | exact M.f_Plainly_own_shape
  | exact M.f_Plainly_own_pattern)
end
end
end
section
section
variable {P : Program} {w : World} {K : PySem.W.Frag} {mg : Str → Option Value} {base : Heap} (M : Mod K mg)
include M
def S__law_random : SpD := fun ds m Q _ => ∃ (ns : List Int) (salt : Int), ds = [.fz (ns.map .int), .int salt] ∧ ns.length ≤ 63 ∧ 0 ≤ salt ∧ salt < 2147483647 ∧ ∀ a ds', m a = none → DrI ds' → Q (.loc a) (m.set a (.l ds'))
omit M in
theorem S__law_random.mk {ns : List Int} {salt : Int} {m : Mu} {Q : D → Mu → Prop} {E : Addr → Option (List (Str × D)) → Mu → Prop} (h : ns.length ≤ 63 ∧ 0 ≤ salt ∧ salt < 2147483647 ∧ ∀ a ds', m a = none → DrI ds' → Q (.loc a) (m.set a (.l ds'))) : S__law_random [.fz (ns.map .int), .int salt] m Q E := ⟨ns, salt, rfl, h⟩
section
local macro_rules | `(tactic| wtm_at "nm") => `(tactic| first
  | ((with_reducible show AM.CE _ (Expr.Name (Str.ofString "_law_script") _) _ _ _ _); refine AM.W.nm (i := 0) rfl rfl (by wtm_at "vis") ?_)
  | ((with_reducible show AM.CE _ (Expr.Name (Str.ofString "_law_salt") _) _ _ _ _); refine AM.W.nm (i := 1) rfl rfl (by wtm_at "vis") ?_)
  | ((with_reducible show AM.CE _ (Expr.Name (Str.ofString "_law_seed") _) _ _ _ _); refine AM.W.nm (i := 2) rfl rfl (by wtm_at "vis") ?_)
  | ((with_reducible show AM.CE _ (Expr.Name (Str.ofString "_law_cell") _) _ _ _ _); refine AM.W.nm (i := 3) rfl rfl (by wtm_at "vis") ?_))
local macro_rules | `(tactic| wtm_at "fn") => `(tactic| first
  | ((with_reducible show AM.CE _ (Expr.Call (Expr.Name (Str.ofString "int") _) _ _ _) _ _ _ _); refine AM.W.intI M.NB_int ?_)
  | ((with_reducible show AM.CE _ (Expr.Call (Expr.Name (Str.ofString "abs") _) _ _ _) _ _ _ _); refine AM.W.abs M.NB_abs ?_))
local macro_rules | `(tactic| wtm_at "as") => `(tactic| first
  | ((with_reducible show AM.CS _ (Stmt.Assign [Expr.Name (Str.ofString "_law_seed") _] _ _) _ _ _); refine AM.CS.set (i := 2) rfl (by wtm_at "loc") ?_ sc__law_random.nd (.inl rfl)))
local macro_rules | `(tactic| wtm_at "lc") => `(tactic| first
  | ((with_reducible show AM.CE _ (Expr.ListComp _ [⟨Expr.Name (Str.ofString "_law_cell") _, _, _, 0⟩] _ _) _ _ _ _); refine AM.CE.lc (own := [("_law_cell", 3)]) rfl sc__law_random.nd (L2.blkOk_by (own := [("_law_cell", 3)]) (N := ["_law_script", "_law_salt", "_law_seed", "_law_cell"]) (sc := defScope s__law_random) (by decide +kernel)) (AM.CGB.name rfl sc__law_random.nd (fun _ _ _ _ _ => by wtm_at "loc") (fun _ _ _ _ _ => by first | exact .inr rfl | exact .inl rfl)) ?_))
local macro_rules | `(tactic| wtm_at "lcL") => `(tactic| first
  | ((with_reducible show AM.CE _ (Expr.ListComp _ [⟨Expr.Name (Str.ofString "_law_cell") _, _, _, 0⟩] _ _) _ _ _ _); refine AM.CE.lcL (own := [("_law_cell", 3)]) rfl sc__law_random.nd (L2.blkOk_by (own := [("_law_cell", 3)]) (N := ["_law_script", "_law_salt", "_law_seed", "_law_cell"]) (sc := defScope s__law_random) (by decide +kernel)) (AM.CGB.name rfl sc__law_random.nd (fun _ _ _ _ _ => by wtm_at "loc") (fun _ _ _ _ _ => by first | exact .inr rfl | exact .inl rfl)) ?_))
local macro_rules | `(tactic| wtm_at "fo") => `(tactic| first
  | ((with_reducible show AM.CS _ (Stmt.For (Expr.Name (Str.ofString "_law_cell") _) _ _ _ _) _ _ _); refine AM.S.for rfl (AM.CG.name (i := 3) rfl (by wtm_at "loc") sc__law_random.nd (.inl rfl)) ?_))
local macro_rules | `(tactic| wtm_at "fc") => `(tactic| first
  | exact M.f_Lights_own_shape
  | exact M.f_Lights_own_pattern
  | exact M.f_Moment_way_round
  | exact M.f_Moment_is_chain
  | exact M.f_Moment_many
  | exact M.f_Moment_now
  | exact M.f_Plainly_own_shape
  | exact M.f_Plainly_own_pattern)
theorem b__law_random : FnG P w K mg base "_law_random" 1 S__law_random :=
  gD M.D__law_random sc__law_random (fun ds m Q E ⟨v, l, h, _⟩ => by rw [h]; rfl) fun f cdv A outer s0 H E hr ds m Q Ex ⟨ns, salt, h, hl, h1, h2, q⟩ => by
    subst h
    wtm_at "go"
    refine ⟨fun i Δ' m' => ∃ (s : Int) (x : Option D), Δ' = [some (.fz (ns.map .int)), some (.int salt), some (.int s), x] ∧ m' = m ∧ 0 ≤ s ∧ s < 2147483647, ⟨salt, _, rfl, rfl, h1, h2⟩, fun i d Δ' m' hd2 ⟨s, x, hx, hm, g1, g2⟩ => ?_, fun Δ' m' ⟨s, x, hx, hm, g1, g2⟩ => ?_⟩
    · obtain ⟨k, hk, rfl⟩ := map_get hd2
      subst hx; subst hm
      refine ⟨_, rfl, ?_⟩
      wtm_at "go"
      exact ⟨_, _, rfl, rfl, by omega, by omega⟩
    · subst hx; subst hm
      refine CSs.one ?_
      refine CS.ret ?_
      refine W.plusL ?_
      wtm_at "go"
      refine LcD.filt (fun d => decide (1000000000000000000 ≤ intOf d)) id (by rw [List.length_map]; omega) (fun d acc L hd hL => ⟨_, rfl, fun s2 H2 C cl fp => ?_, fun hp s2 H2 C cl fp => ?_⟩) ?_
      · obtain ⟨k, hk, rfl⟩ := List.mem_map.mp hd
        wtm_at "go"
        refine ⟨?_, rfl⟩
        show decide ((10 : Int) ^ (18 : Int).toNat ≤ k) = decide (1000000000000000000 ≤ k)
        have : (10 : Int) ^ (18 : Int).toNat = 1000000000000000000 := rfl
        rw [this]
      · obtain ⟨k, hk, rfl⟩ := List.mem_map.mp hd
        wtm_at "go"
        exact rfl
      · have e : ∃ zs : List Int, ((ns.map D.int).filter (fun d => decide (1000000000000000000 ≤ intOf d))).map id = zs.map D.int ∧ zs.length ≤ 63 := by
          refine ⟨ns.filter (fun d => decide (1000000000000000000 ≤ d)), ?_, Nat.le_trans (List.length_filter_le _ _) hl⟩
          rw [List.map_id, List.filter_map]; rfl
        obtain ⟨zs, e, hz⟩ := e
        refine ⟨_, _, .inl rfl, .inl rfl, ?_, fun p hp => q p _ hp ?_⟩
        · rw [e, List.length_map]; show 2 + zs.length ≤ _; omega
        · rw [e]; exact DrI.mk g1 g2 (by omega)
end
def S__law_below : SpD := fun ds m Q _ => ∃ (a : Addr) (ds0 : List D) (size : Int), ds = [.loc a, .int size] ∧ m a = some (.l ds0) ∧ DrI ds0 ∧ 0 < size ∧ size < 1073741824 ∧ ∀ (r : Int) ds', 0 ≤ r → r < size → DrI ds' → Q (.int r) (m.set a (.l ds'))
omit M in
theorem S__law_below.mk {a : Addr} {size : Int} {m : Mu} {Q : D → Mu → Prop} {E : Addr → Option (List (Str × D)) → Mu → Prop} (h : aLoc m (.loc a) fun _ ds0 => DrI ds0 ∧ 0 < size ∧ size < 1073741824 ∧ ∀ (r : Int) ds', 0 ≤ r → r < size → DrI ds' → Q (.int r) (m.set a (.l ds'))) : S__law_below [.loc a, .int size] m Q E := by
  obtain ⟨l, ds0, z, h1, h2⟩ := h
  cases z
  exact ⟨a, ds0, size, rfl, h1, h2⟩
section
local macro_rules | `(tactic| wtm_at "nm") => `(tactic| first
  | ((with_reducible show AM.CE _ (Expr.Name (Str.ofString "_law_d") _) _ _ _ _); refine AM.W.nm (i := 0) rfl rfl (by wtm_at "vis") ?_)
  | ((with_reducible show AM.CE _ (Expr.Name (Str.ofString "_law_size") _) _ _ _ _); refine AM.W.nm (i := 1) rfl rfl (by wtm_at "vis") ?_)
  | ((with_reducible show AM.CE _ (Expr.Name (Str.ofString "_law_result") _) _ _ _ _); refine AM.W.nm (i := 2) rfl rfl (by wtm_at "vis") ?_))
local macro_rules | `(tactic| wtm_at "fn") => `(tactic| first
  | ((with_reducible show AM.CE _ (Expr.Call (Expr.Name (Str.ofString "int") _) _ _ _) _ _ _ _); refine AM.W.intI M.NB_int ?_)
  | ((with_reducible show AM.CE _ (Expr.Call (Expr.Name (Str.ofString "len") _) _ _ _) _ _ _ _); refine AM.W.len M.NB_len ?_))
local macro_rules | `(tactic| wtm_at "as") => `(tactic| first
  | ((with_reducible show AM.CS _ (Stmt.Assign [Expr.Name (Str.ofString "_law_result") _] _ _) _ _ _); refine AM.CS.set (i := 2) rfl (by wtm_at "loc") ?_ sc__law_below.nd (.inl rfl)))
local macro_rules | `(tactic| wtm_at "fc") => `(tactic| first
  | exact M.f_Lights_own_shape
  | exact M.f_Lights_own_pattern
  | exact M.f_Moment_way_round
  | exact M.f_Moment_is_chain
  | exact M.f_Moment_many
  | exact M.f_Moment_now
  | exact M.f_Plainly_own_shape
  | exact M.f_Plainly_own_pattern)
theorem b__law_below : FnG P w K mg base "_law_below" 1 S__law_below :=
  gD M.D__law_below sc__law_below (fun ds m Q E ⟨v, l, _, h, _⟩ => by rw [h]; rfl) fun f cdv A outer s0 H E hr ds m Q Ex ⟨a, ds0, size, h, hm, ⟨x, y, zs, e, g1, g2, g3⟩, h1, h2, q⟩ => by
    subst h
    subst e
    wtm_at "all"
    · cases zs with
      | nil => exact absurd hc (by show ¬ (2 < ((2 : Nat) : Int)); decide)
      | cons z zs =>
        have hz : zs.length ≤ 99 := by rw [List.length_cons] at g3; omega
        refine ⟨2, .int z, by decide, ?_, rfl, ?_⟩
        · unfold seqIndex?
          simp; omega
        · wtm_at "all"
          all_goals rw [Mu.set_set]
          · rw [Mu.set_set]
            exact q _ _ (Int.emod_nonneg _ (by omega)) (Int.emod_lt_of_pos _ h1) (DrI.mk g1 g2 (by omega))
          · rw [Mu.set_set]
            exact q _ _ (Int.emod_nonneg _ (by omega)) (Int.emod_lt_of_pos _ h1) (DrI.mk (by omega) (by omega) (by omega))
    · exact q _ _ (Int.emod_nonneg _ (by omega)) (Int.emod_lt_of_pos _ h1) (DrI.mk (by omega) (by omega) (by omega))
    · wtm_at "go"
      exact q _ _ (Int.emod_nonneg _ (by omega)) (Int.emod_lt_of_pos _ h1) (DrI.mk g1 g2 (by omega))
    · exact q _ _ (Int.emod_nonneg _ (by omega)) (Int.emod_lt_of_pos _ h1) (DrI.mk (by omega) (by omega) (by omega))
end
end
end
section
section
variable {P : Program} {w : World} {K : PySem.W.Frag} {mg : Str → Option Value} {base : Heap} (M : Mod K mg)
include M
def S__law_pick : SpD := fun ds m Q _ => ∃ (a : Addr) (ds0 xs : List D), ds = [.loc a, .lst xs] ∧ m a = some (.l ds0) ∧ DrI ds0 ∧ 0 < xs.length ∧ xs.length ≤ 1000 ∧ ∀ d ds', d ∈ xs → DrI ds' → Q d (m.set a (.l ds'))
omit M in
theorem S__law_pick.mk {a : Addr} {xs : List D} {m : Mu} {Q : D → Mu → Prop} {E : Addr → Option (List (Str × D)) → Mu → Prop} (h : aLoc m (.loc a) fun _ ds0 => DrI ds0 ∧ 0 < xs.length ∧ xs.length ≤ 1000 ∧ ∀ d ds', d ∈ xs → DrI ds' → Q d (m.set a (.l ds'))) : S__law_pick [.loc a, .lst xs] m Q E := by
  obtain ⟨l, ds0, z, h1, h2⟩ := h
  cases z
  exact ⟨a, ds0, xs, rfl, h1, h2⟩
section
local macro_rules | `(tactic| wtm_at "nm") => `(tactic| first
  | ((with_reducible show AM.CE _ (Expr.Name (Str.ofString "_law_d") _) _ _ _ _); refine AM.W.nm (i := 0) rfl rfl (by wtm_at "vis") ?_)
  | ((with_reducible show AM.CE _ (Expr.Name (Str.ofString "_law_items") _) _ _ _ _); refine AM.W.nm (i := 1) rfl rfl (by wtm_at "vis") ?_))
local macro_rules | `(tactic| wtm_at "fn") => `(tactic| first
  | ((with_reducible show AM.CE _ (Expr.Call (Expr.Name (Str.ofString "_law_below") _) _ _ _) _ _ _ _); refine AM.W.call f__law_below hr (by first | decide | omega) ?_)
  | ((with_reducible show AM.CE _ (Expr.Call (Expr.Name (Str.ofString "len") _) _ _ _) _ _ _ _); refine AM.W.len M.NB_len ?_))
local macro_rules | `(tactic| wtm_at "ca") => `(tactic| first
  | ((with_reducible first | show AM.S__law_below _ _ _ _ | show AM.S__law_below _ _ _ _ _ | show AM.S__law_below _ _ _ _ _ _); first | refine AM.S__law_below.mk ?_ | refine AM.S__law_below.mk M ?_))
local macro_rules | `(tactic| wtm_at "fc") => `(tactic| first
  | exact M.f_Lights_own_shape
  | exact M.f_Lights_own_pattern
  | exact M.f_Moment_way_round
  | exact M.f_Moment_is_chain
  | exact M.f_Moment_many
  | exact M.f_Moment_now
  | exact M.f_Plainly_own_shape
  | exact M.f_Plainly_own_pattern)
theorem b__law_pick : FnG P w K mg base "_law_pick" 2 S__law_pick :=
  gD M.D__law_pick sc__law_pick (fun ds m Q E ⟨v, l, _, h, _⟩ => by rw [h]; rfl) fun f cdv A outer s0 H E hr ds m Q Ex ⟨a, ds0, xs, h, hm, h1, h2, h3, q⟩ => by
    subst h
    have f__law_below := b__law_below (P := P) (w := w) (base := base) M
    wtm_at "go"
    intro r ds' g1 g2 g3
    wtm_at "go"
    have hr2 : r.toNat < xs.length := by omega
    refine aAt.mk (v := xs[r.toNat]) (atI_of (n := r.toNat) (by omega) (List.getElem?_eq_getElem hr2)) ?_
    exact q _ _ (List.getElem_mem hr2) g3
end
end
end
section
section
variable {P : Program} {w : World} {K : PySem.W.Frag} {mg : Str → Option Value} {base : Heap} (M : Mod K mg)
include M
def S__law_leaf : SpD := fun ds m Q _ => ∃ (a : Addr) (ds0 : List D), ds = [.loc a] ∧ m a = some (.l ds0) ∧ DrI ds0 ∧ ∀ (p : Pat) ds', p.ok → p.cnt = 1 → p.dep = 0 → DrI ds' → Q p.d (m.set a (.l ds'))
omit M in
theorem S__law_leaf.mk {a : Addr} {m : Mu} {Q : D → Mu → Prop} {E : Addr → Option (List (Str × D)) → Mu → Prop} (h : aLoc m (.loc a) fun _ ds0 => DrI ds0 ∧ ∀ (p : Pat) ds', p.ok → p.cnt = 1 → p.dep = 0 → DrI ds' → Q p.d (m.set a (.l ds'))) : S__law_leaf [.loc a] m Q E := by
  obtain ⟨l, ds0, z, h1, h2⟩ := h
  cases z
  exact ⟨a, ds0, rfl, h1, h2⟩
section
local macro_rules | `(tactic| wtm_at "nm") => `(tactic| first
  | ((with_reducible show AM.CE _ (Expr.Name (Str.ofString "_law_d") _) _ _ _ _); refine AM.W.nm (i := 0) rfl rfl (by wtm_at "vis") ?_)
  | ((with_reducible show AM.CE _ (Expr.Name (Str.ofString "_law_pick_here") _) _ _ _ _); refine AM.W.nm (i := 1) rfl rfl (by wtm_at "vis") ?_)
  | ((with_reducible show AM.CE _ (Expr.Name (Str.ofString "_law_every") _) _ _ _ _); refine AM.W.nm (i := 2) rfl rfl (by wtm_at "vis") ?_))
local macro_rules | `(tactic| wtm_at "fn") => `(tactic| first
  | ((with_reducible show AM.CE _ (Expr.Call (Expr.Name (Str.ofString "_law_below") _) _ _ _) _ _ _ _); refine AM.W.call f__law_below hr (by first | decide | omega) ?_)
  | ((with_reducible show AM.CE _ (Expr.Call (Expr.Name (Str.ofString "_law_pick") _) _ _ _) _ _ _ _); refine AM.W.call f__law_pick hr (by first | decide | omega) ?_))
local macro_rules | `(tactic| wtm_at "ca") => `(tactic| first
  | ((with_reducible first | show AM.S__law_below _ _ _ _ | show AM.S__law_below _ _ _ _ _ | show AM.S__law_below _ _ _ _ _ _); first | refine AM.S__law_below.mk ?_ | refine AM.S__law_below.mk M ?_)
  | ((with_reducible first | show AM.S__law_pick _ _ _ _ | show AM.S__law_pick _ _ _ _ _ | show AM.S__law_pick _ _ _ _ _ _); first | refine AM.S__law_pick.mk ?_ | refine AM.S__law_pick.mk M ?_))
local macro_rules | `(tactic| wtm_at "as") => `(tactic| first
  | ((with_reducible show AM.CS _ (Stmt.Assign [Expr.Name (Str.ofString "_law_pick_here") _] _ _) _ _ _); refine AM.CS.set (i := 1) rfl (by wtm_at "loc") ?_ sc__law_leaf.nd (.inl rfl))
  | ((with_reducible show AM.CS _ (Stmt.Assign [Expr.Name (Str.ofString "_law_every") _] _ _) _ _ _); refine AM.CS.set (i := 2) rfl (by wtm_at "loc") ?_ sc__law_leaf.nd (.inl rfl)))
local macro_rules | `(tactic| wtm_at "fc") => `(tactic| first
  | exact M.f_Lights_own_shape
  | exact M.f_Lights_own_pattern
  | exact M.f_Moment_way_round
  | exact M.f_Moment_is_chain
  | exact M.f_Moment_many
  | exact M.f_Moment_now
  | exact M.f_Plainly_own_shape
  | exact M.f_Plainly_own_pattern)
theorem b__law_leaf : FnG P w K mg base "_law_leaf" 3 S__law_leaf :=
  gD M.D__law_leaf sc__law_leaf (fun ds m Q E ⟨v, l, h, _⟩ => by rw [h]; rfl) fun f cdv A outer s0 H E hr ds m Q Ex ⟨a, ds0, h, hm, h1, q⟩ => by
    subst h
    have f__law_below := b__law_below (P := P) (w := w) (base := base) M
    have f__law_pick := b__law_pick (P := P) (w := w) (base := base) M
    wtm_at "go"
    intro r ds1 g1 g2 g3
    wtm_at "all"
    · intro r2 ds2 g4 g5 g6
      wtm_at "go"
      intro d ds3 g7 g8
      obtain ⟨u, rfl⟩ : ∃ u, d = .str (wayS u) := by
        simp at g7
        rcases g7 with rfl | rfl
        · exact ⟨true, rfl⟩
        · exact ⟨false, rfl⟩
      wtm_at "go"
      simp only [Mu.set_set]
      exact q (.dot (r2 - 3) u) ds3 ⟨by omega, by omega⟩ rfl rfl g8
    · intro r2 ds2 g4 g5 g6
      wtm_at "go"
      intro d ds3 g7 g8
      wtm_at "go"
      intro r4 ds4 g9 g10 g11
      wtm_at "go"
      simp only [Mu.set_set]
      have hr : evr (2 + r2) r4 := ⟨by omega, g9, g10⟩
      simp at g7
      rcases g7 with rfl | rfl
      · exact q (.comb (2 + r2) r4) ds4 hr rfl rfl g11
      · exact q (.beat (2 + r2) r4) ds4 hr rfl rfl g11
    · intro d ds3 g7 g8
      wtm_at "go"
      simp only [Mu.set_set]
      simp at g7
      rcases g7 with rfl | rfl
      · exact q .none ds3 trivial rfl rfl g8
      · exact q .all ds3 trivial rfl rfl g8
    · intro r2 ds2 g4 g5 g6
      wtm_at "go"
      simp only [Mu.set_set]
      exact q (.lamp (r2 - 3)) ds2 ⟨by omega, by omega⟩ rfl rfl g6
end
end
end
section
section
variable {P : Program} {w : World} {K : PySem.W.Frag} {mg : Str → Option Value} {base : Heap} (M : Mod K mg)
include M
def S__law_pattern (n : Nat) : SpD := fun ds m Q _ => ∃ (a b : Addr) (ds0 : List D) (deep l : Int), ds = [.loc a, .int deep, .loc b] ∧ a ≠ b ∧ m a = some (.l ds0) ∧ m b = some (.l [.int l]) ∧ DrI ds0 ∧ deep = n ∧ 1 ≤ l ∧
  ∀ (p : Pat) ds', p.ok → (p.cnt : Int) ≤ l → p.dep ≤ n → DrI ds' → Q p.d ((m.set a (.l ds')).set b (.l [.int (l - p.cnt)]))
section
local macro_rules | `(tactic| wtm_at "nm") => `(tactic| first
  | ((with_reducible show AM.CE _ (Expr.Name (Str.ofString "_law_d") _) _ _ _ _); refine AM.W.nm (i := 0) rfl rfl (by wtm_at "vis") ?_)
  | ((with_reducible show AM.CE _ (Expr.Name (Str.ofString "_law_deep") _) _ _ _ _); refine AM.W.nm (i := 1) rfl rfl (by wtm_at "vis") ?_)
  | ((with_reducible show AM.CE _ (Expr.Name (Str.ofString "_law_left") _) _ _ _ _); refine AM.W.nm (i := 2) rfl rfl (by wtm_at "vis") ?_)
  | ((with_reducible show AM.CE _ (Expr.Name (Str.ofString "_law_pick_here") _) _ _ _ _); refine AM.W.nm (i := 3) rfl rfl (by wtm_at "vis") ?_)
  | ((with_reducible show AM.CE _ (Expr.Name (Str.ofString "_law_one") _) _ _ _ _); refine AM.W.nm (i := 4) rfl rfl (by wtm_at "vis") ?_))
local macro_rules | `(tactic| wtm_at "fn") => `(tactic| first
  | ((with_reducible show AM.CE _ (Expr.Call (Expr.Name (Str.ofString "_law_below") _) _ _ _) _ _ _ _); refine AM.W.call f__law_below hr (by first | decide | omega) ?_)
  | ((with_reducible show AM.CE _ (Expr.Call (Expr.Name (Str.ofString "_law_pattern") _) _ _ _) _ _ _ _); refine AM.W.call f__law_pattern hr (by first | decide | omega) ?_)
  | ((with_reducible show AM.CE _ (Expr.Call (Expr.Name (Str.ofString "_law_leaf") _) _ _ _) _ _ _ _); refine AM.W.call f__law_leaf hr (by first | decide | omega) ?_)
  | ((with_reducible show AM.CE _ (Expr.Call (Expr.Name (Str.ofString "_law_pick") _) _ _ _) _ _ _ _); refine AM.W.call f__law_pick hr (by first | decide | omega) ?_))
local macro_rules | `(tactic| wtm_at "ca") => `(tactic| first
  | ((with_reducible first | show AM.S__law_below _ _ _ _ | show AM.S__law_below _ _ _ _ _ | show AM.S__law_below _ _ _ _ _ _); first | refine AM.S__law_below.mk ?_ | refine AM.S__law_below.mk M ?_)
  | ((with_reducible first | show AM.S__law_pattern _ _ _ _ | show AM.S__law_pattern _ _ _ _ _ | show AM.S__law_pattern _ _ _ _ _ _); first | refine AM.S__law_pattern.mk ?_ | refine AM.S__law_pattern.mk M ?_)
  | ((with_reducible first | show AM.S__law_leaf _ _ _ _ | show AM.S__law_leaf _ _ _ _ _ | show AM.S__law_leaf _ _ _ _ _ _); first | refine AM.S__law_leaf.mk ?_ | refine AM.S__law_leaf.mk M ?_)
  | ((with_reducible first | show AM.S__law_pick _ _ _ _ | show AM.S__law_pick _ _ _ _ _ | show AM.S__law_pick _ _ _ _ _ _); first | refine AM.S__law_pick.mk ?_ | refine AM.S__law_pick.mk M ?_))
local macro_rules | `(tactic| wtm_at "as") => `(tactic| first
  | ((with_reducible show AM.CS _ (Stmt.Assign [Expr.Name (Str.ofString "_law_pick_here") _] _ _) _ _ _); refine AM.CS.set (i := 3) rfl (by wtm_at "loc") ?_ sc__law_pattern.nd (.inl rfl))
  | ((with_reducible show AM.CS _ (Stmt.Assign [Expr.Name (Str.ofString "_law_one") _] _ _) _ _ _); refine AM.CS.set (i := 4) rfl (by wtm_at "loc") ?_ sc__law_pattern.nd (.inl rfl)))
local macro_rules | `(tactic| wtm_at "fc") => `(tactic| first
  | exact M.f_Lights_own_shape
  | exact M.f_Lights_own_pattern
  | exact M.f_Moment_way_round
  | exact M.f_Moment_is_chain
  | exact M.f_Moment_many
  | exact M.f_Moment_now
  | exact M.f_Plainly_own_shape
  | exact M.f_Plainly_own_pattern)
theorem b__law_pattern : ∀ n, FnG P w K mg base "_law_pattern" (4 + n) (S__law_pattern n) := fun n => by
  induction n with
  | zero =>
    refine gD M.D__law_pattern sc__law_pattern (fun ds m Q E ⟨a, b, _, _, _, h, _⟩ => by rw [h]; rfl) fun f cdv A outer s0 H E hr ds m Q Ex ⟨a, b, ds0, deep, l, h, hab, hm, hb, h1, h2, h3, q⟩ => ?_
    subst h
    obtain rfl : deep = 0 := h2
    have f__law_below := b__law_below (P := P) (w := w) (base := base) M
    have f__law_pick := b__law_pick (P := P) (w := w) (base := base) M
    have f__law_leaf := b__law_leaf (P := P) (w := w) (base := base) M
    wtm_at "go"
    intro r ds1 g1 g2 g3
    wtm_at "go"
    intro p ds2 g4 g5 g6 g7
    refine toQ (q p ds2 g4 (by omega) (by omega) g7) rfl ?_
    simp only [Mu.set_set, Mu.set_comm hab, g5]; rfl
  | succ n ih =>
    refine gD (k := 4 + n) M.D__law_pattern sc__law_pattern (fun ds m Q E ⟨a, b, _, _, _, h, _⟩ => by rw [h]; rfl) fun f cdv A outer s0 H E hr ds m Q Ex ⟨a, b, ds0, deep, l, h, hab, hm, hb, h1, h2, h3, q⟩ => ?_
    subst h
    have f__law_below := b__law_below (P := P) (w := w) (base := base) M
    have f__law_pick := b__law_pick (P := P) (w := w) (base := base) M
    have f__law_leaf := b__law_leaf (P := P) (w := w) (base := base) M
    have f__law_pattern := ih
    wtm_at "go"
    intro r ds1 g1 g2 g3
    wtm_at "all"
    · intro p ds2 g4 g5 g6 g7
      wtm_at "go"
      refine toQ (q p ds2 g4 (by omega) (by omega) g7) rfl ?_
      simp only [Mu.set_set, Mu.set_comm hab, g5]; rfl
    · intro p ds2 g4 g5 g6 g7
      wtm_at "go"
      refine toQ (q p ds2 g4 (by omega) (by omega) g7) rfl ?_
      simp only [Mu.set_set, Mu.set_comm hab, g5]; rfl
    · refine ⟨a, b, _, _, l - 1, rfl, hab, by wtm_at "mu", by wtm_at "mu", g3, by omega, by omega, ?_⟩
      intro p ds2 g4 g5 g6 g7
      wtm_at "go"
      have e : l - 1 - (p.cnt : Int) = l - ((Pat.not p).cnt : Nat) := by simp only [Pat.cnt]; omega
      refine toQ (q (.not p) ds2 g4 (by simp only [Pat.cnt]; omega) (by simp only [Pat.dep]; omega) g7) rfl ?_
      simp only [Mu.set_set, Mu.set_comm hab, e]
    · refine ⟨a, b, _, _, l - 1 - 1, rfl, hab, by wtm_at "mu", by wtm_at "mu", g3, by omega, by omega, ?_⟩
      intro p ds2 g4 g5 g6 g7
      wtm_at "go"
      intro d ds3 g8 g9
      obtain ⟨o, rfl⟩ : ∃ o : Op, d = .str o.s := by
        simp at g8
        rcases g8 with rfl | rfl | rfl
        · exact ⟨.and, rfl⟩
        · exact ⟨.or, rfl⟩
        · exact ⟨.unl, rfl⟩
      wtm_at "go"
      refine ⟨a, b, _, _, l - 1 - 1 - p.cnt + 1, rfl, hab, by wtm_at "mu", by wtm_at "mu", g9, by omega, by omega, ?_⟩
      intro p2 ds4 k4 k5 k6 k7
      wtm_at "go"
      have e : l - 1 - 1 - (p.cnt : Int) + 1 - p2.cnt = l - ((Pat.bin o p p2).cnt : Nat) := by simp only [Pat.cnt]; omega
      refine toQ (q (.bin o p p2) ds4 ⟨g4, k4⟩ (by simp only [Pat.cnt]; omega) (by simp only [Pat.dep]; omega) k7) rfl ?_
      simp only [Mu.set_set, Mu.set_comm hab, e]
end
def S__law_lights (n : Nat) (most : Int) : SpD := fun ds m Q _ => ∃ (a : Addr) (ds0 : List D), ds = [.loc a, .int n, .int most] ∧ m a = some (.l ds0) ∧ DrI ds0 ∧ 1 ≤ most ∧ most ≤ 100 ∧ n ≤ 10 ∧
  ∀ (r : Bool) (p : Pat) ds', p.ok → (p.cnt : Int) ≤ most → p.dep ≤ n → DrI ds' → Q (.tup [.str (shp r), p.d]) (m.set a (.l ds'))
omit M in
theorem S__law_lights.mk {n : Nat} {most : Int} {a : Addr} {m : Mu} {Q : D → Mu → Prop} {E : Addr → Option (List (Str × D)) → Mu → Prop} (h : aLoc m (.loc a) fun _ ds0 => DrI ds0 ∧ 1 ≤ most ∧ most ≤ 100 ∧ n ≤ 10 ∧
  ∀ (r : Bool) (p : Pat) ds', p.ok → (p.cnt : Int) ≤ most → p.dep ≤ n → DrI ds' → Q (.tup [.str (shp r), p.d]) (m.set a (.l ds'))) : S__law_lights n most [.loc a, .int n, .int most] m Q E := by
  obtain ⟨l, ds0, z, h1, h2⟩ := h
  cases z
  exact ⟨a, ds0, rfl, h1, h2⟩
section
local macro_rules | `(tactic| wtm_at "nm") => `(tactic| first
  | ((with_reducible show AM.CE _ (Expr.Name (Str.ofString "_law_d") _) _ _ _ _); refine AM.W.nm (i := 0) rfl rfl (by wtm_at "vis") ?_)
  | ((with_reducible show AM.CE _ (Expr.Name (Str.ofString "_law_deep") _) _ _ _ _); refine AM.W.nm (i := 1) rfl rfl (by wtm_at "vis") ?_)
  | ((with_reducible show AM.CE _ (Expr.Name (Str.ofString "_law_most") _) _ _ _ _); refine AM.W.nm (i := 2) rfl rfl (by wtm_at "vis") ?_))
local macro_rules | `(tactic| wtm_at "fn") => `(tactic| first
  | ((with_reducible show AM.CE _ (Expr.Call (Expr.Name (Str.ofString "_law_pick") _) _ _ _) _ _ _ _); refine AM.W.call f__law_pick hr (by first | decide | omega) ?_)
  | ((with_reducible show AM.CE _ (Expr.Call (Expr.Name (Str.ofString "_law_pattern") _) _ _ _) _ _ _ _); refine AM.W.call f__law_pattern hr (by first | decide | omega) ?_))
local macro_rules | `(tactic| wtm_at "ca") => `(tactic| first
  | ((with_reducible first | show AM.S__law_pick _ _ _ _ | show AM.S__law_pick _ _ _ _ _ | show AM.S__law_pick _ _ _ _ _ _); first | refine AM.S__law_pick.mk ?_ | refine AM.S__law_pick.mk M ?_)
  | ((with_reducible first | show AM.S__law_pattern _ _ _ _ | show AM.S__law_pattern _ _ _ _ _ | show AM.S__law_pattern _ _ _ _ _ _); first | refine AM.S__law_pattern.mk ?_ | refine AM.S__law_pattern.mk M ?_))
local macro_rules | `(tactic| wtm_at "nl") => `(tactic| first
  | ((with_reducible show AM.CE _ (Expr.List [Expr.Name (Str.ofString "_law_most") _] _) _ _ _ _); refine AM.CE.newl ?_))
local macro_rules | `(tactic| wtm_at "fc") => `(tactic| first
  | exact M.f_Lights_own_shape
  | exact M.f_Lights_own_pattern
  | exact M.f_Moment_way_round
  | exact M.f_Moment_is_chain
  | exact M.f_Moment_many
  | exact M.f_Moment_now
  | exact M.f_Plainly_own_shape
  | exact M.f_Plainly_own_pattern)
theorem b__law_lights (n : Nat) (most : Int) : FnG P w K mg base "_law_lights" 15 (S__law_lights n most) :=
  gD M.D__law_lights sc__law_lights (fun ds m Q E ⟨a, _, h, _⟩ => by rw [h]; rfl) fun f cdv A outer s0 H E hr ds m Q Ex ⟨a, ds0, h, hm, h1, h2, h3, h4, q⟩ => by
    subst h
    have f__law_pick := b__law_pick (P := P) (w := w) (base := base) M
    have f__law_pattern := (b__law_pattern (P := P) (w := w) (base := base) M n).mono (k := 14) (by omega)
    refine CSs.one ?_
    refine CS.ret (W.drop ?_)
    wtm_at "go"
    intro d ds2 g8 g9
    obtain ⟨r, rfl⟩ : ∃ r : Bool, d = .str (shp r) := by
      simp at g8
      rcases g8 with rfl | rfl
      · exact ⟨true, rfl⟩
      · exact ⟨false, rfl⟩
    wtm_at "go"
    intro b hb
    have hab : a ≠ b := fun z => by subst z; rw [Mu.set_same] at hb; cases hb
    wtm_at "go"
    refine ⟨a, b, _, _, most, rfl, hab, by wtm_at "mu", by wtm_at "mu", g9, by omega, by omega, ?_⟩
    intro p ds3 g4 g5 g6 g7
    wtm_at "go"
    refine ⟨b, toQ (q r p ds3 g4 g5 g6 g7) rfl ?_⟩
    have hb' : m b = none := by rw [Mu.set_ne (Ne.symm hab)] at hb; exact hb
    have e : (m.set a (MO.l ds3)) b = none := by rw [Mu.set_ne (Ne.symm hab)]; exact hb'
    simp only [Mu.set_set, Mu.set_comm hab]
    rw [Mu.set_comm (Ne.symm hab)]
    exact Mu.del_set e
end
end
end
section
section
variable {P : Program} {w : World} {K : PySem.W.Frag} {mg : Str → Option Value} {base : Heap} (M : Mod K mg)
include M
/-- lights, or what is like them -/
def LtD (d : D) (rg : Bool) (p : Pat) : Prop := ∃ C, d = .ins C [("own_shape", .str (shp rg)), ("own_pattern", p.d)] ∧ FldC K C "own_shape" ∧ FldC K C "own_pattern"
theorem ltd_lit {rg : Bool} {p : Pat} : LtD (K := K) (lit M (shp rg) p) rg p := ⟨_, rfl, M.f_Lights_own_shape, M.f_Lights_own_pattern⟩
def S_around : SpD := fun ds m Q _ => ∃ L rg p, ∃ n : Nat, ds = [L, .int n] ∧ LtD (K := K) L rg p ∧ 1 ≤ n ∧ n ≤ 90000 ∧ Q (.int (rnd rg n)) m
omit M in
theorem S_around.mk {L : D} {rg : Bool} {p : Pat} {n : Nat} {m : Mu} {Q : D → Mu → Prop} {E : Addr → Option (List (Str × D)) → Mu → Prop} (hL : LtD (K := K) L rg p) (h : 1 ≤ n ∧ n ≤ 90000 ∧ Q (.int (rnd rg n)) m) : S_around (K := K) [L, .int n] m Q E := ⟨L, rg, p, n, rfl, hL, h⟩
section
local macro_rules | `(tactic| wtm_at "nm") => `(tactic| first
  | ((with_reducible show AM.CE _ (Expr.Name (Str.ofString "lights") _) _ _ _ _); refine AM.W.nm (i := 0) rfl rfl (by wtm_at "vis") ?_)
  | ((with_reducible show AM.CE _ (Expr.Name (Str.ofString "n") _) _ _ _ _); refine AM.W.nm (i := 1) rfl rfl (by wtm_at "vis") ?_)
  | ((with_reducible show AM.CE _ (Expr.Name (Str.ofString "CHAIN") _) _ _ _ _); refine AM.W.gc M.c_CHAIN ?_ rfl))
local macro_rules | `(tactic| wtm_at "fn") => `(tactic| first
  | ((with_reducible show AM.CE _ (Expr.Call (Expr.Name (Str.ofString "max") _) _ _ _) _ _ _ _); refine AM.W.max2 rfl M.NB_max ?_))
local macro_rules | `(tactic| wtm_at "fc") => `(tactic| first
  | exact M.f_Lights_own_shape
  | exact M.f_Lights_own_pattern
  | exact M.f_Moment_way_round
  | exact M.f_Moment_is_chain
  | exact M.f_Moment_many
  | exact M.f_Moment_now
  | exact M.f_Plainly_own_shape
  | exact M.f_Plainly_own_pattern)
theorem b_around : FnG P w K mg base "around" 1 (S_around (K := K)) :=
  gD M.D_around sc_around (fun ds m Q E ⟨_, _, _, _, h, _⟩ => by rw [h]; rfl) fun f cdv A outer s0 H E hr ds m Q Ex ⟨L, rg, p, n, h, ⟨C, hC, g1, g2⟩, h1, h2, q⟩ => by
    subst h; subst hC
    cases rg
    · wtm_at "go"
      exact q
    · wtm_at "go"
      exact q
end
def mom (rg : Bool) (n t : Nat) : D := .ins M.A_Moment [("way_round", .int (rnd rg n)), ("is_chain", .bl (!rg)), ("many", .int n), ("now", .int t)]
def S_Moment : SpD := fun ds m Q _ => ∃ a L rg p, ∃ n t : Nat, ds = [.loc a, L, .int n, .int t] ∧ m a = some (.o M.A_Moment []) ∧ LtD (K := K) L rg p ∧ 1 ≤ n ∧ n ≤ 90000 ∧ Q .non (m.set a (.o M.A_Moment [("way_round", .int (rnd rg n)), ("is_chain", .bl (!rg)), ("many", .int n), ("now", .int t)]))
section
local macro_rules | `(tactic| wtm_at "nm") => `(tactic| first
  | ((with_reducible show AM.CE _ (Expr.Name (Str.ofString "self") _) _ _ _ _); refine AM.W.nm (i := 0) rfl rfl (by wtm_at "vis") ?_)
  | ((with_reducible show AM.CE _ (Expr.Name (Str.ofString "lights") _) _ _ _ _); refine AM.W.nm (i := 1) rfl rfl (by wtm_at "vis") ?_)
  | ((with_reducible show AM.CE _ (Expr.Name (Str.ofString "n") _) _ _ _ _); refine AM.W.nm (i := 2) rfl rfl (by wtm_at "vis") ?_)
  | ((with_reducible show AM.CE _ (Expr.Name (Str.ofString "t") _) _ _ _ _); refine AM.W.nm (i := 3) rfl rfl (by wtm_at "vis") ?_)
  | ((with_reducible show AM.CE _ (Expr.Name (Str.ofString "CHAIN") _) _ _ _ _); refine AM.W.gc M.c_CHAIN ?_ rfl))
local macro_rules | `(tactic| wtm_at "fn") => `(tactic| first
  | ((with_reducible show AM.CE _ (Expr.Call (Expr.Name (Str.ofString "around") _) _ _ _) _ _ _ _); refine AM.W.call f_around hr (by first | decide | omega) ?_))
local macro_rules | `(tactic| wtm_at "ca") => `(tactic| first
  | ((with_reducible first | show AM.S_around _ _ _ _ | show AM.S_around _ _ _ _ _ | show AM.S_around _ _ _ _ _ _); first | refine AM.S_around.mk ?_ | refine AM.S_around.mk M ?_))
local macro_rules | `(tactic| wtm_at "fc") => `(tactic| first
  | exact M.f_Lights_own_shape
  | exact M.f_Lights_own_pattern
  | exact M.f_Moment_way_round
  | exact M.f_Moment_is_chain
  | exact M.f_Moment_many
  | exact M.f_Moment_now
  | exact M.f_Plainly_own_shape
  | exact M.f_Plainly_own_pattern)
theorem b_Moment : CnG P w K mg base "Moment" M.A_Moment 2 (S_Moment M) :=
  gC M.D_Moment sc_Moment___init__ (fun ds m Q E ⟨_, _, _, _, _, _, h, _⟩ => by rw [h]; rfl) fun f cdv A outer s0 H E hr ds m Q Ex ⟨a, L, rg, p, n, t, h, hm, hL, h1, h2, q⟩ => by
    subst h
    have hL' := hL
    obtain ⟨C, hC, g1, g2⟩ := hL
    subst hC
    have f_around := b_around (P := P) (w := w) (base := base) M
    wtm_at "go"
    refine S_around.mk hL' ⟨h1, h2, ?_⟩
    wtm_at "go"
    refine toQ q rfl ?_
    simp only [Mu.set_set]
    cases rg <;> rfl
end
def S_Moment_every_lamp : SpD := fun ds m Q _ => ∃ rg, ∃ n t : Nat, ds = [mom M rg n t] ∧ n ≤ 90000 ∧ Q (.int ((2 ^ n - 1 : Nat) : Int)) m
section
local macro_rules | `(tactic| wtm_at "nm") => `(tactic| first
  | ((with_reducible show AM.CE _ (Expr.Name (Str.ofString "self") _) _ _ _ _); refine AM.W.nm (i := 0) rfl rfl (by wtm_at "vis") ?_))
local macro_rules | `(tactic| wtm_at "fc") => `(tactic| first
  | exact M.f_Lights_own_shape
  | exact M.f_Lights_own_pattern
  | exact M.f_Moment_way_round
  | exact M.f_Moment_is_chain
  | exact M.f_Moment_many
  | exact M.f_Moment_now
  | exact M.f_Plainly_own_shape
  | exact M.f_Plainly_own_pattern)
theorem b_Moment_every_lamp : MtG P w K mg base M.A_Moment "every_lamp" 1 (S_Moment_every_lamp M) :=
  gM M.D_Moment_every_lamp sc_Moment_every_lamp (fun ds m Q E ⟨_, _, _, h, _⟩ => by rw [h]; rfl) fun f cdv A outer s0 H E hr ds m Q Ex ⟨rg, n, t, h, h1, q⟩ => by
    subst h
    unfold mom
    wtm_at "go"
    have hp := Nat.two_pow_pos n
    refine toQi q ?_
    rw [Int.toNat_natCast, Int.one_mul]
    have : ((2 ^ n : Nat) : Int) = (2 : Int) ^ n := by push_cast; rfl
    rw [← this]; omega
end
def S_Moment_dot_at : SpD := fun ds m Q _ => ∃ rg, ∃ n t : Nat, ∃ (k : Int) (u : Bool), ds = [mom M rg n t, .int k, .str (wayS u)] ∧ 1 ≤ n ∧ n ≤ 90000 ∧ Q (.int (dotAt rg n t k u)) m
section
local macro_rules | `(tactic| wtm_at "nm") => `(tactic| first
  | ((with_reducible show AM.CE _ (Expr.Name (Str.ofString "self") _) _ _ _ _); refine AM.W.nm (i := 0) rfl rfl (by wtm_at "vis") ?_)
  | ((with_reducible show AM.CE _ (Expr.Name (Str.ofString "k") _) _ _ _ _); refine AM.W.nm (i := 1) rfl rfl (by wtm_at "vis") ?_)
  | ((with_reducible show AM.CE _ (Expr.Name (Str.ofString "way") _) _ _ _ _); refine AM.W.nm (i := 2) rfl rfl (by wtm_at "vis") ?_)
  | ((with_reducible show AM.CE _ (Expr.Name (Str.ofString "start") _) _ _ _ _); refine AM.W.nm (i := 3) rfl rfl (by wtm_at "vis") ?_)
  | ((with_reducible show AM.CE _ (Expr.Name (Str.ofString "at") _) _ _ _ _); refine AM.W.nm (i := 4) rfl rfl (by wtm_at "vis") ?_))
local macro_rules | `(tactic| wtm_at "fn") => `(tactic| first
  | ((with_reducible show AM.CE _ (Expr.Call (Expr.Name (Str.ofString "min") _) _ _ _) _ _ _ _); refine AM.W.min2 rfl M.NB_min ?_))
local macro_rules | `(tactic| wtm_at "as") => `(tactic| first
  | ((with_reducible show AM.CS _ (Stmt.Assign [Expr.Name (Str.ofString "start") _] _ _) _ _ _); refine AM.CS.set (i := 3) rfl (by wtm_at "loc") ?_ sc_Moment_dot_at.nd (.inl rfl))
  | ((with_reducible show AM.CS _ (Stmt.Assign [Expr.Name (Str.ofString "at") _] _ _) _ _ _); refine AM.CS.set (i := 4) rfl (by wtm_at "loc") ?_ sc_Moment_dot_at.nd (.inl rfl)))
local macro_rules | `(tactic| wtm_at "fc") => `(tactic| first
  | exact M.f_Lights_own_shape
  | exact M.f_Lights_own_pattern
  | exact M.f_Moment_way_round
  | exact M.f_Moment_is_chain
  | exact M.f_Moment_many
  | exact M.f_Moment_now
  | exact M.f_Plainly_own_shape
  | exact M.f_Plainly_own_pattern)
theorem b_Moment_dot_at : MtG P w K mg base M.A_Moment "dot_at" 1 (S_Moment_dot_at M) :=
  gM M.D_Moment_dot_at sc_Moment_dot_at (fun ds m Q E ⟨_, _, _, _, _, h, _⟩ => by rw [h]; rfl) fun f cdv A outer s0 H E hr ds m Q Ex ⟨rg, n, t, k, u, h, h1, h2, q⟩ => by
    subst h
    have h3 := rnd_pos (rg := rg) h1
    unfold mom
    unfold dotAt at q
    cases rg
    · cases u
      all_goals wtm_at "all"
      all_goals (refine toQi q ?_; simp [hc])
    · cases u
      all_goals wtm_at "all"
      all_goals exact q
end
end
end
section
theorem comb_rng {n e r : Nat} (he : e = 2 ∨ e = 3) (hr : r < e) (hn : n ≤ 90000) : ∃ k : Nat, RgC (r : Int) (n : Int) (e : Int) k ∧ (∀ i, i < k → r + i * e < n) ∧ n ≤ r + k * e ∧ k ≤ 100000 := by
  have hs : Builtin.Range.rangeSize (r : Int) (n : Int) (e : Int) = ((if r < n then (n - r - 1) / e + 1 else 0 : Nat) : Int) := by
    unfold Builtin.Range.rangeSize
    rw [if_pos (by omega)]
    by_cases h : r < n
    · rw [if_pos (by omega), if_pos h]
      rcases he with rfl | rfl <;> omega
    · rw [if_neg (by omega), if_neg h]; rfl
  refine ⟨if r < n then (n - r - 1) / e + 1 else 0, ⟨by omega, by omega, ?_, hs⟩, ?_, ?_, ?_⟩
  · unfold Builtin.Range.small
    rw [hs]
    have hk : (if r < n then (n - r - 1) / e + 1 else 0) * e ≤ n + 3 ∧ (if r < n then (n - r - 1) / e + 1 else 0) ≤ n + 3 := by
      split
      · rcases he with rfl | rfl <;> omega
      · omega
    generalize hkk : (if r < n then (n - r - 1) / e + 1 else 0) = k at hk ⊢
    simp only [Builtin.Range.rangeFitsLong, Bool.and_eq_true, Bool.or_eq_true, decide_eq_true_eq, beq_iff_eq]
    rcases he with rfl | rfl
    · refine ⟨by omega, .inr ?_⟩
      rw [if_pos (by decide)]
      simp only [Bool.and_eq_true, decide_eq_true_eq]
      omega
    · refine ⟨by omega, .inr ?_⟩
      rw [if_pos (by decide)]
      simp only [Bool.and_eq_true, decide_eq_true_eq]
      omega
  · intro i hi
    split at hi
    · rcases he with rfl | rfl <;> omega
    · omega
  · split
    · rcases he with rfl | rfl <;> omega
    · omega
  · split
    · rcases he with rfl | rfl <;> omega
    · omega
section
variable {P : Program} {w : World} {K : PySem.W.Frag} {mg : Str → Option Value} {base : Heap} (M : Mod K mg)
include M
def S_Moment_plain : SpD := fun ds m Q _ => ∃ rg, ∃ n t : Nat, ∃ p : Pat, ds = [mom M rg n t, p.d] ∧ p.kids = [] ∧ p.ok ∧ 1 ≤ n ∧ n ≤ 90000 ∧ Q (.int (pic rg n t p : Nat)) m
section
local macro_rules | `(tactic| wtm_at "nm") => `(tactic| first
  | ((with_reducible show AM.CE _ (Expr.Name (Str.ofString "self") _) _ _ _ _); refine AM.W.nm (i := 0) rfl rfl (by wtm_at "vis") ?_)
  | ((with_reducible show AM.CE _ (Expr.Name (Str.ofString "pattern") _) _ _ _ _); refine AM.W.nm (i := 1) rfl rfl (by wtm_at "vis") ?_)
  | ((with_reducible show AM.CE _ (Expr.Name (Str.ofString "word") _) _ _ _ _); refine AM.W.nm (i := 2) rfl rfl (by wtm_at "vis") ?_)
  | ((with_reducible show AM.CE _ (Expr.Name (Str.ofString "lamp") _) _ _ _ _); refine AM.W.nm (i := 3) rfl rfl (by wtm_at "vis") ?_)
  | ((with_reducible show AM.CE _ (Expr.Name (Str.ofString "every") _) _ _ _ _); refine AM.W.nm (i := 4) rfl rfl (by wtm_at "vis") ?_)
  | ((with_reducible show AM.CE _ (Expr.Name (Str.ofString "rest") _) _ _ _ _); refine AM.W.nm (i := 5) rfl rfl (by wtm_at "vis") ?_))
local macro_rules | `(tactic| wtm_at "fn") => `(tactic| first
  | ((with_reducible show AM.CE _ (Expr.Call (Expr.Name (Str.ofString "sum") _) _ _ _) _ _ _ _); refine AM.W.sum rfl M.NB_sum ?_))
local macro_rules | `(tactic| wtm_at "mt") => `(tactic| first
  | ((with_reducible show AM.CE _ (Expr.Call (Expr.Attribute _ (Str.ofString "every_lamp") _) _ _ _) _ _ _ _); refine AM.W.meth0 f_Moment_every_lamp hr (by first | decide | omega) ?_)
  | ((with_reducible show AM.CE _ (Expr.Call (Expr.Attribute _ (Str.ofString "dot_at") _) _ _ _) _ _ _ _); refine AM.W.meth f_Moment_dot_at hr (by first | decide | omega) ?_))
local macro_rules | `(tactic| wtm_at "ca") => `(tactic| first
  | ((with_reducible first | show AM.S_Moment_every_lamp _ _ _ _ | show AM.S_Moment_every_lamp _ _ _ _ _ | show AM.S_Moment_every_lamp _ _ _ _ _ _); refine AM.S_Moment_every_lamp.mk ?_)
  | ((with_reducible first | show AM.S_Moment_dot_at _ _ _ _ | show AM.S_Moment_dot_at _ _ _ _ _ | show AM.S_Moment_dot_at _ _ _ _ _ _); refine AM.S_Moment_dot_at.mk ?_))
local macro_rules | `(tactic| wtm_at "as") => `(tactic| first
  | ((with_reducible show AM.CS _ (Stmt.Assign [Expr.Name (Str.ofString "word") _] _ _) _ _ _); refine AM.CS.set (i := 2) rfl (by wtm_at "loc") ?_ sc_Moment_plain.nd (.inl rfl))
  | ((with_reducible show AM.CS _ (Stmt.Assign [Expr.Name (Str.ofString "lamp") _] _ _) _ _ _); refine AM.CS.set (i := 3) rfl (by wtm_at "loc") ?_ sc_Moment_plain.nd (.inl rfl)))
local macro_rules | `(tactic| wtm_at "nb") => `(tactic| first
  | exact M.NB_range)
local macro_rules | `(tactic| wtm_at "lc") => `(tactic| first
  | ((with_reducible show AM.CE _ (Expr.ListComp _ [⟨Expr.Name (Str.ofString "lamp") _, _, _, 0⟩] _ _) _ _ _ _); refine AM.CE.lc (own := [("lamp", 3)]) rfl sc_Moment_plain.nd (L2.blkOk_by (own := [("lamp", 3)]) (N := ["self", "pattern", "word", "lamp", "every", "rest"]) (sc := defScope s_Moment_plain) (by decide +kernel)) (AM.CGB.name rfl sc_Moment_plain.nd (fun _ _ _ _ _ => by wtm_at "loc") (fun _ _ _ _ _ => by first | exact .inr rfl | exact .inl rfl)) ?_))
local macro_rules | `(tactic| wtm_at "lcL") => `(tactic| first
  | ((with_reducible show AM.CE _ (Expr.ListComp _ [⟨Expr.Name (Str.ofString "lamp") _, _, _, 0⟩] _ _) _ _ _ _); refine AM.CE.lcL (own := [("lamp", 3)]) rfl sc_Moment_plain.nd (L2.blkOk_by (own := [("lamp", 3)]) (N := ["self", "pattern", "word", "lamp", "every", "rest"]) (sc := defScope s_Moment_plain) (by decide +kernel)) (AM.CGB.name rfl sc_Moment_plain.nd (fun _ _ _ _ _ => by wtm_at "loc") (fun _ _ _ _ _ => by first | exact .inr rfl | exact .inl rfl)) ?_))
local macro_rules | `(tactic| wtm_at "at") => `(tactic| first
  | ((with_reducible show AM.CS _ (Stmt.Assign [Expr.Tuple [Expr.Name (Str.ofString "every") _, Expr.Name (Str.ofString "rest") _] _ _] (Expr.Tuple _ _ _) _) _ _ _); refine AM.CS.par (i := 4) (j := 5) rfl sc_Moment_plain.nd rfl rfl (by decide) rfl rfl ?_ (by rfl)))
local macro_rules | `(tactic| wtm_at "fc") => `(tactic| first
  | exact M.f_Lights_own_shape
  | exact M.f_Lights_own_pattern
  | exact M.f_Moment_way_round
  | exact M.f_Moment_is_chain
  | exact M.f_Moment_many
  | exact M.f_Moment_now
  | exact M.f_Plainly_own_shape
  | exact M.f_Plainly_own_pattern)
theorem b_Moment_plain : MtG P w K mg base M.A_Moment "plain" 2 (S_Moment_plain M) :=
  gM M.D_Moment_plain sc_Moment_plain (fun ds m Q E ⟨_, _, _, _, h, _⟩ => by rw [h]; rfl) fun f cdv A outer s0 H E hr ds m Q Ex ⟨rg, n, t, p, h, hk, ho, h1, h2, q⟩ => by
    subst h
    have f_Moment_every_lamp := b_Moment_every_lamp (P := P) (w := w) (base := base) M
    have f_Moment_dot_at := b_Moment_dot_at (P := P) (w := w) (base := base) M
    cases p with
    | not p => cases hk
    | bin o p p2 => cases hk
    | all =>
      unfold mom
      wtm_at "go"
      refine ⟨rg, n, t, rfl, h2, ?_⟩
      refine toQi q ?_
      have : pic rg n t .all = 2 ^ n - 1 := by rw [mk_all]; rfl
      rw [this]
    | none =>
      unfold mom
      wtm_at "go"
      refine toQi q ?_
      have : pic rg n t .none = 0 := mk_none fun i hi => rfl
      rw [this]; rfl
    | lamp k =>
      unfold mom
      have hq : ∀ j : Int, (j = if 0 ≤ k then k else n + k) → Q (.int (if decide (0 ≤ j) = true then (if decide (j < n) = true then 1 * 2 ^ j.toNat else 0) else 0)) m := fun j hj => by
        refine toQi q ?_
        rw [pic_lamp hj]
        by_cases h0 : 0 ≤ j
        · rw [if_pos (decide_eq_true h0)]
          by_cases h1 : j < n
          · rw [if_pos (decide_eq_true h1), if_pos ⟨h0, h1⟩, Int.one_mul]; push_cast; rfl
          · rw [if_neg (by rw [decide_eq_false h1]; decide), if_neg (fun z => h1 z.2)]; rfl
        · rw [if_neg (by rw [decide_eq_false h0]; decide), if_neg (fun z => h0 z.1)]; rfl
      have hk1 : -3 ≤ k := ho.1
      have hk2 : k ≤ 2 := ho.2
      by_cases h0 : 0 ≤ k
      · have hq := hq k (by rw [if_pos h0])
        rw [if_pos (decide_eq_true h0)] at hq
        wtm_at "go"
        refine ifD (fun hc => ?_) (fun hc => ?_)
        · rw [if_pos (decide_eq_true hc)] at hq
          wtm_at "go"
          exact hq
        · rw [if_neg (by rw [decide_eq_false hc]; decide)] at hq
          wtm_at "go"
          exact hq
      · have hq := hq (n + k) (by rw [if_neg h0])
        wtm_at "go"
        refine ifD (fun hc => ?_) (fun hc => ?_)
        · rw [if_pos (decide_eq_true hc)] at hq
          wtm_at "go"
          rw [if_pos (decide_eq_true (by omega))] at hq
          wtm_at "go"
          exact hq
        · rw [if_neg (by rw [decide_eq_false hc]; decide)] at hq
          wtm_at "go"
          exact hq
    | dot k u =>
      unfold mom
      wtm_at "go"
      refine ⟨rg, n, t, k, u, rfl, h1, h2, ?_⟩
      have hd := dotAt_lt (rg := rg) (n := n) (t := t) (k := k) (u := u) h1
      wtm_at "go"
      refine toQi q ?_
      rw [pic_dot h1, Int.one_mul]; push_cast; rfl
    | comb e r =>
      unfold mom
      obtain ⟨o1, o2, o3⟩ := ho
      obtain ⟨e', rfl⟩ : ∃ e' : Nat, e = e' := ⟨e.toNat, by omega⟩
      obtain ⟨r', rfl⟩ : ∃ r' : Nat, r = r' := ⟨r.toNat, by omega⟩
      obtain ⟨k, k1, k2, k3, k4⟩ := comb_rng (n := n) (e := e') (r := r') (by omega) (by omega) h2
      have hs := comb_sum (n := n) (e := e') (r := r') (by omega) (by omega) k k2 k3
      wtm_at "go"
      refine ⟨_, _, _, k, rfl, k1, ?_⟩
      refine LcD.map1 (fun d => .int (1 * 2 ^ (intOf d).toNat)) (by rw [rngD_len]; omega) (fun d acc L hd hL => ⟨_, rfl, fun s2 H2 C cl fp => ?_⟩) ?_
      · obtain ⟨i, hi, rfl⟩ := List.mem_map.mp hd
        have hi2 := k2 i (List.mem_range.mp hi)
        have e1 : (r' : Int) + (i : Int) * (e' : Int) = ((r' + i * e' : Nat) : Int) := by push_cast; rfl
        rw [e1]
        wtm_at "go"
        first | exact ⟨rfl, rfl⟩ | exact rfl
      · wtm_at "go"
        refine ⟨(List.range k).map fun i => ((2 ^ (r' + i * e') : Nat) : Int), ?_, ?_⟩
        · rw [List.map_map]
          unfold rngD
          rw [List.map_map]
          refine List.map_congr_left fun i _ => ?_
          show D.int _ = D.int _
          have e1 : (r' : Int) + (i : Int) * (e' : Int) = ((r' + i * e' : Nat) : Int) := by push_cast; rfl
          show D.int (1 * 2 ^ ((r' : Int) + (i : Int) * (e' : Int)).toNat) = _
          rw [e1, Int.toNat_natCast, Int.one_mul]; push_cast; rfl
        · refine toQi q ?_
          have hp : pic rg n t (.comb e' r') = mk (fun i => decide ((i : Int) % (e' : Int) = (r' : Int))) n := mk_congr fun i _ => rfl
          rw [hp, ← hs]
          generalize List.range k = l
          induction l with
          | nil => rfl
          | cons a l ih => rw [List.map_cons, List.map_cons, List.sum_cons, List.sum_cons, ih]; push_cast; rfl
    | beat e r =>
      unfold mom
      have he : 0 < e := by obtain ⟨h, _⟩ := ho; omega
      wtm_at "go"
      refine ifD (fun hc => ?_) (fun hc => ?_)
      · wtm_at "go"
        refine ⟨rg, n, t, rfl, h2, ?_⟩
        refine toQi q ?_
        rw [pic_beat, if_pos hc]
      · wtm_at "go"
        refine toQi q ?_
        rw [pic_beat, if_neg hc]; rfl
end
end
end
section
section
variable {P : Program} {w : World} {K : PySem.W.Frag} {mg : Str → Option Value} {base : Heap} (M : Mod K mg)
include M
def S_Moment_lit (N : Nat) : SpD := fun ds m Q _ => ∃ rg, ∃ n t : Nat, ∃ p : Pat, ds = [mom M rg n t, p.d] ∧ p.dep < N ∧ p.ok ∧ 1 ≤ n ∧ n ≤ 90000 ∧ Q (.int (pic rg n t p : Nat)) m
section
local macro_rules | `(tactic| wtm_at "nm") => `(tactic| first
  | ((with_reducible show AM.CE _ (Expr.Name (Str.ofString "self") _) _ _ _ _); refine AM.W.nm (i := 0) rfl rfl (by wtm_at "vis") ?_)
  | ((with_reducible show AM.CE _ (Expr.Name (Str.ofString "pattern") _) _ _ _ _); refine AM.W.nm (i := 1) rfl rfl (by wtm_at "vis") ?_)
  | ((with_reducible show AM.CE _ (Expr.Name (Str.ofString "word") _) _ _ _ _); refine AM.W.nm (i := 2) rfl rfl (by wtm_at "vis") ?_)
  | ((with_reducible show AM.CE _ (Expr.Name (Str.ofString "one") _) _ _ _ _); refine AM.W.nm (i := 3) rfl rfl (by wtm_at "vis") ?_)
  | ((with_reducible show AM.CE _ (Expr.Name (Str.ofString "other") _) _ _ _ _); refine AM.W.nm (i := 4) rfl rfl (by wtm_at "vis") ?_))
local macro_rules | `(tactic| wtm_at "mt") => `(tactic| first
  | ((with_reducible show AM.CE _ (Expr.Call (Expr.Attribute _ (Str.ofString "plain") _) _ _ _) _ _ _ _); refine AM.W.meth f_Moment_plain hr (by first | decide | omega) ?_)
  | ((with_reducible show AM.CE _ (Expr.Call (Expr.Attribute _ (Str.ofString "lit") _) _ _ _) _ _ _ _); refine AM.W.meth f_Moment_lit hr (by first | decide | omega) ?_)
  | ((with_reducible show AM.CE _ (Expr.Call (Expr.Attribute _ (Str.ofString "every_lamp") _) _ _ _) _ _ _ _); refine AM.W.meth0 f_Moment_every_lamp hr (by first | decide | omega) ?_))
local macro_rules | `(tactic| wtm_at "ca") => `(tactic| first
  | ((with_reducible first | show AM.S_Moment_plain _ _ _ _ | show AM.S_Moment_plain _ _ _ _ _ | show AM.S_Moment_plain _ _ _ _ _ _); refine AM.S_Moment_plain.mk ?_)
  | ((with_reducible first | show AM.S_Moment_lit _ _ _ _ | show AM.S_Moment_lit _ _ _ _ _ | show AM.S_Moment_lit _ _ _ _ _ _); refine AM.S_Moment_lit.mk ?_)
  | ((with_reducible first | show AM.S_Moment_every_lamp _ _ _ _ | show AM.S_Moment_every_lamp _ _ _ _ _ | show AM.S_Moment_every_lamp _ _ _ _ _ _); refine AM.S_Moment_every_lamp.mk ?_))
local macro_rules | `(tactic| wtm_at "as") => `(tactic| first
  | ((with_reducible show AM.CS _ (Stmt.Assign [Expr.Name (Str.ofString "word") _] _ _) _ _ _); refine AM.CS.set (i := 2) rfl (by wtm_at "loc") ?_ sc_Moment_lit.nd (.inl rfl)))
local macro_rules | `(tactic| wtm_at "at") => `(tactic| first
  | ((with_reducible show AM.CS _ (Stmt.Assign [Expr.Tuple [Expr.Name (Str.ofString "one") _, Expr.Name (Str.ofString "other") _] _ _] (Expr.Tuple _ _ _) _) _ _ _); refine AM.CS.par (i := 3) (j := 4) rfl sc_Moment_lit.nd rfl rfl (by decide) rfl rfl ?_ (by rfl)))
local macro_rules | `(tactic| wtm_at "fc") => `(tactic| first
  | exact M.f_Lights_own_shape
  | exact M.f_Lights_own_pattern
  | exact M.f_Moment_way_round
  | exact M.f_Moment_is_chain
  | exact M.f_Moment_many
  | exact M.f_Moment_now
  | exact M.f_Plainly_own_shape
  | exact M.f_Plainly_own_pattern)
theorem b_Moment_lit : ∀ N, MtG P w K mg base M.A_Moment "lit" (3 + N) (S_Moment_lit M N) := fun N => by
  induction N with
  | zero => exact gM (k := 2) M.D_Moment_lit sc_Moment_lit (fun ds m Q E ⟨_, _, _, _, _, h, _⟩ => absurd h (Nat.not_lt_zero _)) fun f cdv A outer s0 H E hr ds m Q Ex ⟨_, _, _, _, _, h, _⟩ => absurd h (Nat.not_lt_zero _)
  | succ N ih =>
    refine gM (k := 3 + N) M.D_Moment_lit sc_Moment_lit (fun ds m Q E ⟨_, _, _, _, h, _⟩ => by rw [h]; rfl) fun f cdv A outer s0 H E hr ds m Q Ex ⟨rg, n, t, p, h, hd, ho, h1, h2, q⟩ => ?_
    subst h
    have f_Moment_every_lamp := b_Moment_every_lamp (P := P) (w := w) (base := base) M
    have f_Moment_plain := b_Moment_plain (P := P) (w := w) (base := base) M
    have f_Moment_lit := ih
    have leaf : p.kids = [] → S_Moment_plain M [mom M rg n t, p.d] m Q (fun C o m' => Ex C o m') := fun hk => ⟨rg, n, t, p, rfl, hk, ho, h1, h2, q⟩
    unfold mom at leaf ⊢
    cases p with
    | not p =>
      simp only [Pat.dep] at hd
      wtm_at "go"
      refine ⟨rg, n, t, rfl, h2, ?_⟩
      wtm_at "go"
      refine ⟨rg, n, t, p, rfl, by omega, ho, h1, h2, ?_⟩
      wtm_at "go"
      refine toQi q ?_
      rw [xor_nat]
      congr 1
      have hp : pic rg n t (.not p) = mk (fun i => xor true (onP rg n t p i)) n := mk_congr fun i _ => by show (!onP rg n t p i) = _; cases onP rg n t p i <;> rfl
      rw [hp, mk_all]
      exact mk_xor
    | bin o p p2 =>
      simp only [Pat.dep] at hd
      obtain ⟨o1, o2⟩ := ho
      cases o
      all_goals wtm_at "go"
      all_goals refine ⟨rg, n, t, p, rfl, by omega, o1, h1, h2, ?_⟩
      all_goals wtm_at "go"
      all_goals refine ⟨rg, n, t, p2, rfl, by omega, o2, h1, h2, ?_⟩
      all_goals wtm_at "go"
      · refine toQi q ?_
        rw [and_nat]; congr 1
        exact mk_and
      · refine toQi q ?_
        rw [or_nat]; congr 1
        exact mk_or
      · refine toQi q ?_
        rw [xor_nat]; congr 1
        exact mk_xor
    | all => wtm_at "go"; exact leaf rfl
    | none => wtm_at "go"; exact leaf rfl
    | lamp k => wtm_at "go"; exact leaf rfl
    | dot k u => wtm_at "go"; exact leaf rfl
    | comb e r => wtm_at "go"; exact leaf rfl
    | beat e r => wtm_at "go"; exact leaf rfl
end
end
end
section
section
variable {P : Program} {w : World} {K : PySem.W.Frag} {mg : Str → Option Value} {base : Heap} (M : Mod K mg)
include M
def S_picture_of : SpD := fun ds m Q _ => ∃ L rg p, ∃ n t : Nat, ds = [L, .int n, .int t] ∧ LtD (K := K) L rg p ∧ p.dep < 10 ∧ p.ok ∧ 1 ≤ n ∧ n ≤ 90000 ∧ Q (.int (pic rg n t p : Nat)) m
section
local macro_rules | `(tactic| wtm_at "nm") => `(tactic| first
  | ((with_reducible show AM.CE _ (Expr.Name (Str.ofString "lights") _) _ _ _ _); refine AM.W.nm (i := 0) rfl rfl (by wtm_at "vis") ?_)
  | ((with_reducible show AM.CE _ (Expr.Name (Str.ofString "n") _) _ _ _ _); refine AM.W.nm (i := 1) rfl rfl (by wtm_at "vis") ?_)
  | ((with_reducible show AM.CE _ (Expr.Name (Str.ofString "t") _) _ _ _ _); refine AM.W.nm (i := 2) rfl rfl (by wtm_at "vis") ?_))
local macro_rules | `(tactic| wtm_at "fn") => `(tactic| first
  | ((with_reducible show AM.CE _ (Expr.Call (Expr.Name (Str.ofString "Moment") _) _ _ _) _ _ _ _); refine AM.W.makeX f_Moment hr (by first | decide | omega) ?_))
local macro_rules | `(tactic| wtm_at "mt") => `(tactic| first
  | ((with_reducible show AM.CE _ (Expr.Call (Expr.Attribute _ (Str.ofString "lit") _) _ _ _) _ _ _ _); refine AM.W.meth f_Moment_lit hr (by first | decide | omega) ?_))
local macro_rules | `(tactic| wtm_at "ca") => `(tactic| first
  | ((with_reducible first | show AM.S_Moment_lit _ _ _ _ | show AM.S_Moment_lit _ _ _ _ _ | show AM.S_Moment_lit _ _ _ _ _ _); refine AM.S_Moment_lit.mk ?_))
local macro_rules | `(tactic| wtm_at "fc") => `(tactic| first
  | exact M.f_Lights_own_shape
  | exact M.f_Lights_own_pattern
  | exact M.f_Moment_way_round
  | exact M.f_Moment_is_chain
  | exact M.f_Moment_many
  | exact M.f_Moment_now
  | exact M.f_Plainly_own_shape
  | exact M.f_Plainly_own_pattern)
theorem b_picture_of : FnG P w K mg base "picture_of" 14 (S_picture_of (K := K)) :=
  gD M.D_picture_of sc_picture_of (fun ds m Q E ⟨_, _, _, _, _, h, _⟩ => by rw [h]; rfl) fun f cdv A outer s0 H E hr ds m Q Ex ⟨L, rg, p, n, t, h, hL, hd, ho, h1, h2, q⟩ => by
    subst h
    have hL' := hL
    obtain ⟨C, hC, g1, g2⟩ := hL
    subst hC
    have f_Moment := b_Moment (P := P) (w := w) (base := base) M
    have f_Moment_lit := b_Moment_lit (P := P) (w := w) (base := base) M 10
    wtm_at "go"
    intro a ha
    refine ⟨a, _, rg, p, n, t, rfl, Mu.set_same, hL', h1, h2, rfl, aFrz.mk Mu.set_same ?_⟩
    simp only [Mu.set_set]
    rw [Mu.del_set ha]
    wtm_at "go"
    refine ⟨rg, n, t, p, rfl, hd, ho, h1, h2, ?_⟩
    exact q
end
end
end
section
def isN (v : D) (least : Int) : Bool := match v with
  | .int i => decide (least ≤ i)
  | _ => false
section
variable {P : Program} {w : World} {K : PySem.W.Frag} {mg : Str → Option Value} {base : Heap} (M : Mod K mg)
include M
def S_is_number : SpD := fun ds m Q _ => ∃ v l, ds = [v, .int l] ∧ Pl v ∧ Q (.bl (isN v l)) m
omit M in
theorem S_is_number.mk {v : D} {l : Int} {m : Mu} {Q : D → Mu → Prop} {E : Addr → Option (List (Str × D)) → Mu → Prop} (h : Pl v ∧ Q (.bl (isN v l)) m) : S_is_number [v, .int l] m Q E := ⟨v, l, rfl, h⟩
section
local macro_rules | `(tactic| wtm_at "nm") => `(tactic| first
  | ((with_reducible show AM.CE _ (Expr.Name (Str.ofString "value") _) _ _ _ _); refine AM.W.nm (i := 0) rfl rfl (by wtm_at "vis") ?_)
  | ((with_reducible show AM.CE _ (Expr.Name (Str.ofString "least") _) _ _ _ _); refine AM.W.nm (i := 1) rfl rfl (by wtm_at "vis") ?_))
local macro_rules | `(tactic| wtm_at "fn") => `(tactic| first
  | ((with_reducible show AM.CE _ (Expr.Call (Expr.Name (Str.ofString "int") _) _ _ _) _ _ _ _); refine AM.W.intI M.NB_int ?_)
  | ((with_reducible show AM.CE _ (Expr.Call (Expr.Name (Str.ofString "isinstance") _) [_, Expr.Name (Str.ofString "int") _] _ _) _ _ _ _); refine AM.W.isi AM.TyS.int M.NB_isinstance M.NB_int ?_)
  | ((with_reducible show AM.CE _ (Expr.Call (Expr.Name (Str.ofString "isinstance") _) [_, Expr.Name (Str.ofString "bool") _] _ _) _ _ _ _); refine AM.W.isi AM.TyS.bool M.NB_isinstance M.NB_bool ?_))
local macro_rules | `(tactic| wtm_at "fc") => `(tactic| first
  | exact M.f_Lights_own_shape
  | exact M.f_Lights_own_pattern
  | exact M.f_Moment_way_round
  | exact M.f_Moment_is_chain
  | exact M.f_Moment_many
  | exact M.f_Moment_now
  | exact M.f_Plainly_own_shape
  | exact M.f_Plainly_own_pattern)
theorem b_is_number : FnG P w K mg base "is_number" 1 S_is_number :=
  gD M.D_is_number sc_is_number (fun ds m Q E ⟨_, _, h, _⟩ => by rw [h]; rfl) fun f cdv A outer s0 H E hr ds m Q Ex ⟨v, l, h, ⟨n, hn⟩, q⟩ => by
    subst h
    cases v <;> cases hn
    all_goals wtm_at "all"
    all_goals exact q
end
def S_need_moment : SpD := fun ds m Q E => ∃ nv tv, ds = [nv, tv] ∧ Pl nv ∧ Pl tv ∧ (if isN nv 1 = true then if isN tv 0 = true then Q .non m else E M.A_BadTime none m else E M.A_BadLength none m)
theorem S_need_moment.mk {nv tv : D} {m : Mu} {Q : D → Mu → Prop} {E : Addr → Option (List (Str × D)) → Mu → Prop} (h : Pl nv ∧ Pl tv ∧ (if isN nv 1 = true then if isN tv 0 = true then Q .non m else E M.A_BadTime none m else E M.A_BadLength none m)) : S_need_moment M [nv, tv] m Q E := ⟨nv, tv, rfl, h⟩
section
local macro_rules | `(tactic| wtm_at "nm") => `(tactic| first
  | ((with_reducible show AM.CE _ (Expr.Name (Str.ofString "n") _) _ _ _ _); refine AM.W.nm (i := 0) rfl rfl (by wtm_at "vis") ?_)
  | ((with_reducible show AM.CE _ (Expr.Name (Str.ofString "t") _) _ _ _ _); refine AM.W.nm (i := 1) rfl rfl (by wtm_at "vis") ?_))
local macro_rules | `(tactic| wtm_at "fn") => `(tactic| first
  | ((with_reducible show AM.CE _ (Expr.Call (Expr.Name (Str.ofString "is_number") _) _ _ _) _ _ _ _); refine AM.W.call f_is_number hr (by first | decide | omega) ?_)
  | ((with_reducible show AM.CE _ (Expr.Call (Expr.Name (Str.ofString "BadLength") _) _ _ _) _ _ _ _); refine AM.W.makeX f_BadLength hr (by first | decide | omega) ?_)
  | ((with_reducible show AM.CE _ (Expr.Call (Expr.Name (Str.ofString "BadTime") _) _ _ _) _ _ _ _); refine AM.W.makeX f_BadTime hr (by first | decide | omega) ?_))
local macro_rules | `(tactic| wtm_at "ca") => `(tactic| first
  | ((with_reducible first | show AM.S_is_number _ _ _ _ | show AM.S_is_number _ _ _ _ _ | show AM.S_is_number _ _ _ _ _ _); first | refine AM.S_is_number.mk ?_ | refine AM.S_is_number.mk M ?_))
local macro_rules | `(tactic| wtm_at "fc") => `(tactic| first
  | exact M.f_Lights_own_shape
  | exact M.f_Lights_own_pattern
  | exact M.f_Moment_way_round
  | exact M.f_Moment_is_chain
  | exact M.f_Moment_many
  | exact M.f_Moment_now
  | exact M.f_Plainly_own_shape
  | exact M.f_Plainly_own_pattern)
local macro_rules | `(tactic| wtm_at "ra") => `(tactic| first
  | ((with_reducible show AM.CS _ (Stmt.Raise (some (Expr.Call (Expr.Name (Str.ofString "BadLength") _) [] _ _)) none _) _ _ _); refine AM.CS.raise M.x_BadLength rfl ?_)
  | ((with_reducible show AM.CS _ (Stmt.Raise (some (Expr.Call (Expr.Name (Str.ofString "BadTime") _) [] _ _)) none _) _ _ _); refine AM.CS.raise M.x_BadTime rfl ?_))
theorem b_need_moment : FnG P w K mg base "need_moment" 2 (S_need_moment M) :=
  gD M.D_need_moment sc_need_moment (fun ds m Q E ⟨_, _, h, _⟩ => by rw [h]; rfl) fun f cdv A outer s0 H E hr ds m Q Ex ⟨nv, tv, h, h1, h2, q⟩ => by
    subst h
    have f_is_number := b_is_number (P := P) (w := w) (base := base) M
    cases c1 : isN nv 1
    · rw [c1] at q; rw [if_neg (by decide)] at q
      wtm_at "go"
      exact q
    · rw [c1, if_pos rfl] at q
      cases c2 : isN tv 0
      · rw [c2] at q; rw [if_neg (by decide)] at q
        wtm_at "go"
        exact q
      · rw [c2, if_pos rfl] at q
        wtm_at "go"
        exact q
end
end
end
section
def lampsD (f : Nat → Bool) (n : Nat) : List D := (lampsF f n).map fun i => .int (i : Nat)
theorem lamps_len (f : Nat → Bool) (n : Nat) : (lampsD f n).length ≤ n := by
  unfold lampsD lampsF
  rw [List.length_map]
  exact Nat.le_trans (List.length_filter_le _ _) (by rw [List.length_range]; exact Nat.le_refl _)
theorem lamps_succ (f : Nat → Bool) (i : Nat) : lampsD f (i + 1) = lampsD f i ++ (if f i then [.int (i : Nat)] else []) := by
  unfold lampsD lampsF
  rw [List.range_succ, List.filter_append, List.map_append]
  cases h : f i <;> simp [h]
theorem lamps_end {f : Nat → Bool} {l : Nat} : ∀ n, l ≤ n → (∀ i, l ≤ i → i < n → f i = false) → lampsD f n = lampsD f l
  | 0, h, _ => by have : l = 0 := by omega
                  rw [this]
  | n + 1, h, hf => by
    by_cases e : l = n + 1
    · rw [e]
    · rw [lamps_succ, hf n (by omega) (by omega), lamps_end n (by omega) fun i h1 h2 => hf i h1 (by omega)]
      simp
section
variable {P : Program} {w : World} {K : PySem.W.Frag} {mg : Str → Option Value} {base : Heap} (M : Mod K mg)
include M
def S_lamps_of : SpD := fun ds m Q _ => ∃ (f : Nat → Bool) (n : Nat), ds = [.int (mk f n : Nat)] ∧ n ≤ 90000 ∧ Q (.lst (lampsD f n)) m
omit M in
theorem S_lamps_of.mk {f : Nat → Bool} {n : Nat} {m : Mu} {Q : D → Mu → Prop} {E : Addr → Option (List (Str × D)) → Mu → Prop} (h : n ≤ 90000 ∧ Q (.lst (lampsD f n)) m) : S_lamps_of [.int (mk f n : Nat)] m Q E := ⟨f, n, rfl, h⟩
section
local macro_rules | `(tactic| wtm_at "nm") => `(tactic| first
  | ((with_reducible show AM.CE _ (Expr.Name (Str.ofString "mask") _) _ _ _ _); refine AM.W.nm (i := 0) rfl rfl (by wtm_at "vis") ?_)
  | ((with_reducible show AM.CE _ (Expr.Name (Str.ofString "found") _) _ _ _ _); refine AM.W.nm (i := 1) rfl rfl (by wtm_at "vis") ?_)
  | ((with_reducible show AM.CE _ (Expr.Name (Str.ofString "lamp") _) _ _ _ _); refine AM.W.nm (i := 2) rfl rfl (by wtm_at "vis") ?_))
local macro_rules | `(tactic| wtm_at "as") => `(tactic| first
  | ((with_reducible show AM.CS _ (Stmt.Assign [Expr.Name (Str.ofString "found") _] (Expr.ListComp _ _ _ _) _) _ _ _); refine AM.CS.set (i := 1) rfl (by wtm_at "loc") ?_ sc_lamps_of.nd (.inl rfl); wtm_at "lcL")
  | ((with_reducible show AM.CS _ (Stmt.Assign [Expr.Name (Str.ofString "found") _] (Expr.List _ _) _) _ _ _); refine AM.CS.set (i := 1) rfl (by wtm_at "loc") ?_ sc_lamps_of.nd (.inl rfl); refine AM.CE.newl ?_)
  | ((with_reducible show AM.CS _ (Stmt.Assign [Expr.Name (Str.ofString "found") _] _ _) _ _ _); refine AM.CS.set (i := 1) rfl (by wtm_at "loc") ?_ sc_lamps_of.nd (.inl rfl))
  | ((with_reducible show AM.CS _ (Stmt.Assign [Expr.Name (Str.ofString "lamp") _] _ _) _ _ _); refine AM.CS.set (i := 2) rfl (by wtm_at "loc") ?_ sc_lamps_of.nd (.inl rfl)))
local macro_rules | `(tactic| wtm_at "rz") => `(tactic| first
  | ((with_reducible show AM.CS _ (Stmt.Return (some (Expr.Name (Str.ofString "found") _)) _) _ _ _); refine AM.CS.ret (AM.W.fz ?_)))
local macro_rules | `(tactic| wtm_at "fc") => `(tactic| first
  | exact M.f_Lights_own_shape
  | exact M.f_Lights_own_pattern
  | exact M.f_Moment_way_round
  | exact M.f_Moment_is_chain
  | exact M.f_Moment_many
  | exact M.f_Moment_now
  | exact M.f_Plainly_own_shape
  | exact M.f_Plainly_own_pattern)
theorem b_lamps_of : FnG P w K mg base "lamps_of" 1 S_lamps_of :=
  gD M.D_lamps_of sc_lamps_of (fun ds m Q E ⟨_, _, h, _⟩ => by rw [h]; rfl) fun f cdv A outer s0 H E hr ds m Q Ex ⟨g, n, h, h1, q⟩ => by
    subst h
    wtm_at "go"
    intro a ha
    wtm_at "go"
    refine CS.while (fun z Δ' m' => ∃ l : Nat, l ≤ n ∧ z = n - l ∧ Δ' = [some (.int (mk g n : Nat)), some (.loc a), some (.int l)] ∧ m' = m.set a (.l (lampsD g l))) n ⟨0, Nat.zero_le _, rfl, rfl, rfl⟩ (fun z Δ' m' ⟨l, hl, hz, hx, hm⟩ => ?_)
    subst hx; subst hm
    have hlen := lamps_len g l
    have e1 : ((mk g n : Nat) : Int) / 2 ^ ((l : Nat) : Int).toNat = ((mk g n / 2 ^ l : Nat) : Int) := by rw [Int.toNat_natCast]; push_cast; rfl
    wtm_at "go"
    rw [e1]
    refine ifD (fun hc => ?_) (fun hc => ?_)
    · have hln : l < n := by
        rcases Nat.lt_or_ge l n with h | h
        · exact h
        · have h3 : mk g n < 2 ^ l := Nat.lt_of_lt_of_le (mk_lt g n) (Nat.pow_le_pow_right (by omega) h)
          rw [Nat.div_eq_of_lt h3] at hc
          simp at hc
      wtm_at "go"
      rw [e1]
      have e2 : Builtin.bitAnd ((mk g n / 2 ^ l : Nat) : Int) 1 = ((mk g n / 2 ^ l % 2 : Nat) : Int) := by rw [PyProof.Rows.bitAnd_m1]; omega
      rw [e2]
      have hb := mk_shift (f := g) (n := n) (i := l)
      have hs := lamps_succ g l
      cases hg : g l
      · have h2 : mk g n / 2 ^ l % 2 = 0 := by
          have : ¬ mk g n / 2 ^ l % 2 = 1 := fun z => by have := (hb.mp z).2; rw [hg] at this; cases this
          omega
        rw [h2]
        wtm_at "go"
        refine ⟨n - (l + 1), by omega, l + 1, hln, rfl, rfl, ?_⟩
        rw [hs, hg]; simp
      · have h2 : mk g n / 2 ^ l % 2 = 1 := hb.mpr ⟨hln, hg⟩
        rw [h2]
        wtm_at "go"
        refine ⟨n - (l + 1), by omega, l + 1, hln, rfl, rfl, ?_⟩
        rw [hs, hg, Mu.set_set]; rfl
    · wtm_at "go"
      refine toQ q ?_ (Mu.del_set ha)
      have h0 : mk g n / 2 ^ l = 0 := Nat.eq_zero_of_not_pos fun z => hc (Int.natCast_pos.mpr z)
      rw [lamps_end n hl fun i h1 h2 => mk_end h0 i h1 h2]
end
end
end
section
section
variable {P : Program} {w : World} {K : PySem.W.Frag} {mg : Str → Option Value} {base : Heap} (M : Mod K mg)
include M
def S_picture : SpD := fun ds m Q E => ∃ L rg p nv tv, ds = [L, nv, tv] ∧ LtD (K := K) L rg p ∧ p.dep < 10 ∧ p.ok ∧ Pl nv ∧ Pl tv ∧
  (if isN nv 1 = true then if isN tv 0 = true then ∃ n t : Nat, nv = .int n ∧ tv = .int t ∧ 1 ≤ n ∧ n ≤ 90000 ∧ Q (.lst (lampsD (onP rg n t p) n)) m else E M.A_BadTime none m else E M.A_BadLength none m)
section
local macro_rules | `(tactic| wtm_at "nm") => `(tactic| first
  | ((with_reducible show AM.CE _ (Expr.Name (Str.ofString "lights") _) _ _ _ _); refine AM.W.nm (i := 0) rfl rfl (by wtm_at "vis") ?_)
  | ((with_reducible show AM.CE _ (Expr.Name (Str.ofString "n") _) _ _ _ _); refine AM.W.nm (i := 1) rfl rfl (by wtm_at "vis") ?_)
  | ((with_reducible show AM.CE _ (Expr.Name (Str.ofString "t") _) _ _ _ _); refine AM.W.nm (i := 2) rfl rfl (by wtm_at "vis") ?_))
local macro_rules | `(tactic| wtm_at "fn") => `(tactic| first
  | ((with_reducible show AM.CE _ (Expr.Call (Expr.Name (Str.ofString "need_moment") _) _ _ _) _ _ _ _); refine AM.W.call f_need_moment hr (by first | decide | omega) ?_)
  | ((with_reducible show AM.CE _ (Expr.Call (Expr.Name (Str.ofString "lamps_of") _) _ _ _) _ _ _ _); refine AM.W.call f_lamps_of hr (by first | decide | omega) ?_)
  | ((with_reducible show AM.CE _ (Expr.Call (Expr.Name (Str.ofString "picture_of") _) _ _ _) _ _ _ _); refine AM.W.call f_picture_of hr (by first | decide | omega) ?_))
local macro_rules | `(tactic| wtm_at "ca") => `(tactic| first
  | ((with_reducible first | show AM.S_need_moment _ _ _ _ | show AM.S_need_moment _ _ _ _ _ | show AM.S_need_moment _ _ _ _ _ _); first | refine AM.S_need_moment.mk ?_ | refine AM.S_need_moment.mk M ?_)
  | ((with_reducible first | show AM.S_lamps_of _ _ _ _ | show AM.S_lamps_of _ _ _ _ _ | show AM.S_lamps_of _ _ _ _ _ _); first | refine AM.S_lamps_of.mk ?_ | refine AM.S_lamps_of.mk M ?_)
  | ((with_reducible first | show AM.S_picture_of _ _ _ _ | show AM.S_picture_of _ _ _ _ _ | show AM.S_picture_of _ _ _ _ _ _); first | refine AM.S_picture_of.mk ?_ | refine AM.S_picture_of.mk M ?_))
local macro_rules | `(tactic| wtm_at "fc") => `(tactic| first
  | exact M.f_Lights_own_shape
  | exact M.f_Lights_own_pattern
  | exact M.f_Moment_way_round
  | exact M.f_Moment_is_chain
  | exact M.f_Moment_many
  | exact M.f_Moment_now
  | exact M.f_Plainly_own_shape
  | exact M.f_Plainly_own_pattern)
theorem b_picture : FnG P w K mg base "picture" 15 (S_picture M) :=
  gD M.D_picture sc_picture (fun ds m Q E ⟨_, _, _, _, _, h, _⟩ => by rw [h]; rfl) fun f cdv A outer s0 H E hr ds m Q Ex ⟨L, rg, p, nv, tv, h, hL, hd, ho, h1, h2, q⟩ => by
    subst h
    have f_need_moment := b_need_moment (P := P) (w := w) (base := base) M
    have f_picture_of := b_picture_of (P := P) (w := w) (base := base) M
    have f_lamps_of := b_lamps_of (P := P) (w := w) (base := base) M
    wtm_at "go"
    cases c1 : isN nv 1
    · rw [c1] at q; rw [if_neg (by decide)] at q ⊢
      exact q
    · rw [c1, if_pos rfl] at q
      rw [if_pos rfl]
      cases c2 : isN tv 0
      · rw [c2] at q; rw [if_neg (by decide)] at q ⊢
        exact q
      · rw [c2, if_pos rfl] at q
        rw [if_pos rfl]
        obtain ⟨n, t, rfl, rfl, g1, g2, q⟩ := q
        wtm_at "go"
        refine ⟨L, rg, p, n, t, rfl, hL, hd, ho, g1, g2, ?_⟩
        wtm_at "go"
        exact q
end
end
end
end AM
set_option autoImplicit false
set_option maxRecDepth 100000
set_option maxHeartbeats 1000000
set_option hygiene false
open PySem L2 PySem.Spec PyProof.Rows
namespace AM

local macro_rules | `(tactic| wtm_at "vis") => `(tactic| first | exact .inl rfl | exact .inr (.inl rfl) | exact .inr (.inr rfl))
local macro_rules | `(tactic| wtm_at "loc") => `(tactic| first | exact .inl rfl | exact .inr rfl)
local macro_rules | `(tactic| wtm_at "ne") => `(tactic| first | assumption | exact Ne.symm (by assumption) | (intro z; subst z; simp_all; done))
local macro_rules | `(tactic| wtm_at "mu") => `(tactic| first | assumption | exact AM.Mu.set_same | (rw [AM.Mu.set_ne (by wtm_at "ne")]; wtm_at "mu"))
local macro_rules | `(tactic| wtm_at "pl") => `(tactic| first | exact ⟨_, rfl⟩ | assumption | exact AM.Pat.pl _)
local macro_rules | `(tactic| wtm_at "ar") => `(tactic| first | ((with_reducible first | show _ = some (AM.MO.o _ _) | show _ = some (AM.MO.l _)); wtm_at "mu") | ((with_reducible show AM.Pl _); wtm_at "pl") | with_reducible assumption | omega | assumption | exact ⟨by omega, by omega⟩ | decide | (refine ⟨?_, ?_, ?_⟩ <;> omega) | (refine ⟨?_, ?_, ?_, ?_⟩ <;> omega) | (exact .inl ⟨by omega, by omega⟩) | (exact .inr ⟨by omega, by omega⟩) | (simp; omega) | exact of_decide_eq_true rfl | (simp; done))
local macro_rules | `(tactic| wtm_at "ca") => `(tactic| fail)
local macro_rules | `(tactic| wtm_at "tr") => `(tactic| fail)
local macro_rules | `(tactic| wtm_at "xm") => `(tactic| fail)
local macro_rules | `(tactic| wtm_at "ls") => `(tactic| first | exact .inl rfl | exact .inr ⟨_, rfl, by wtm_at "mu"⟩)
local macro_rules | `(tactic| wtm_at "io") => `(tactic| fail)
local macro_rules | `(tactic| wtm_at "mt") => `(tactic| fail)
local macro_rules | `(tactic| wtm_at "eo") => `(tactic| fail)
local macro_rules | `(tactic| wtm_at "eot") => `(tactic| fail)
local macro_rules | `(tactic| wtm_at "pr") => `(tactic| fail)
local macro_rules | `(tactic| wtm_at "lcL") => `(tactic| fail)
local macro_rules | `(tactic| wtm_at "nl") => `(tactic| fail)
local macro_rules | `(tactic| wtm_at "lk") => `(tactic| refine AM.aLook.mk rfl ?_)
local macro_rules | `(tactic| wtm_at "rz") => `(tactic| fail)
local macro_rules | `(tactic| wtm_at "ix") => `(tactic| assumption)
local macro_rules | `(tactic| wtm_at "if") => `(tactic| first | refine L2.iteT ?_ | refine L2.iteF ?_ | refine AM.ifT (by with_reducible assumption) ?_ | refine AM.ifF (by with_reducible assumption) ?_ | refine AM.ifDT (by first | with_reducible rfl | assumption | omega) ?_ | refine AM.ifDF (by first | assumption | omega) ?_ | refine AM.ifN ?_)
local macro_rules | `(tactic| wtm_at "ans") => `(tactic| first
  | ((with_reducible show AM.aII _ _ _); refine AM.aII.mk ?_)
  | ((with_reducible show AM.aI _ _); refine AM.aI.mk ?_)
  | ((with_reducible show AM.aB _ _); refine AM.aB.mk ?_)
  | ((with_reducible show AM.aS _ _); refine AM.aS.mk ?_)
  | ((with_reducible show AM.aIB _ _); first | refine AM.aIB.int ?_ | refine AM.aIB.bl ?_)
  | ((with_reducible show AM.aEq _ _ _); first | refine AM.aEq.int ?_ | refine AM.aEq.str ?_ | refine AM.aEq.bl ?_ | refine AM.aEq.py rfl rfl (by decide) (by decide) ?_ | refine AM.aEq.py (by decide +kernel) (by decide +kernel) (by decide +kernel) (by decide +kernel) ?_)
  | ((with_reducible show AM.aSeq _ _ _); first | refine AM.aSeq.tup ?_ | refine AM.aSeq.lst ?_ | refine AM.aSeq.loc (by wtm_at "mu") ?_)
  | ((with_reducible show AM.aLst _ _ _); first | refine AM.aLst.lst ?_ | refine AM.aLst.loc (by wtm_at "mu") ?_)
  | ((with_reducible show AM.aStay _ _); first | refine AM.aStay.lst ?_ | refine AM.aStay.fz ?_)
  | ((with_reducible show AM.aPut _ _ _ _); refine AM.aPut.mk (by wtm_at "mu") (by first | exact AM.ixN_0 | exact AM.ixN_1 | rfl) ?_)
  | ((with_reducible show AM.aFA _ _ _ _ _); refine AM.aFA.mk (by wtm_at "mu") (by wtm_at "fc") rfl (by wtm_at "ar") ?_)
  | ((with_reducible show AM.aEqO _ _ _ _ _ _ _); refine ⟨_, by first | exact .inl rfl | exact .inr ⟨_, rfl, by wtm_at "mu"⟩, by first | exact .inl ⟨_, .inl rfl⟩ | exact .inr ⟨_, rfl, M.i_Lights.nf⟩, ?_⟩)
  | ((with_reducible show AM.aIS _ _); first | refine AM.aIS.str ?_ | refine AM.aIS.int (by exact AM.log_small (by omega) (by omega)) ?_)
  | ((with_reducible show AM.aIsO _ _ _ _ _); wtm_at "io")
  | ((with_reducible show AM.aIns _ _ _ _); first | refine AM.aIns.ins ?_ | refine AM.aIns.loc (by wtm_at "mu") ?_)
  | ((with_reducible show AM.HdD _ _ _ _ _ _ _); first | refine AM.HdD.hit (by wtm_at "xm") (fun _ _ => ?_) | refine AM.HdD.miss (by wtm_at "xm") ?_)
  | ((with_reducible show AM.aFz _ _ _); refine AM.aFz.mk (by wtm_at "mu") ?_)
  | ((with_reducible show AM.aTup _ _); refine AM.aTup.mk ?_)
  | ((with_reducible show AM.aLoc _ _ _); refine AM.aLoc.mk (by wtm_at "mu") ?_)
  | ((with_reducible show AM.aObj _ _ _); first | refine AM.aObj.ins ?_ | refine AM.aObj.loc (by wtm_at "mu") ?_)
  | ((with_reducible show AM.aAt _ _ _); refine AM.aAt.mk (by first | exact AM.atI_0 | exact AM.atI_1 | exact AM.atI_2 | rfl | wtm_at "ix") ?_)
  | ((with_reducible show AM.aTy _ _); refine AM.aTy.mk rfl ?_)
  | ((with_reducible show AM.aPlus _ _ _ _); first | refine AM.aPlus.int ?_ | refine AM.aPlus.tup (by wtm_at "ar") ?_ | refine AM.aPlus.lst (by wtm_at "ls") (by wtm_at "ls") (by wtm_at "ar") ?_)
  | ((with_reducible show AM.aTimes _ _ _ _); refine AM.aTimes.int (by wtm_at "ar") ?_)
  | ((with_reducible show AM.aSl _ _ _ _ _); first | refine AM.aSl.lst ?_ | refine AM.aSl.tup ?_ | refine AM.aSl.loc (by wtm_at "mu") ?_)
  | ((with_reducible show AM.aIn _ _ _ _); first | refine AM.aIn.str (.inl rfl) ?_ | refine AM.aIn.str (.inr (.inl rfl)) ?_ | refine AM.aIn.str (.inr (.inr ⟨_, rfl, by wtm_at "mu"⟩)) ?_ | refine AM.aIn.mk (.inl rfl) rfl rfl ?_ | refine AM.aIn.mk (.inr (.inl rfl)) rfl rfl ?_)
  | ((with_reducible show AM.aLook _ _ _); wtm_at "lk")
  | ((with_reducible show AM.aMeth _ _ _ _ _); first | refine AM.aMeth.ins rfl ?_ | refine AM.aMeth.loc (by wtm_at "mu") rfl ?_))
local macro_rules | `(tactic| wtm_at "bin") => `(tactic| first
  | ((with_reducible show AM.CE _ (Expr.BinOp _ Operator.Add _ _) _ _ _ _); refine AM.W.plus ?_)
  | ((with_reducible show AM.CE _ (Expr.BinOp _ Operator.Sub _ _) _ _ _ _); refine AM.W.sub ?_)
  | ((with_reducible show AM.CE _ (Expr.BinOp _ Operator.Mult _ _) _ _ _ _); refine AM.W.times ?_)
  | ((with_reducible show AM.CE _ (Expr.BinOp _ Operator.Mod _ _) _ _ _ _); refine AM.W.mod ?_)
  | ((with_reducible show AM.CE _ (Expr.BinOp _ Operator.FloorDiv _ _) _ _ _ _); refine AM.W.fdiv ?_)
  | ((with_reducible show AM.CE _ (Expr.BinOp _ Operator.Pow _ _) _ _ _ _); refine AM.W.pow ?_)
  | ((with_reducible show AM.CE _ (Expr.BinOp _ Operator.LShift _ _) _ _ _ _); refine AM.W.shl ?_)
  | ((with_reducible show AM.CE _ (Expr.BinOp _ Operator.RShift _ _) _ _ _ _); refine AM.W.shr ?_)
  | ((with_reducible show AM.CE _ (Expr.BinOp _ Operator.BitAnd _ _) _ _ _ _); refine AM.W.band ?_)
  | ((with_reducible show AM.CE _ (Expr.BinOp _ Operator.BitOr _ _) _ _ _ _); refine AM.W.bor ?_)
  | ((with_reducible show AM.CE _ (Expr.BinOp _ Operator.BitXor _ _) _ _ _ _); refine AM.W.bxor ?_))
local macro_rules | `(tactic| wtm_at "cmp") => `(tactic| first
  | wtm_at "eo"
  | ((with_reducible show AM.CE _ (Expr.Compare _ [CmpOp.Eq] _ _) _ _ _ _); refine AM.W.eq hr ?_)
  | ((with_reducible show AM.CE _ (Expr.Compare _ [CmpOp.NotEq] _ _) _ _ _ _); refine AM.W.ne hr ?_)
  | ((with_reducible show AM.CE _ (Expr.Compare _ [CmpOp.Lt] _ _) _ _ _ _); refine AM.W.lt ?_)
  | ((with_reducible show AM.CE _ (Expr.Compare _ [CmpOp.LtE] _ _) _ _ _ _); refine AM.W.le ?_)
  | ((with_reducible show AM.CE _ (Expr.Compare _ [CmpOp.Gt] _ _) _ _ _ _); refine AM.W.gt ?_)
  | ((with_reducible show AM.CE _ (Expr.Compare _ [CmpOp.GtE] _ _) _ _ _ _); refine AM.W.ge ?_)
  | ((with_reducible show AM.CE _ (Expr.Compare _ [CmpOp.In] _ _) _ _ _ _); refine AM.W.inq ?_)
  | ((with_reducible show AM.CE _ (Expr.Compare _ [CmpOp.NotIn] _ _) _ _ _ _); refine AM.W.notin ?_)
  | ((with_reducible show AM.CE _ (Expr.Compare _ [CmpOp.Is] [Expr.Constant Const.none _ _] _) _ _ _ _); refine AM.CE.isN ?_)
  | ((with_reducible show AM.CE _ (Expr.Compare _ [CmpOp.IsNot] [Expr.Constant Const.none _ _] _) _ _ _ _); refine AM.CE.notN ?_)
  | ((with_reducible show AM.CE _ (Expr.Compare _ [CmpOp.LtE, CmpOp.LtE] _ _) _ _ _ _); refine AM.W.lele ?_ (fun _ _ _ h1 h2 h3 => L2.pe_chain L2.op_le L2.op_le h1 h2 h3))
  | ((with_reducible show AM.CE _ (Expr.Compare _ [CmpOp.LtE, CmpOp.Lt] _ _) _ _ _ _); refine AM.W.lelt ?_ (fun _ _ _ h1 h2 h3 => L2.pe_chain L2.op_le L2.op_lt h1 h2 h3)))
local macro_rules | `(tactic| wtm_at "mt0") => `(tactic| first
  | ((with_reducible show AM.CE _ (Expr.Call (Expr.Attribute _ (Str.ofString "append") _) _ _ _) _ _ _ _); refine AM.W.append ?_ (by rfl) (fun _ _ h1 h2 => L2.pe_bm PySem.F.plainAttrs_list PySem.F.slot_list_append PySem.F.type_list_append L2.mt_append h1 h2))
  | ((with_reducible show AM.CE _ (Expr.Call (Expr.Attribute _ (Str.ofString "extend") _) _ _ _) _ _ _ _); refine AM.W.extend ?_ (by rfl) (fun _ _ h1 h2 => L2.pe_bm PySem.F.plainAttrs_list PySem.F.slot_list_extend PySem.F.type_list_extend L2.mt_extend h1 h2))
  | ((with_reducible show AM.CE _ (Expr.Call (Expr.Attribute _ (Str.ofString "pop") _) [] _ _) _ _ _ _); refine AM.W.pop ?_ (fun _ h1 => L2.pe_bm0 PySem.F.plainAttrs_list PySem.F.slot_list_pop PySem.F.type_list_pop L2.mt_pop h1))
  | ((with_reducible show AM.CE _ (Expr.Call (Expr.Attribute _ (Str.ofString "pop") _) _ _ _) _ _ _ _); refine AM.W.popAt ?_ (by rfl) (fun _ _ h1 h2 => L2.pe_bm PySem.F.plainAttrs_list PySem.F.slot_list_pop PySem.F.type_list_pop L2.mt_popAt h1 h2))
  | ((with_reducible show AM.CE _ (Expr.Call (Expr.Attribute _ (Str.ofString "join") _) _ _ _) _ _ _ _); refine AM.W.join ?_)
  | ((with_reducible show AM.CE _ (Expr.Call (Expr.Attribute _ (Str.ofString "split") _) _ _ _) _ _ _ _); refine AM.W.split ?_))
local macro_rules | `(tactic| wtm_at "e") => `(tactic| first
  | ((with_reducible show AM.CE _ (Expr.Name _ _) _ _ _ _); wtm_at "nm")
  | ((with_reducible show AM.CE _ (Expr.Constant _ _ _) _ _ _ _); first | refine AM.CE.int ?_ | refine AM.CE.str ?_ | refine AM.CE.bl ?_ | refine AM.CE.non ?_)
  | ((with_reducible show AM.CE _ (Expr.BinOp _ _ _ _) _ _ _ _); wtm_at "bin")
  | ((with_reducible show AM.CE _ (Expr.Compare _ _ _ _) _ _ _ _); wtm_at "cmp")
  | ((with_reducible show AM.CE _ (Expr.Call (Expr.Name _ _) _ _ _) _ _ _ _); wtm_at "fn")
  | ((with_reducible show AM.CE _ (Expr.Call (Expr.Attribute _ _ _) _ _ _) _ _ _ _); first | wtm_at "mt0" | wtm_at "mt")
  | ((with_reducible show AM.CE _ (Expr.Attribute _ _ _) _ _ _ _); first | wtm_at "pr" | refine AM.W.fld ?_)
  | ((with_reducible show AM.CE _ (Expr.Subscript _ (Expr.Slice _ _ none _) _) _ _ _ _); refine AM.W.sl ?_)
  | ((with_reducible show AM.CE _ (Expr.Subscript _ _ _) _ _ _ _); refine AM.W.ix ?_)
  | ((with_reducible show AM.CE _ (Expr.Tuple _ _ _) _ _ _ _); refine AM.W.tup ?_)
  | ((with_reducible show AM.CE _ (Expr.List _ _) _ _ _ _); first | wtm_at "nl" | refine AM.CE.lst ?_)
  | ((with_reducible show AM.CE _ (Expr.BoolOp _ [_] _) _ _ _ _); refine AM.CE.one ?_)
  | ((with_reducible show AM.CE _ (Expr.BoolOp BoolOp.And _ _) _ _ _ _); refine AM.W.and ?_)
  | ((with_reducible show AM.CE _ (Expr.BoolOp BoolOp.Or _ _) _ _ _ _); refine AM.W.or ?_)
  | ((with_reducible show AM.CE _ (Expr.UnaryOp UnaryOp.Not _ _) _ _ _ _); refine AM.W.not ?_)
  | ((with_reducible show AM.CE _ (Expr.UnaryOp UnaryOp.USub _ _) _ _ _ _); refine AM.W.neg ?_)
  | ((with_reducible show AM.CE _ (Expr.IfExp _ _ _ _) _ _ _ _); refine AM.CE.ifE ?_)
  | ((with_reducible show AM.CE _ (Expr.ListComp _ _ _ _) _ _ _ _); wtm_at "lc"))
local macro_rules | `(tactic| wtm_at "t") => `(tactic| first
  | wtm_at "eot"
  | ((with_reducible show AM.CT _ (Expr.Compare _ [CmpOp.Eq] _ _) _ _ _ _); refine AM.T.eq hr ?_)
  | ((with_reducible show AM.CT _ (Expr.Compare _ [CmpOp.NotEq] _ _) _ _ _ _); refine AM.T.ne hr ?_)
  | ((with_reducible show AM.CT _ (Expr.Compare _ [CmpOp.Lt] _ _) _ _ _ _); refine AM.T.lt ?_)
  | ((with_reducible show AM.CT _ (Expr.Compare _ [CmpOp.LtE] _ _) _ _ _ _); refine AM.T.le ?_)
  | ((with_reducible show AM.CT _ (Expr.Compare _ [CmpOp.Gt] _ _) _ _ _ _); refine AM.T.gt ?_)
  | ((with_reducible show AM.CT _ (Expr.Compare _ [CmpOp.GtE] _ _) _ _ _ _); refine AM.T.ge ?_)
  | ((with_reducible show AM.CT _ (Expr.Compare _ [CmpOp.In] _ _) _ _ _ _); refine AM.T.inq ?_)
  | ((with_reducible show AM.CT _ (Expr.Compare _ [CmpOp.NotIn] _ _) _ _ _ _); refine AM.T.notin ?_)
  | ((with_reducible show AM.CT _ (Expr.Compare _ [CmpOp.Is] [Expr.Constant Const.none _ _] _) _ _ _ _); refine AM.CT.isN ?_)
  | ((with_reducible show AM.CT _ (Expr.Compare _ [CmpOp.IsNot] [Expr.Constant Const.none _ _] _) _ _ _ _); refine AM.CT.notN ?_)
  | ((with_reducible show AM.CT _ (Expr.Compare _ [CmpOp.LtE, CmpOp.LtE] _ _) _ _ _ _); refine AM.T.lele ?_ (fun _ _ _ h1 h2 h3 => L2.pt_chain L2.op_le L2.op_le h1 h2 h3))
  | ((with_reducible show AM.CT _ (Expr.Compare _ [CmpOp.LtE, CmpOp.Lt] _ _) _ _ _ _); refine AM.T.lelt ?_ (fun _ _ _ h1 h2 h3 => L2.pt_chain L2.op_le L2.op_lt h1 h2 h3))
  | ((with_reducible show AM.CT _ (Expr.BoolOp _ _ _) _ _ _ _); refine AM.CT.w ?_)
  | ((with_reducible show AM.CT _ (Expr.UnaryOp UnaryOp.Not _ _) _ _ _ _); refine AM.CT.not ?_)
  | ((with_reducible show AM.CT _ (Expr.BinOp _ _ _ _) _ _ _ _); refine AM.T.int ?_)
  | refine AM.T.val ?_)
local macro_rules | `(tactic| wtm_at "w") => `(tactic| first
  | ((with_reducible show AM.CW _ (Expr.BoolOp BoolOp.And [_] _) _ _ _ _); refine AM.CW.and1 ?_)
  | ((with_reducible show AM.CW _ (Expr.BoolOp BoolOp.Or [_] _) _ _ _ _); refine AM.CW.or1 ?_)
  | ((with_reducible show AM.CW _ (Expr.BoolOp BoolOp.And _ _) _ _ _ _); refine AM.CW.and ?_)
  | ((with_reducible show AM.CW _ (Expr.BoolOp BoolOp.Or _ _) _ _ _ _); refine AM.CW.or ?_))
local macro_rules | `(tactic| wtm_at "ti") => `(tactic| fail)
local macro_rules | `(tactic| wtm_at "i") => `(tactic| first
  | wtm_at "ti"
  | ((with_reducible show AM.CI _ _ (Expr.Call (Expr.Name (Str.ofString "range") _) [_] _ _) _ _ _ _); refine AM.I.range1 (by wtm_at "nb") ?_)
  | ((with_reducible show AM.CI _ _ (Expr.Call (Expr.Name (Str.ofString "range") _) [_, _] _ _) _ _ _ _); refine AM.I.range2 (by wtm_at "nb") ?_)
  | ((with_reducible show AM.CI _ _ (Expr.Call (Expr.Name (Str.ofString "range") _) [_, _, _] _ _) _ _ _ _); refine AM.CI.range3 (by wtm_at "nb") ?_)
  | ((with_reducible show AM.CI _ _ (Expr.Call (Expr.Name (Str.ofString "enumerate") _) [_] _ _) _ _ _ _); refine AM.I.enum (by wtm_at "nb") ?_)
  | refine AM.I.list ?_)
local macro_rules | `(tactic| wtm_at "st") => `(tactic| first
  | ((with_reducible show AM.CS _ (Stmt.Assign [Expr.Name _ _] (Expr.ListComp _ _ _ _) _) _ _ _); wtm_at "slc")
  | ((with_reducible show AM.CS _ (Stmt.Assign [Expr.Name _ _] _ _) _ _ _); wtm_at "as")
  | ((with_reducible show AM.CS _ (Stmt.Assign [Expr.Tuple _ _ _] _ _) _ _ _); wtm_at "at")
  | ((with_reducible show AM.CS _ (Stmt.Assign [Expr.Attribute _ _ _] _ _) _ _ _); refine AM.S.fld ?_)
  | ((with_reducible show AM.CS _ (Stmt.Assign [Expr.Subscript _ _ _] _ _) _ _ _); refine AM.S.setIx ?_)
  | ((with_reducible show AM.CS _ (Stmt.AugAssign (Expr.Attribute _ _ _) Operator.Add _ _) _ _ _); refine AM.S.fldAdd ?_)
  | ((with_reducible show AM.CS _ (Stmt.Return _ _) _ _ _); first | wtm_at "rz" | refine AM.CS.ret ?_ | refine AM.CS.retN ?_)
  | ((with_reducible show AM.CS _ (Stmt.If _ _ _ _) _ _ _); refine AM.CS.ite ?_)
  | ((with_reducible show AM.CS _ (Stmt.Expr _ _) _ _ _); refine AM.CS.expr ?_)
  | ((with_reducible show AM.CS _ (Stmt.Raise _ _ _) _ _ _); wtm_at "ra")
  | ((with_reducible show AM.CS _ (Stmt.Pass _) _ _ _); refine AM.CS.pass ?_)
  | ((with_reducible show AM.CS _ (Stmt.Try _ _ _ _ _) _ _ _); wtm_at "tr")
  | ((with_reducible show AM.CS _ (Stmt.For _ _ _ _ _) _ _ _); wtm_at "fo"))
local macro_rules | `(tactic| wtm_at "s") => `(tactic| first
  | ((with_reducible show AM.CE _ _ _ _ _ _); wtm_at "e")
  | ((with_reducible show AM.CA _ _ _ _ _ _); first | refine AM.CA.nil ?_ | refine AM.A.star ?_ | refine AM.CA.cons ?_)
  | ((with_reducible show AM.CT _ _ _ _ _ _); wtm_at "t")
  | ((with_reducible show AM.CSs _ _ _ _ _); first | refine AM.CSs.nil ?_ | refine AM.CSs.one ?_ | refine AM.CSs.cons ?_)
  | ((with_reducible show AM.CS _ _ _ _ _); wtm_at "st")
  | ((with_reducible show AM.CW _ _ _ _ _ _); wtm_at "w")
  | ((with_reducible show (if _ then _ else _)); wtm_at "if")
  | ((with_reducible show AM.CO _ _ _ _ _ _); first | refine AM.CO.none ?_ | refine AM.O.some ?_)
  | ((with_reducible show AM.CI _ _ _ _ _ _ _); wtm_at "i")
  | wtm_at "ans"
  | wtm_at "ca"
  | ((with_reducible show (∃ _ _ _, D.loc _ = D.loc _ ∧ _)); refine ⟨_, _, _, rfl, by wtm_at "mu", ?_⟩)
  | ((with_reducible show (∃ _, AM.tgP _ _ _ _ = some _ ∧ _)); refine ⟨_, rfl, ?_⟩)
  | ((with_reducible show (∃ _ _, [_, _] = [_, _] ∧ _)); refine ⟨_, _, rfl, ?_⟩)
  | ((with_reducible show (AM.FldC _ _ _) ∧ _); refine ⟨by wtm_at "fc", ?_⟩)
  | ((with_reducible show _ ∧ _); refine ⟨by wtm_at "ar", ?_⟩))
local macro_rules | `(tactic| wtm_at "sp") => `(tactic| first | (refine AM.ifD (fun hc => ?_) (fun hc => ?_)) | (refine AM.ifN ?_) | (refine AM.ifB (fun hc => ?_) (fun hc => ?_)))
local macro_rules | `(tactic| wtm_at "go") => `(tactic| repeat (wtm_at "s"))
local macro_rules | `(tactic| wtm_at "all") => `(tactic| repeat' (first | wtm_at "s" | wtm_at "sp"))

section
theorem sub_ok : ∀ {p q : Pat}, p.ok → q ∈ p.subs → q.ok
  | .all, q, _, h => by rw [List.mem_singleton.mp h]; trivial
  | .none, q, _, h => by rw [List.mem_singleton.mp h]; trivial
  | .lamp k, q, o, h => by rw [List.mem_singleton.mp h]; exact o
  | .dot k u, q, o, h => by rw [List.mem_singleton.mp h]; exact o
  | .comb e r, q, o, h => by rw [List.mem_singleton.mp h]; exact o
  | .beat e r, q, o, h => by rw [List.mem_singleton.mp h]; exact o
  | .not p, q, o, h => by
    rcases List.mem_cons.mp h with h | h
    · rw [h]; exact o
    · exact sub_ok (p := p) o h
  | .bin b p p2, q, o, h => by
    rcases List.mem_cons.mp h with h | h
    · rw [h]; exact o
    · rcases List.mem_append.mp h with h | h
      · exact sub_ok (p := p) o.1 h
      · exact sub_ok (p := p2) o.2 h
theorem comL_take {ps : List Pat} {i : Nat} {q : Pat} (h : ps[i]? = some q) : comL (ps.take (i + 1)) = cmn ((ps.take i).any (isE 2) || isE 2 q) ((ps.take i).any (isE 3) || isE 3 q) := by
  unfold comL
  rw [List.take_succ, h]
  simp [List.any_append]
section
variable {P : Program} {w : World} {K : PySem.W.Frag} {mg : Str → Option Value} {base : Heap} (M : Mod K mg)
include M
def S_divisor : SpD := fun ds m Q _ => ∃ a b : Nat, ds = [.int a, .int b] ∧ Q (.int (Nat.gcd a b : Nat)) m
section
local macro_rules | `(tactic| wtm_at "nm") => `(tactic| first
  | ((with_reducible show AM.CE _ (Expr.Name (Str.ofString "one") _) _ _ _ _); refine AM.W.nm (i := 0) rfl rfl (by wtm_at "vis") ?_)
  | ((with_reducible show AM.CE _ (Expr.Name (Str.ofString "other") _) _ _ _ _); refine AM.W.nm (i := 1) rfl rfl (by wtm_at "vis") ?_))
local macro_rules | `(tactic| wtm_at "at") => `(tactic| first
  | ((with_reducible show AM.CS _ (Stmt.Assign [Expr.Tuple [Expr.Name (Str.ofString "one") _, Expr.Name (Str.ofString "other") _] _ _] (Expr.Tuple _ _ _) _) _ _ _); refine AM.CS.par (i := 0) (j := 1) rfl sc_divisor.nd rfl rfl (by decide) rfl rfl ?_ (by rfl)))
local macro_rules | `(tactic| wtm_at "fc") => `(tactic| first
  | exact M.f_Lights_own_shape
  | exact M.f_Lights_own_pattern
  | exact M.f_Moment_way_round
  | exact M.f_Moment_is_chain
  | exact M.f_Moment_many
  | exact M.f_Moment_now
  | exact M.f_Plainly_own_shape
  | exact M.f_Plainly_own_pattern)
theorem b_divisor : FnG P w K mg base "divisor" 1 S_divisor :=
  gD M.D_divisor sc_divisor (fun ds m Q E ⟨_, _, h, _⟩ => by rw [h]; rfl) fun f cdv A outer s0 H E hr ds m Q Ex ⟨a, b, h, q⟩ => by
    subst h
    wtm_at "go"
    refine CS.while (fun z Δ' m' => ∃ x y : Nat, z = y ∧ Nat.gcd x y = Nat.gcd a b ∧ Δ' = [some (.int x), some (.int y)] ∧ m' = m) b ⟨a, b, rfl, rfl, rfl, rfl⟩ (fun z Δ' m' ⟨x, y, hz, hg, hx, hm⟩ => ?_)
    subst hx; subst hm
    wtm_at "go"
    refine ifD (fun hc => ?_) (fun hc => ?_)
    · wtm_at "go"
      have e : (x : Int) % (y : Int) = ((x % y : Nat) : Int) := (Int.natCast_emod x y).symm
      refine ⟨x % y, by rw [hz]; exact Nat.mod_lt _ (by omega), y, x % y, rfl, ?_, by rw [e]; rfl, rfl⟩
      rw [← hg, Nat.gcd_comm y, ← Nat.gcd_rec, Nat.gcd_comm]
    · wtm_at "go"
      have e : y = 0 := by omega
      subst e
      rw [Nat.gcd_zero_right] at hg
      rw [← hg] at q
      exact q
end
def S_multiple : SpD := fun ds m Q _ => ∃ a b : Nat, ds = [.int a, .int b] ∧ 1 ≤ a ∧ 1 ≤ b ∧ a ≤ 1000000 ∧ b ≤ 1000000 ∧ Q (.int (Nat.lcm a b : Nat)) m
section
local macro_rules | `(tactic| wtm_at "nm") => `(tactic| first
  | ((with_reducible show AM.CE _ (Expr.Name (Str.ofString "one") _) _ _ _ _); refine AM.W.nm (i := 0) rfl rfl (by wtm_at "vis") ?_)
  | ((with_reducible show AM.CE _ (Expr.Name (Str.ofString "other") _) _ _ _ _); refine AM.W.nm (i := 1) rfl rfl (by wtm_at "vis") ?_))
local macro_rules | `(tactic| wtm_at "fn") => `(tactic| first
  | ((with_reducible show AM.CE _ (Expr.Call (Expr.Name (Str.ofString "divisor") _) _ _ _) _ _ _ _); refine AM.W.call f_divisor hr (by first | decide | omega) ?_))
local macro_rules | `(tactic| wtm_at "ca") => `(tactic| first
  | ((with_reducible first | show AM.S_divisor _ _ _ _ | show AM.S_divisor _ _ _ _ _ | show AM.S_divisor _ _ _ _ _ _); first | refine AM.S_divisor.mk ?_ | refine AM.S_divisor.mk M ?_))
local macro_rules | `(tactic| wtm_at "fc") => `(tactic| first
  | exact M.f_Lights_own_shape
  | exact M.f_Lights_own_pattern
  | exact M.f_Moment_way_round
  | exact M.f_Moment_is_chain
  | exact M.f_Moment_many
  | exact M.f_Moment_now
  | exact M.f_Plainly_own_shape
  | exact M.f_Plainly_own_pattern)
theorem b_multiple : FnG P w K mg base "multiple" 2 S_multiple :=
  gD M.D_multiple sc_multiple (fun ds m Q E ⟨_, _, h, _⟩ => by rw [h]; rfl) fun f cdv A outer s0 H E hr ds m Q Ex ⟨a, b, h, h1, h2, h3, h4, q⟩ => by
    subst h
    have f_divisor := b_divisor (P := P) (w := w) (base := base) M
    have g1 := Nat.gcd_le_right a (n := b) (by omega)
    have g2 : 0 < Nat.gcd a b := Nat.gcd_pos_of_pos_left b (by omega)
    wtm_at "go"
    refine ⟨a, b, rfl, ?_⟩
    have e : (a : Int) / (Nat.gcd a b : Nat) = ((a / Nat.gcd a b : Nat) : Int) := by push_cast; rfl
    wtm_at "go"
    refine toQi q ?_
    have e2 : a / Nat.gcd a b * b = Nat.lcm a b := by
      rw [Nat.div_mul_right_comm (Nat.gcd_dvd_left a b)]; rfl
    rw [← e2]; push_cast; rfl
end
def S_common : SpD := fun ds m Q _ => ∃ L rg p, ds = [L] ∧ LtD (K := K) L rg p ∧ p.dep < 10 ∧ p.cnt ≤ 1000 ∧ p.ok ∧ Q (.int (com p : Nat)) m
section
local macro_rules | `(tactic| wtm_at "nm") => `(tactic| first
  | ((with_reducible show AM.CE _ (Expr.Name (Str.ofString "lights") _) _ _ _ _); refine AM.W.nm (i := 0) rfl rfl (by wtm_at "vis") ?_)
  | ((with_reducible show AM.CE _ (Expr.Name (Str.ofString "found") _) _ _ _ _); refine AM.W.nm (i := 1) rfl rfl (by wtm_at "vis") ?_)
  | ((with_reducible show AM.CE _ (Expr.Name (Str.ofString "pattern") _) _ _ _ _); refine AM.W.nm (i := 2) rfl rfl (by wtm_at "vis") ?_)
  | ((with_reducible show AM.CE _ (Expr.Name (Str.ofString "CHECKERED") _) _ _ _ _); refine AM.W.gc M.c_CHECKERED ?_ rfl))
local macro_rules | `(tactic| wtm_at "fn") => `(tactic| first
  | ((with_reducible show AM.CE _ (Expr.Call (Expr.Name (Str.ofString "all_patterns") _) _ _ _) _ _ _ _); refine AM.W.call f_all_patterns hr (by first | decide | omega) ?_)
  | ((with_reducible show AM.CE _ (Expr.Call (Expr.Name (Str.ofString "multiple") _) _ _ _) _ _ _ _); refine AM.W.call f_multiple hr (by first | decide | omega) ?_))
local macro_rules | `(tactic| wtm_at "ca") => `(tactic| first
  | ((with_reducible first | show AM.S_all_patterns _ _ _ _ | show AM.S_all_patterns _ _ _ _ _ | show AM.S_all_patterns _ _ _ _ _ _); first | refine AM.S_all_patterns.mk ?_ | refine AM.S_all_patterns.mk M ?_)
  | ((with_reducible first | show AM.S_multiple _ _ _ _ | show AM.S_multiple _ _ _ _ _ | show AM.S_multiple _ _ _ _ _ _); first | refine AM.S_multiple.mk ?_ | refine AM.S_multiple.mk M ?_))
local macro_rules | `(tactic| wtm_at "as") => `(tactic| first
  | ((with_reducible show AM.CS _ (Stmt.Assign [Expr.Name (Str.ofString "found") _] _ _) _ _ _); refine AM.CS.set (i := 1) rfl (by wtm_at "loc") ?_ sc_common.nd (.inl rfl)))
local macro_rules | `(tactic| wtm_at "fo") => `(tactic| first
  | ((with_reducible show AM.CS _ (Stmt.For (Expr.Name (Str.ofString "pattern") _) _ _ _ _) _ _ _); refine AM.S.for rfl (AM.CG.name (i := 2) rfl (by wtm_at "loc") sc_common.nd (.inl rfl)) ?_))
local macro_rules | `(tactic| wtm_at "fc") => `(tactic| first
  | exact M.f_Lights_own_shape
  | exact M.f_Lights_own_pattern
  | exact M.f_Moment_way_round
  | exact M.f_Moment_is_chain
  | exact M.f_Moment_many
  | exact M.f_Moment_now
  | exact M.f_Plainly_own_shape
  | exact M.f_Plainly_own_pattern)
theorem b_common : FnG P w K mg base "common" 13 (S_common (K := K)) :=
  gD M.D_common sc_common (fun ds m Q E ⟨_, _, _, h, _⟩ => by rw [h]; rfl) fun f cdv A outer s0 H E hr ds m Q Ex ⟨L, rg, p, h, ⟨C, hC, g1, g2⟩, hd, hcn, ho, q⟩ => by
    subst h; subst hC
    have f_all_patterns := b_all_patterns (P := P) (w := w) (base := base) M 10
    have f_multiple := b_multiple (P := P) (w := w) (base := base) M
    wtm_at "go"
    refine ForD.inv (fun i Δ' m' => ∃ x y, Δ' = [x, some (.int (comL (p.subs.take i) : Nat)), y] ∧ m' = m) ⟨_, _, rfl, rfl⟩ (fun i d Δ' m' hd2 ⟨x, y, hx, hm⟩ => ?_) (fun Δ' m' ⟨x, y, hx, hm⟩ => ?_)
    · obtain ⟨s, hs, rfl⟩ := map_get hd2
      subst hx; subst hm
      have hmem := List.mem_of_getElem? hs
      have hso := sub_ok ho hmem
      have ht := comL_take hs
      have hp1 := (cmn_pos (a := (p.subs.take i).any (isE 2)) (b := (p.subs.take i).any (isE 3)))
      have hp2 : comL (p.subs.take i) = cmn ((p.subs.take i).any (isE 2)) ((p.subs.take i).any (isE 3)) := rfl
      refine ⟨_, rfl, ?_⟩
      have stay : isE 2 s = false → isE 3 s = false → comL (p.subs.take (i + 1)) = comL (p.subs.take i) := fun a b => by rw [ht, a, b, Bool.or_false, Bool.or_false]; rfl
      have mul2 : isE 2 s = true → isE 3 s = false → comL (p.subs.take (i + 1)) = Nat.lcm (comL (p.subs.take i)) 2 := fun a b => by rw [ht, a, b, Bool.or_false, Bool.or_true, hp2, lcm_cmn2]
      have mul3 : isE 2 s = false → isE 3 s = true → comL (p.subs.take (i + 1)) = Nat.lcm (comL (p.subs.take i)) 3 := fun a b => by rw [ht, a, b, Bool.or_false, Bool.or_true, hp2, lcm_cmn3]
      cases s
      case comb e r =>
        obtain ⟨he, _⟩ := hso
        rcases he with rfl | rfl
        · wtm_at "go"
          refine ⟨comL (p.subs.take i), 2, rfl, by omega, by omega, by omega, by omega, ?_⟩
          exact ⟨_, _, by rw [mul2 rfl rfl]; rfl, rfl⟩
        · wtm_at "go"
          refine ⟨comL (p.subs.take i), 3, rfl, by omega, by omega, by omega, by omega, ?_⟩
          exact ⟨_, _, by rw [mul3 rfl rfl]; rfl, rfl⟩
      case beat e r =>
        obtain ⟨he, _⟩ := hso
        rcases he with rfl | rfl
        · wtm_at "go"
          refine ⟨comL (p.subs.take i), 2, rfl, by omega, by omega, by omega, by omega, ?_⟩
          exact ⟨_, _, by rw [mul2 rfl rfl]; rfl, rfl⟩
        · wtm_at "go"
          refine ⟨comL (p.subs.take i), 3, rfl, by omega, by omega, by omega, by omega, ?_⟩
          exact ⟨_, _, by rw [mul3 rfl rfl]; rfl, rfl⟩
      case bin o a b =>
        cases o
        all_goals (wtm_at "go"; exact ⟨_, _, by rw [stay rfl rfl]; rfl, rfl⟩)
      all_goals (wtm_at "go"; exact ⟨_, _, by rw [stay rfl rfl]; rfl, rfl⟩)
    · subst hx; subst hm
      wtm_at "go"
      refine toQi q ?_
      rw [List.length_map, List.take_length]; rfl
end
end
end
section
theorem film_of {f : Nat → Nat} {T : Nat} {ds : List D} (hl : ds.length = T) (h : ∀ i, i < T → ds[i]? = some (.int ((f i : Nat) : Int))) : ds = natD (film f T) := by
  apply List.ext_getElem?
  intro i
  by_cases hi : i < T
  · rw [h i hi]; unfold natD; rw [List.getElem?_map, film_get hi]; rfl
  · rw [List.getElem?_eq_none (by omega), List.getElem?_eq_none (by rw [natD_len, film_len]; omega)]
theorem film_rng {f : Nat → Nat} {T : Nat} {g : D → D} (h : ∀ i : Nat, i < T → g (.int i) = .int ((f i : Nat) : Int)) : (rngD 0 1 T).map g = natD (film f T) := by
  refine film_of (by rw [List.length_map, rngD_len]) fun i hi => ?_
  rw [List.getElem?_map, rngD_get hi, Option.map_some, ← h i hi]
  congr 2; congr 1; omega
theorem rngI {n : Nat} : ∀ d ∈ rngD 0 1 n, ∃ i : Nat, i < n ∧ d = .int (i : Int) := fun d h => by
  obtain ⟨i, h1, h2⟩ := List.mem_map.mp h
  exact ⟨i, List.mem_range.mp h1, by rw [← h2]; congr 1; omega⟩
theorem pic_not {rg : Bool} {n t : Nat} {p : Pat} : (((2 ^ n - 1 : Nat) : Int) - (pic rg n t p : Nat)) = (pic rg n t (.not p) : Nat) := by
  have e : ∀ (f : Nat → Bool) (n : Nat), mk (fun i => !f i) n + mk f n + 1 = 2 ^ n := fun f n => by
    induction n with
    | zero => rfl
    | succ n ih =>
      show 2 ^ n * (if (!f n) = true then 1 else 0) + mk (fun i => !f i) n + (2 ^ n * (if f n = true then 1 else 0) + mk f n) + 1 = 2 ^ (n + 1)
      rw [Nat.pow_succ]
      cases f n <;> simp <;> omega
  have := e (onP rg n t p) n
  have e2 : pic rg n t (.not p) = mk (fun i => !onP rg n t p i) n := rfl
  have e3 : pic rg n t p = mk (onP rg n t p) n := rfl
  rw [e2, e3]; omega
end
section
theorem rng1I {n : Nat} : ∀ d ∈ rngD 1 1 n, ∃ i : Nat, 1 ≤ i ∧ i ≤ n ∧ d = .int (i : Int) := fun d h => by
  obtain ⟨i, h1, h2⟩ := List.mem_map.mp h
  have := List.mem_range.mp h1
  exact ⟨i + 1, by omega, by omega, by rw [← h2]; congr 1; push_cast; omega⟩
section
variable {P : Program} {w : World} {K : PySem.W.Frag} {mg : Str → Option Value} {base : Heap} (M : Mod K mg)
include M
def S_comes_round : SpD := fun ds m Q E => ∃ L rg p nv, ds = [L, nv] ∧ LtD (K := K) L rg p ∧ p.dep < 10 ∧ p.cnt ≤ 1000 ∧ p.ok ∧ Pl nv ∧
  (if isN nv 1 = true then ∃ n : Nat, nv = .int n ∧ n ≤ 40 ∧ ∀ T : Nat, LeastPer (fun t => pic rg n t p) T → Q (.int T) m else E M.A_BadLength none m)
section
local macro_rules | `(tactic| wtm_at "nm") => `(tactic| first
  | ((with_reducible show AM.CE _ (Expr.Name (Str.ofString "lights") _) _ _ _ _); refine AM.W.nm (i := 0) rfl rfl (by wtm_at "vis") ?_)
  | ((with_reducible show AM.CE _ (Expr.Name (Str.ofString "n") _) _ _ _ _); refine AM.W.nm (i := 1) rfl rfl (by wtm_at "vis") ?_)
  | ((with_reducible show AM.CE _ (Expr.Name (Str.ofString "total") _) _ _ _ _); refine AM.W.nm (i := 2) rfl rfl (by wtm_at "vis") ?_)
  | ((with_reducible show AM.CE _ (Expr.Name (Str.ofString "masks") _) _ _ _ _); refine AM.W.nm (i := 3) rfl rfl (by wtm_at "vis") ?_)
  | ((with_reducible show AM.CE _ (Expr.Name (Str.ofString "some") _) _ _ _ _); refine AM.W.nm (i := 4) rfl rfl (by wtm_at "vis") ?_)
  | ((with_reducible show AM.CE _ (Expr.Name (Str.ofString "t") _) _ _ _ _); refine AM.W.nm (i := 5) rfl rfl (by wtm_at "vis") ?_)
  | ((with_reducible show AM.CE _ (Expr.Name (Str.ofString "times") _) _ _ _ _); refine AM.W.nm (i := 6) rfl rfl (by wtm_at "vis") ?_))
local macro_rules | `(tactic| wtm_at "fn") => `(tactic| first
  | ((with_reducible show AM.CE _ (Expr.Call (Expr.Name (Str.ofString "need_moment") _) _ _ _) _ _ _ _); refine AM.W.call f_need_moment hr (by first | decide | omega) ?_)
  | ((with_reducible show AM.CE _ (Expr.Call (Expr.Name (Str.ofString "multiple") _) _ _ _) _ _ _ _); refine AM.W.call f_multiple hr (by first | decide | omega) ?_)
  | ((with_reducible show AM.CE _ (Expr.Call (Expr.Name (Str.ofString "around") _) _ _ _) _ _ _ _); refine AM.W.call f_around hr (by first | decide | omega) ?_)
  | ((with_reducible show AM.CE _ (Expr.Call (Expr.Name (Str.ofString "common") _) _ _ _) _ _ _ _); refine AM.W.call f_common hr (by first | decide | omega) ?_)
  | ((with_reducible show AM.CE _ (Expr.Call (Expr.Name (Str.ofString "picture_of") _) _ _ _) _ _ _ _); refine AM.W.call f_picture_of hr (by first | decide | omega) ?_))
local macro_rules | `(tactic| wtm_at "ca") => `(tactic| first
  | ((with_reducible first | show AM.S_need_moment _ _ _ _ | show AM.S_need_moment _ _ _ _ _ | show AM.S_need_moment _ _ _ _ _ _); first | refine AM.S_need_moment.mk ?_ | refine AM.S_need_moment.mk M ?_)
  | ((with_reducible first | show AM.S_multiple _ _ _ _ | show AM.S_multiple _ _ _ _ _ | show AM.S_multiple _ _ _ _ _ _); first | refine AM.S_multiple.mk ?_ | refine AM.S_multiple.mk M ?_)
  | ((with_reducible first | show AM.S_around _ _ _ _ | show AM.S_around _ _ _ _ _ | show AM.S_around _ _ _ _ _ _); first | refine AM.S_around.mk ?_ | refine AM.S_around.mk M ?_)
  | ((with_reducible first | show AM.S_common _ _ _ _ | show AM.S_common _ _ _ _ _ | show AM.S_common _ _ _ _ _ _); first | refine AM.S_common.mk ?_ | refine AM.S_common.mk M ?_)
  | ((with_reducible first | show AM.S_picture_of _ _ _ _ | show AM.S_picture_of _ _ _ _ _ | show AM.S_picture_of _ _ _ _ _ _); first | refine AM.S_picture_of.mk ?_ | refine AM.S_picture_of.mk M ?_))
local macro_rules | `(tactic| wtm_at "as") => `(tactic| first
  | ((with_reducible show AM.CS _ (Stmt.Assign [Expr.Name (Str.ofString "total") _] _ _) _ _ _); refine AM.CS.set (i := 2) rfl (by wtm_at "loc") ?_ sc_comes_round.nd (.inl rfl))
  | ((with_reducible show AM.CS _ (Stmt.Assign [Expr.Name (Str.ofString "masks") _] _ _) _ _ _); refine AM.CS.set (i := 3) rfl (by wtm_at "loc") ?_ sc_comes_round.nd (.inl rfl))
  | ((with_reducible show AM.CS _ (Stmt.Assign [Expr.Name (Str.ofString "some") _] _ _) _ _ _); refine AM.CS.set (i := 4) rfl (by wtm_at "loc") ?_ sc_comes_round.nd (.inl rfl)))
local macro_rules | `(tactic| wtm_at "nb") => `(tactic| first
  | exact M.NB_range)
local macro_rules | `(tactic| wtm_at "lc") => `(tactic| first
  | ((with_reducible show AM.CE _ (Expr.ListComp _ [⟨Expr.Name (Str.ofString "t") _, _, _, 0⟩] _ _) _ _ _ _); refine AM.CE.lc (own := [("t", 5)]) rfl sc_comes_round.nd (L2.blkOk_by (own := [("t", 5)]) (N := ["lights", "n", "total", "masks", "some", "t", "times"]) (sc := defScope s_comes_round) (by decide +kernel)) (AM.CGB.name rfl sc_comes_round.nd (fun _ _ _ _ _ => by wtm_at "loc") (fun _ _ _ _ _ => by first | exact .inr rfl | exact .inl rfl)) ?_)
  | ((with_reducible show AM.CE _ (Expr.ListComp _ [⟨Expr.Name (Str.ofString "times") _, _, _, 0⟩] _ _) _ _ _ _); refine AM.CE.lc (own := [("times", 6)]) rfl sc_comes_round.nd (L2.blkOk_by (own := [("times", 6)]) (N := ["lights", "n", "total", "masks", "some", "t", "times"]) (sc := defScope s_comes_round) (by decide +kernel)) (AM.CGB.name rfl sc_comes_round.nd (fun _ _ _ _ _ => by wtm_at "loc") (fun _ _ _ _ _ => by first | exact .inr rfl | exact .inl rfl)) ?_))
local macro_rules | `(tactic| wtm_at "lcL") => `(tactic| first
  | ((with_reducible show AM.CE _ (Expr.ListComp _ [⟨Expr.Name (Str.ofString "t") _, _, _, 0⟩] _ _) _ _ _ _); refine AM.CE.lcL (own := [("t", 5)]) rfl sc_comes_round.nd (L2.blkOk_by (own := [("t", 5)]) (N := ["lights", "n", "total", "masks", "some", "t", "times"]) (sc := defScope s_comes_round) (by decide +kernel)) (AM.CGB.name rfl sc_comes_round.nd (fun _ _ _ _ _ => by wtm_at "loc") (fun _ _ _ _ _ => by first | exact .inr rfl | exact .inl rfl)) ?_)
  | ((with_reducible show AM.CE _ (Expr.ListComp _ [⟨Expr.Name (Str.ofString "times") _, _, _, 0⟩] _ _) _ _ _ _); refine AM.CE.lcL (own := [("times", 6)]) rfl sc_comes_round.nd (L2.blkOk_by (own := [("times", 6)]) (N := ["lights", "n", "total", "masks", "some", "t", "times"]) (sc := defScope s_comes_round) (by decide +kernel)) (AM.CGB.name rfl sc_comes_round.nd (fun _ _ _ _ _ => by wtm_at "loc") (fun _ _ _ _ _ => by first | exact .inr rfl | exact .inl rfl)) ?_))
local macro_rules | `(tactic| wtm_at "slc") => `(tactic| first
  | ((with_reducible show AM.CS _ (Stmt.Assign [Expr.Name (Str.ofString "masks") _] (Expr.ListComp _ [⟨Expr.Name (Str.ofString "t") _, _, _, 0⟩] _ _) _) _ _ _); refine AM.CS.setLc (own := [("t", 5)]) (i := 3) rfl sc_comes_round.nd rfl rfl (L2.sw_true rfl rfl rfl (by decide +kernel)) (L2.blkOk_by (own := [("t", 5)]) (N := ["lights", "n", "total", "masks", "some", "t", "times"]) (sc := defScope s_comes_round) (by decide +kernel)) (AM.CGB.name rfl sc_comes_round.nd (fun _ _ _ _ _ => by wtm_at "loc") (fun _ _ _ _ _ => by first | exact .inr rfl | exact .inl rfl)) ?_)
  | ((with_reducible show AM.CS _ (Stmt.Assign [Expr.Name (Str.ofString "some") _] (Expr.ListComp _ [⟨Expr.Name (Str.ofString "t") _, _, _, 0⟩] _ _) _) _ _ _); refine AM.CS.setLc (own := [("t", 5)]) (i := 4) rfl sc_comes_round.nd rfl rfl (L2.sw_true rfl rfl rfl (by decide +kernel)) (L2.blkOk_by (own := [("t", 5)]) (N := ["lights", "n", "total", "masks", "some", "t", "times"]) (sc := defScope s_comes_round) (by decide +kernel)) (AM.CGB.name rfl sc_comes_round.nd (fun _ _ _ _ _ => by wtm_at "loc") (fun _ _ _ _ _ => by first | exact .inr rfl | exact .inl rfl)) ?_)
  | ((with_reducible show AM.CS _ (Stmt.Assign [Expr.Name (Str.ofString "masks") _] (Expr.ListComp _ [⟨Expr.Name (Str.ofString "times") _, _, _, 0⟩] _ _) _) _ _ _); refine AM.CS.setLc (own := [("times", 6)]) (i := 3) rfl sc_comes_round.nd rfl rfl (L2.sw_true rfl rfl rfl (by decide +kernel)) (L2.blkOk_by (own := [("times", 6)]) (N := ["lights", "n", "total", "masks", "some", "t", "times"]) (sc := defScope s_comes_round) (by decide +kernel)) (AM.CGB.name rfl sc_comes_round.nd (fun _ _ _ _ _ => by wtm_at "loc") (fun _ _ _ _ _ => by first | exact .inr rfl | exact .inl rfl)) ?_)
  | ((with_reducible show AM.CS _ (Stmt.Assign [Expr.Name (Str.ofString "some") _] (Expr.ListComp _ [⟨Expr.Name (Str.ofString "times") _, _, _, 0⟩] _ _) _) _ _ _); refine AM.CS.setLc (own := [("times", 6)]) (i := 4) rfl sc_comes_round.nd rfl rfl (L2.sw_true rfl rfl rfl (by decide +kernel)) (L2.blkOk_by (own := [("times", 6)]) (N := ["lights", "n", "total", "masks", "some", "t", "times"]) (sc := defScope s_comes_round) (by decide +kernel)) (AM.CGB.name rfl sc_comes_round.nd (fun _ _ _ _ _ => by wtm_at "loc") (fun _ _ _ _ _ => by first | exact .inr rfl | exact .inl rfl)) ?_))
local macro_rules | `(tactic| wtm_at "fc") => `(tactic| first
  | exact M.f_Lights_own_shape
  | exact M.f_Lights_own_pattern
  | exact M.f_Moment_way_round
  | exact M.f_Moment_is_chain
  | exact M.f_Moment_many
  | exact M.f_Moment_now
  | exact M.f_Plainly_own_shape
  | exact M.f_Plainly_own_pattern)
theorem b_comes_round : FnG P w K mg base "comes_round" 16 (S_comes_round M) :=
  gD M.D_comes_round sc_comes_round (fun ds m Q E ⟨_, _, _, _, h, _⟩ => by rw [h]; rfl) fun f cdv A outer s0 H E hr ds m Q Ex ⟨L, rg, p, nv, h, hL, hd, hcn, ho, hn, q⟩ => by
    subst h
    have f_need_moment := b_need_moment (P := P) (w := w) (base := base) M
    have f_multiple := b_multiple (P := P) (w := w) (base := base) M
    have f_around := b_around (P := P) (w := w) (base := base) M
    have f_common := b_common (P := P) (w := w) (base := base) M
    have f_picture_of := b_picture_of (P := P) (w := w) (base := base) M
    have i0 : isN (.int 0) 0 = true := by decide +kernel
    cases c1 : isN nv 1
    · rw [c1] at q; rw [if_neg (by decide)] at q
      wtm_at "go"
      exact q
    · rw [c1, if_pos rfl] at q
      obtain ⟨n, rfl, hn40, q⟩ := q
      have n1 : 1 ≤ n := by
        have : (1 : Int) ≤ n := of_decide_eq_true c1
        omega
      wtm_at "go"
      refine ⟨L, rg, p, n, rfl, hL, n1, by omega, ?_⟩
      wtm_at "go"
      refine ⟨L, rg, p, rfl, hL, hd, hcn, ho, ?_⟩
      have ea := rndN_eq (rg := rg) n1
      have eb := rndN_le (rg := rg) n1
      have ec := rndN_pos (rg := rg) n1
      have ed : 1 ≤ com p ∧ com p ≤ 6 := cmn_pos
      rw [← ea]
      wtm_at "go"
      refine ⟨rndN rg n, com p, rfl, ec, ed.1, by omega, by omega, ?_⟩
      obtain ⟨N, hN⟩ : ∃ N : Nat, Nat.lcm (rndN rg n) (com p) = N := ⟨_, rfl⟩
      have N1 : 1 ≤ N := by rw [← hN]; exact Nat.lcm_pos ec ed.1
      have N2 : N ≤ 480 := by
        have h1 : N ≤ rndN rg n * com p := by rw [← hN]; exact Nat.le_of_dvd (Nat.mul_pos ec ed.1) (Nat.lcm_dvd_mul _ _)
        have h2 : rndN rg n * com p ≤ 80 * 6 := Nat.mul_le_mul (by omega) ed.2
        omega
      have hper : isPer (fun t => pic rg n t p) N := fun t => pic_per n1 ho (hN ▸ Nat.dvd_lcm_left _ _) (com_dvd (hN ▸ Nat.dvd_lcm_right _ _))
      obtain ⟨T, hT⟩ := leastPer_ex N1 hper
      have q := q T hT
      have hTd := hT.dvd hper
      have hTN := Nat.le_of_dvd N1 hTd
      rw [hN]
      wtm_at "go"
      rw [Int.toNat_natCast]
      refine LcD.map1 (fun d => .int (pic rg n (intOf d).toNat p : Nat)) (by rw [rngD_len]; omega) (fun d acc L2 hd2 hL2 => ⟨_, rfl, fun s2 H2 C cl fp => ?_⟩) ?_
      · obtain ⟨i, hi, rfl⟩ := rngI d hd2
        have e3 : D.int ((pic rg n i p : Nat) : Int) = D.int ((pic rg n (intOf (.int (i : Int))).toNat p : Nat) : Int) := rfl
        wtm_at "go"
        refine ⟨L, rg, p, n, i, rfl, hL, hd, ho, n1, by omega, ?_⟩
        first | exact ⟨e3, rfl⟩ | (wtm_at "go"; first | exact ⟨e3, rfl⟩ | exact rfl)
      rw [film_rng (f := fun t => pic rg n t p) (fun i hi => rfl)]
      wtm_at "go"
      have eN : ((N : Int) + 1 - 1).toNat = N := by omega
      rw [eN]
      have lenr : ∀ g : D → Bool, ((rngD 1 1 N).filter g).length ≤ N := fun g => by
        have := List.length_filter_le g (rngD 1 1 N)
        rw [rngD_len] at this; exact this
      refine LcD.filt (fun d => decide ((N : Int) % intOf d = 0)) id (by rw [rngD_len]; omega) (fun d acc L2 hd2 hL2 => ⟨_, rfl, fun s2 H2 C cl fp => ?_, fun hp s2 H2 C cl fp => ?_⟩) ?_
      · obtain ⟨i, hi1, hi2, rfl⟩ := rng1I d hd2
        have hz : (i : Int) ≠ 0 := by omega
        have e3 : decide ((N : Int) % (i : Int) = 0) = decide ((N : Int) % intOf (.int (i : Int)) = 0) := rfl
        wtm_at "go"
        all_goals first | exact ⟨e3, rfl⟩ | exact rfl
      · obtain ⟨i, hi1, hi2, rfl⟩ := rng1I d hd2
        wtm_at "go"
        all_goals first | exact ⟨rfl, rfl⟩ | exact rfl
      rw [List.map_id]
      wtm_at "go"
      refine LcD.filt (fun d => decide ((film (fun t => pic rg n t p) N).drop (intOf d).toNat ++ (film (fun t => pic rg n t p) N).take (intOf d).toNat = film (fun t => pic rg n t p) N)) id (by have := lenr (fun d => decide ((N : Int) % intOf d = 0)); omega) (fun d acc L2 hd2 hL2 => ⟨_, rfl, fun s2 H2 C cl fp => ?_, fun hp s2 H2 C cl fp => ?_⟩) ?_
      · obtain ⟨i, hi1, hi2, rfl⟩ := rng1I d (List.mem_filter.mp hd2).1
        have hlen : (natD ((film (fun t => pic rg n t p) N).drop i)).length + (natD ((film (fun t => pic rg n t p) N).take i)).length ≤ 1000000 := by
          rw [natD_len, natD_len, List.length_drop, List.length_take, film_len]; omega
        have e3 : decide ((film (fun t => pic rg n t p) N).drop i ++ (film (fun t => pic rg n t p) N).take i = film (fun t => pic rg n t p) N) = decide ((film (fun t => pic rg n t p) N).drop (intOf (.int (i : Int))).toNat ++ (film (fun t => pic rg n t p) N).take (intOf (.int (i : Int))).toNat = film (fun t => pic rg n t p) N) := rfl
        wtm_at "go"
        rw [cutD_from, cutD_to, natD_drop, natD_take]
        refine aPlus.lst (.inl rfl) (.inl rfl) hlen ?_
        rw [natD_app]
        wtm_at "go"
        refine aEq.py natD_isPy natD_isPy natD_dep natD_dep ?_
        rw [natD_eq]
        first | exact ⟨e3, rfl⟩ | (wtm_at "go"; first | exact ⟨e3, rfl⟩ | exact rfl)
      · obtain ⟨i, hi1, hi2, rfl⟩ := rng1I d (List.mem_filter.mp hd2).1
        wtm_at "go"
        all_goals first | exact ⟨rfl, rfl⟩ | exact rfl
      rw [List.map_id, List.filter_filter]
      have hff := first_fit (P := fun k => decide ((film (fun t => pic rg n t p) N).drop k ++ (film (fun t => pic rg n t p) N).take k = film (fun t => pic rg n t p) N) && decide ((N : Int) % ((k : Nat) : Int) = 0)) (N := N) (T := T) hT.1 hTN
        (by
          show (decide _ && decide _) = true
          rw [decide_eq_true ((film_rot hper N1 hTN).mpr hT.2.1), decide_eq_true (Int.emod_eq_zero_of_dvd (Int.natCast_dvd_natCast.mpr hTd))]; rfl)
        (fun k k1 k2 => by
          show (decide _ && decide _) = false
          rw [decide_eq_false (fun z => hT.2.2 k k1 k2 ((film_rot hper N1 (by omega)).mp z))]; rfl)
      have hcg : (rngD 1 1 N).filter (fun a => decide ((film (fun t => pic rg n t p) N).drop (intOf a).toNat ++ (film (fun t => pic rg n t p) N).take (intOf a).toNat = film (fun t => pic rg n t p) N) && decide ((N : Int) % intOf a = 0)) = (rngD 1 1 N).filter fun d => (fun k => decide ((film (fun t => pic rg n t p) N).drop k ++ (film (fun t => pic rg n t p) N).take k = film (fun t => pic rg n t p) N) && decide ((N : Int) % ((k : Nat) : Int) = 0)) (intOf d).toNat := List.filter_congr fun d hd3 => by
        obtain ⟨i, hi1, hi2, rfl⟩ := rng1I d hd3
        rfl
      rw [hcg]
      have at0 := atI_nat hff
      wtm_at "go"
      exact q
end
end
end
section
/-- the moments: n from i + 1 on, k of them, each with its times below T n -/
def rowN (n : Nat) : Nat → Nat → List (Nat × Nat)
  | _, 0 => []
  | t, k + 1 => (n, t) :: rowN n (t + 1) k
def momN (T : Nat → Nat) : Nat → Nat → List (Nat × Nat)
  | _, 0 => []
  | i, k + 1 => rowN (i + 1) 0 (T (i + 1)) ++ momN T (i + 1) k
def nD (x : Nat × Nat) : D := .tup [.int x.1, .int x.2]
def perN (rg : Bool) (b n : Nat) : Nat := Nat.lcm (rndN rg n) b
theorem perN_pos {rg : Bool} {b n : Nat} (hb : 1 ≤ b) (hn : 1 ≤ n) : 1 ≤ perN rg b n := Nat.lcm_pos (rndN_pos hn) hb
theorem perN_le {rg : Bool} {b n : Nat} (hb : 1 ≤ b) (hn : 1 ≤ n) : perN rg b n ≤ rndN rg n * b := Nat.le_of_dvd (Nat.mul_pos (rndN_pos hn) hb) (Nat.lcm_dvd_mul _ _)
theorem rowN_mem {n : Nat} {x : Nat × Nat} : ∀ {k t : Nat}, x ∈ rowN n t k → x.1 = n ∧ t ≤ x.2 ∧ x.2 < t + k
  | 0, _, h => by cases h
  | k + 1, t, h => by
    rcases List.mem_cons.mp h with h | h
    · subst h; exact ⟨rfl, Nat.le_refl _, by show t < _; omega⟩
    · obtain ⟨a, b, c⟩ := rowN_mem h
      exact ⟨a, by omega, by omega⟩
theorem momN_mem {T : Nat → Nat} {x : Nat × Nat} : ∀ {k i : Nat}, x ∈ momN T i k → i < x.1 ∧ x.1 ≤ i + k ∧ x.2 < T x.1
  | 0, _, h => by cases h
  | k + 1, i, h => by
    rcases List.mem_append.mp h with h | h
    · obtain ⟨a, b, c⟩ := rowN_mem h
      rw [a]
      exact ⟨by omega, by omega, by omega⟩
    · obtain ⟨a, b, c⟩ := momN_mem h
      exact ⟨by omega, by omega, c⟩
section
variable {P : Program} {w : World} {K : PySem.W.Frag} {mg : Str → Option Value} {base : Heap} (M : Mod K mg)
include M
/-- the moments that are enough for a least number b of all every -/
def momB (rg : Bool) (b : Nat) : List (Nat × Nat) := momN (perN rg b) 0 (5 * b + 21)
def S_moments : SpG := fun ds items => ∃ L1 L2 rg p rg2 p2, ds = [L1, L2] ∧ LtD (K := K) L1 rg p ∧ LtD (K := K) L2 rg2 p2 ∧ p.dep < 10 ∧ p.cnt ≤ 1000 ∧ p.ok ∧ p2.dep < 10 ∧ p2.cnt ≤ 1000 ∧ p2.ok ∧ items = (momB rg (Nat.lcm (com p) (com p2))).map nD
section
local macro_rules | `(tactic| wtm_at "nm") => `(tactic| first
  | ((with_reducible show AM.CE _ (Expr.Name (Str.ofString "one") _) _ _ _ _); refine AM.W.nm (i := 0) rfl rfl (by wtm_at "vis") ?_)
  | ((with_reducible show AM.CE _ (Expr.Name (Str.ofString "other") _) _ _ _ _); refine AM.W.nm (i := 1) rfl rfl (by wtm_at "vis") ?_)
  | ((with_reducible show AM.CE _ (Expr.Name (Str.ofString "both") _) _ _ _ _); refine AM.W.nm (i := 2) rfl rfl (by wtm_at "vis") ?_)
  | ((with_reducible show AM.CE _ (Expr.Name (Str.ofString "n") _) _ _ _ _); refine AM.W.nm (i := 3) rfl rfl (by wtm_at "vis") ?_)
  | ((with_reducible show AM.CE _ (Expr.Name (Str.ofString "t") _) _ _ _ _); refine AM.W.nm (i := 4) rfl rfl (by wtm_at "vis") ?_)
  | ((with_reducible show AM.CE _ (Expr.Name (Str.ofString "ALWAYS_MORE") _) _ _ _ _); refine AM.W.gc M.c_ALWAYS_MORE ?_ rfl)
  | ((with_reducible show AM.CE _ (Expr.Name (Str.ofString "EACH_MORE") _) _ _ _ _); refine AM.W.gc M.c_EACH_MORE ?_ rfl))
local macro_rules | `(tactic| wtm_at "fn") => `(tactic| first
  | ((with_reducible show AM.CE _ (Expr.Call (Expr.Name (Str.ofString "multiple") _) _ _ _) _ _ _ _); refine AM.W.call f_multiple hr (by first | decide | omega) ?_)
  | ((with_reducible show AM.CE _ (Expr.Call (Expr.Name (Str.ofString "common") _) _ _ _) _ _ _ _); refine AM.W.call f_common hr (by first | decide | omega) ?_)
  | ((with_reducible show AM.CE _ (Expr.Call (Expr.Name (Str.ofString "around") _) _ _ _) _ _ _ _); refine AM.W.call f_around hr (by first | decide | omega) ?_))
local macro_rules | `(tactic| wtm_at "ca") => `(tactic| first
  | ((with_reducible first | show AM.S_multiple _ _ _ _ | show AM.S_multiple _ _ _ _ _ | show AM.S_multiple _ _ _ _ _ _); first | refine AM.S_multiple.mk ?_ | refine AM.S_multiple.mk M ?_)
  | ((with_reducible first | show AM.S_common _ _ _ _ | show AM.S_common _ _ _ _ _ | show AM.S_common _ _ _ _ _ _); first | refine AM.S_common.mk ?_ | refine AM.S_common.mk M ?_)
  | ((with_reducible first | show AM.S_around _ _ _ _ | show AM.S_around _ _ _ _ _ | show AM.S_around _ _ _ _ _ _); first | refine AM.S_around.mk ?_ | refine AM.S_around.mk M ?_))
local macro_rules | `(tactic| wtm_at "as") => `(tactic| first
  | ((with_reducible show AM.CS _ (Stmt.Assign [Expr.Name (Str.ofString "both") _] _ _) _ _ _); refine AM.CS.set (i := 2) rfl (by wtm_at "loc") ?_ gs_moments.nd (.inl rfl)))
local macro_rules | `(tactic| wtm_at "nb") => `(tactic| first
  | exact M.NB_range)
local macro_rules | `(tactic| wtm_at "fo") => `(tactic| first
  | ((with_reducible show AM.CS _ (Stmt.For (Expr.Name (Str.ofString "n") _) _ _ _ _) _ _ _); refine AM.S.for rfl (AM.CG.name (i := 3) rfl (by wtm_at "loc") gs_moments.nd (.inl rfl)) ?_)
  | ((with_reducible show AM.CS _ (Stmt.For (Expr.Name (Str.ofString "t") _) _ _ _ _) _ _ _); refine AM.S.for rfl (AM.CG.name (i := 4) rfl (by wtm_at "loc") gs_moments.nd (.inl rfl)) ?_))
local macro_rules | `(tactic| wtm_at "fc") => `(tactic| first
  | exact M.f_Lights_own_shape
  | exact M.f_Lights_own_pattern
  | exact M.f_Moment_way_round
  | exact M.f_Moment_is_chain
  | exact M.f_Moment_many
  | exact M.f_Moment_now
  | exact M.f_Plainly_own_shape
  | exact M.f_Plainly_own_pattern)
theorem b_moments : GnG P w K mg base "moments" 15 (S_moments (K := K)) :=
  gG M.D_moments gs_moments (fun ds items ⟨_, _, _, _, _, _, h, _⟩ => by rw [h]; rfl) fun f cdv A outer L a go items ds J ⟨L1, L2, rg, p, rg2, p2, h, hL1, hL2, hd1, hc1, ho1, hd2, hc2, ho2, hi⟩ hr S jo => by
    subst h
    have f_multiple := b_multiple (P := P) (w := w) (base := base) M
    have f_common := b_common (P := P) (w := w) (base := base) M
    have f_around := b_around (P := P) (w := w) (base := base) M
    have ed1 : 1 ≤ com p ∧ com p ≤ 6 := cmn_pos
    have ed2 : 1 ≤ com p2 ∧ com p2 ≤ 6 := cmn_pos
    obtain ⟨b, hb⟩ : ∃ b : Nat, Nat.lcm (com p) (com p2) = b := ⟨_, rfl⟩
    have hb1 : 1 ≤ b := by rw [← hb]; exact Nat.lcm_pos ed1.1 ed2.1
    have hb2 : b ≤ 36 := by
      have h1 : b ≤ com p * com p2 := by rw [← hb]; exact Nat.le_of_dvd (Nat.mul_pos ed1.1 ed2.1) (Nat.lcm_dvd_mul _ _)
      have h2 : com p * com p2 ≤ 6 * 6 := Nat.mul_le_mul ed1.2 ed2.2
      omega
    rw [hb] at hi
    subst hi
    refine GW.Cs.cons (GW.C1.plain fun s₀ H₀ m => ?_)
    wtm_at "go"
    refine ⟨L1, rg, p, rfl, hL1, hd1, hc1, ho1, ?_⟩
    wtm_at "go"
    refine ⟨L2, rg2, p2, rfl, hL2, hd2, hc2, ho2, ?_⟩
    wtm_at "go"
    refine ⟨com p, com p2, rfl, by omega, by omega, by omega, by omega, ?_⟩
    rw [hb]
    wtm_at "go"
    refine GW.Cs.one (GW.C1.for (g := tgN 3) (ds := rngD 1 1 (5 * b + 21)) (fun i ys Δ' => ∃ k x y, i + k = 5 * b + 21 ∧ ys = (momN (perN rg b) i k).map nD ∧ Δ' = [some L1, some L2, some (.int (b : Nat)), x, y])
      (fun s₀ H₀ => AM.CG.name (i := 3) rfl (by wtm_at "loc") gs_moments.nd (.inl rfl)) (fun s₀ H₀ m => ?_) ⟨_, _, _, Nat.zero_add _, rfl, rfl⟩ (fun i d ys Δ' hd ⟨k, x, y, hk, hy, hx⟩ => ?_) (fun ys Δ' ⟨k, x, y, hk, hy, hx⟩ => ?_) (fun _ => rfl) jo)
    · wtm_at "go"
      congr 1; omega
    · subst hx; subst hy
      have hi : i < 5 * b + 21 := by
        have := (List.getElem?_eq_some_iff.mp hd).1
        rw [rngD_len] at this; exact this
      rw [rngD_get hi] at hd
      cases hd
      obtain ⟨k, rfl⟩ : ∃ k', k = k' + 1 := ⟨k - 1, by omega⟩
      have e1 : (1 : Int) + (i : Int) * 1 = ((i + 1 : Nat) : Int) := by push_cast; omega
      rw [e1]
      obtain ⟨n, hn⟩ : ∃ n : Nat, i + 1 = n := ⟨_, rfl⟩
      obtain ⟨T, hT⟩ : ∃ T : Nat, perN rg b n = T := ⟨_, rfl⟩
      have n1 : 1 ≤ n := by omega
      have g1 := perN_le (rg := rg) hb1 n1
      have g2 := rndN_le (rg := rg) n1
      have g3 : rndN rg n * b ≤ 402 * 36 := Nat.mul_le_mul (by omega) hb2
      have ec := rndN_pos (rg := rg) n1
      have ea := rndN_eq (rg := rg) n1
      refine ⟨_, rfl, GW.Cs.one (GW.C1.for (g := tgN 4) (ds := rngD 0 1 T) (fun t ys Δ' => ∃ j x, t + j = T ∧ ys = (rowN n t j ++ momN (perN rg b) n k).map nD ∧ Δ' = [some L1, some L2, some (.int (b : Nat)), some (.int (n : Nat)), x])
        (fun s₀ H₀ => AM.CG.name (i := 4) rfl (by wtm_at "loc") gs_moments.nd (.inl rfl)) (fun s₀ H₀ m => ?_) ⟨T, y, Nat.zero_add _, ?_, ?_⟩ (fun t d ys Δ' hd ⟨j, x, hj, hy, hx⟩ => ?_) (fun ys Δ' ⟨j, x, hj, hy, hx⟩ => ?_) (fun _ => rfl) jo)⟩
      · wtm_at "go"
        rw [hn]
        refine S_around.mk hL1 ⟨by omega, by omega, ?_⟩
        rw [← ea]
        wtm_at "go"
        refine ⟨rndN rg n, b, rfl, by omega, by omega, by omega, by omega, ?_⟩
        have hT2 : Nat.lcm (rndN rg n) b = T := hT
        rw [hT2]
        wtm_at "go"
        rw [Int.toNat_natCast]
      · show ((rowN (i + 1) 0 (perN rg b (i + 1)) ++ momN (perN rg b) (i + 1) k)).map nD = _
        rw [hn, hT]
      · rw [hn]; rfl
      · subst hx; subst hy
        have ht : t < T := by
          have := (List.getElem?_eq_some_iff.mp hd).1
          rw [rngD_len] at this; exact this
        rw [rngD_get ht] at hd
        cases hd
        obtain ⟨j, rfl⟩ : ∃ j', j = j' + 1 := ⟨j - 1, by omega⟩
        have e2 : (0 : Int) + (t : Int) * 1 = (t : Int) := by omega
        rw [e2]
        refine ⟨_, rfl, GW.Cs.one (GW.C1.yield S jo (d := nD (n, t)) (r := (rowN n (t + 1) j ++ momN (perN rg b) n k).map nD) rfl (fun s₀ H₀ m => ?_) ⟨j, _, by omega, rfl, rfl⟩ rfl rfl)⟩
        wtm_at "go"
        rfl
      · subst hx; subst hy
        have hj0 : j = 0 := by rw [rngD_len] at hj; omega
        subst hj0
        exact ⟨k, _, _, by omega, by rw [hn]; rfl, rfl⟩
    · subst hx; subst hy
      have hk0 : k = 0 := by rw [rngD_len] at hk; omega
      subst hk0
      rfl
end
end
end
section
def outD : Option (Nat × Nat) → D
  | none => .non
  | some x => nD x
def lowF (f : Nat → Bool) (n : Nat) : Nat := ((List.range n).find? f).getD 0
def out3 (f : Nat × Nat → Nat → Bool) : Option (Nat × Nat) → D
  | none => .non
  | some x => .tup [.int x.1, .int x.2, .int (lowF (f x) x.1 : Nat)]
theorem low_at {f : Nat → Bool} {n i : Nat} (hi : i < n) (hf : f i = true) : atI (lampsD f n) 0 = some (.int (lowF f n : Nat)) := by
  have h : (lampsF f n).head? = (List.range n).find? f := by unfold lampsF; exact List.head?_filter
  cases e : (List.range n).find? f with
  | none => exact absurd hf (by rw [List.find?_eq_none] at e; exact e i (List.mem_range.mpr hi))
  | some j =>
    have hl : lowF f n = j := by unfold lowF; rw [e]; rfl
    rw [e] at h
    rw [hl]
    have e0 : atI (lampsD f n) ((0 : Nat) : Int) = some (.int ((j : Nat) : Int)) := atI_of (n := 0) (by omega) (by
      unfold lampsD
      rw [List.getElem?_map, ← List.head?_eq_getElem?, h]; rfl)
    exact e0
theorem mk_ne {f : Nat → Bool} {n : Nat} (h : mk f n ≠ 0) : ∃ i, i < n ∧ f i = true := by
  rcases Classical.em (∃ i, i < n ∧ f i = true) with z | z
  · exact z
  · refine absurd (mk_none fun i hi => ?_) h
    cases e : f i with
    | false => rfl
    | true => exact (z ⟨i, hi, e⟩).elim
theorem xor0 {a b : Nat} : a ^^^ b = 0 ↔ a = b := by
  constructor
  · intro h
    refine Nat.eq_of_testBit_eq fun i => ?_
    have := congrArg (fun x => x.testBit i) h
    simp only [Nat.testBit_xor, Nat.zero_testBit] at this
    cases h1 : a.testBit i <;> cases h2 : b.testBit i <;> rw [h1, h2] at this <;> first | rfl | cases this
  · intro h; rw [h]; simp
theorem com_not {p : Pat} : com (.not p) = com p := by
  show cmn (isE 2 (.not p) || p.subs.any (isE 2)) (isE 3 (.not p) || p.subs.any (isE 3)) = _
  rfl
theorem pic_not0 {rg : Bool} {n t : Nat} {p : Pat} : (pic rg n t (.not p) == 0) = (pic rg n t p == 2 ^ n - 1) := by
  have h := pic_not (rg := rg) (n := n) (t := t) (p := p)
  have hl : pic rg n t p < 2 ^ n := mk_lt _ _
  have : (pic rg n t (.not p) = 0) ↔ (pic rg n t p = 2 ^ n - 1) := by omega
  by_cases e : pic rg n t p = 2 ^ n - 1
  · rw [beq_iff_eq.mpr e, beq_iff_eq.mpr (this.mpr e)]
  · rw [beq_eq_false_iff_ne.mpr e, beq_eq_false_iff_ne.mpr fun z => e (this.mp z)]
theorem mom_bd {rg : Bool} {b : Nat} (hb1 : 1 ≤ b) (hb : b ≤ 6) {x : Nat × Nat} (h : x ∈ momB rg b) : 1 ≤ x.1 ∧ x.1 ≤ 51 ∧ x.2 ≤ 700 := by
  obtain ⟨h1, h2, h3⟩ := momN_mem h
  have hn : 1 ≤ x.1 := by omega
  have g1 := perN_le (rg := rg) hb1 hn
  have g2 := rndN_le (rg := rg) hn
  have g3 : rndN rg x.1 * b ≤ 102 * 6 := Nat.mul_le_mul (by omega) hb
  exact ⟨hn, by omega, by omega⟩
end
section
section
variable {P : Program} {w : World} {K : PySem.W.Frag} {mg : Str → Option Value} {base : Heap} (M : Mod K mg)
include M
def S_dark : SpD := fun ds m Q _ => ∃ L rg p, ds = [L] ∧ LtD (K := K) L rg p ∧ p.dep < 10 ∧ p.cnt ≤ 1000 ∧ p.ok ∧ Q (outD ((momB rg (com p)).find? fun x => pic rg x.1 x.2 p == 0)) m
section
local macro_rules | `(tactic| wtm_at "nm") => `(tactic| first
  | ((with_reducible show AM.CE _ (Expr.Name (Str.ofString "lights") _) _ _ _ _); refine AM.W.nm (i := 0) rfl rfl (by wtm_at "vis") ?_)
  | ((with_reducible show AM.CE _ (Expr.Name (Str.ofString "n") _) _ _ _ _); refine AM.W.nm (i := 1) rfl rfl (by wtm_at "vis") ?_)
  | ((with_reducible show AM.CE _ (Expr.Name (Str.ofString "t") _) _ _ _ _); refine AM.W.nm (i := 2) rfl rfl (by wtm_at "vis") ?_))
local macro_rules | `(tactic| wtm_at "fn") => `(tactic| first
  | ((with_reducible show AM.CE _ (Expr.Call (Expr.Name (Str.ofString "moments") _) _ _ _) _ _ _ _); refine AM.W.call f_moments hr (by first | decide | omega) ?_)
  | ((with_reducible show AM.CE _ (Expr.Call (Expr.Name (Str.ofString "picture_of") _) _ _ _) _ _ _ _); refine AM.W.call f_picture_of hr (by first | decide | omega) ?_))
local macro_rules | `(tactic| wtm_at "ca") => `(tactic| first
  | ((with_reducible first | show AM.S_moments _ _ _ _ | show AM.S_moments _ _ _ _ _ | show AM.S_moments _ _ _ _ _ _); first | refine AM.S_moments.mk ?_ | refine AM.S_moments.mk M ?_)
  | ((with_reducible first | show AM.S_picture_of _ _ _ _ | show AM.S_picture_of _ _ _ _ _ | show AM.S_picture_of _ _ _ _ _ _); first | refine AM.S_picture_of.mk ?_ | refine AM.S_picture_of.mk M ?_))
local macro_rules | `(tactic| wtm_at "fo") => `(tactic| first
  | ((with_reducible show AM.CS _ (Stmt.For (Expr.Tuple [Expr.Name (Str.ofString "n") _, Expr.Name (Str.ofString "t") _] _ _) (Expr.Call (Expr.Name (Str.ofString "moments") _) _ _ _) _ _ _) _ _ _); refine AM.CS.forG f_moments (hr.mono (by first | decide | omega)) rfl (AM.CG.pair (i := 1) (j := 2) rfl rfl (by wtm_at "loc") rfl (by wtm_at "loc") sc_dark.nd (.inl rfl) (.inl rfl)) ?_))
local macro_rules | `(tactic| wtm_at "fc") => `(tactic| first
  | exact M.f_Lights_own_shape
  | exact M.f_Lights_own_pattern
  | exact M.f_Moment_way_round
  | exact M.f_Moment_is_chain
  | exact M.f_Moment_many
  | exact M.f_Moment_now
  | exact M.f_Plainly_own_shape
  | exact M.f_Plainly_own_pattern)
theorem b_dark : FnG P w K mg base "dark" 18 (S_dark (K := K)) :=
  gD M.D_dark sc_dark (fun ds m Q E ⟨_, _, _, h, _⟩ => by rw [h]; rfl) fun f cdv A outer s0 H E hr ds m Q Ex ⟨L, rg, p, h, hL, hd, hcn, ho, q⟩ => by
    subst h
    have f_moments := b_moments (P := P) (w := w) (base := base) M
    have f_picture_of := b_picture_of (P := P) (w := w) (base := base) M
    have ed : 1 ≤ com p ∧ com p ≤ 6 := cmn_pos
    wtm_at "go"
    refine ⟨_, ⟨L, L, rg, p, rg, p, rfl, hL, hL, hd, hcn, ho, hd, hcn, ho, rfl⟩, ?_⟩
    rw [Nat.lcm_self]
    refine ForG.suf (fun r Δ' m' => ∃ xs x y, r = List.map nD xs ∧ (∀ z ∈ xs, z ∈ momB rg (com p)) ∧ (momB rg (com p)).find? (fun x => pic rg x.1 x.2 p == 0) = xs.find? (fun x => pic rg x.1 x.2 p == 0) ∧ Δ' = [some L, x, y] ∧ m' = m) ⟨_, _, _, rfl, fun z h => h, rfl, rfl, rfl⟩ (fun d r Δ' m' hdm ⟨xs, x, y, hr1, hmem, hf, hx, hm⟩ => ?_) (fun Δ' m' ⟨xs, x, y, hr1, hmem, hf, hx, hm⟩ => ?_)
    · subst hx; subst hm
      cases xs with
      | nil => cases hr1
      | cons z xs =>
        obtain ⟨n, t⟩ := z
        cases hr1
        obtain ⟨g1, g2, g3⟩ := mom_bd ed.1 ed.2 (hmem (n, t) List.mem_cons_self)
        dsimp only at g1 g2 g3
        refine ⟨_, rfl, ?_⟩
        wtm_at "go"
        refine ⟨L, rg, p, n, t, rfl, hL, hd, ho, g1, by omega, ?_⟩
        wtm_at "go"
        rw [List.find?_cons] at hf
        refine ifD (fun hc => ?_) (fun hc => ?_)
        · have e0 : pic rg n t p = 0 := by omega
          have e1 : (pic rg n t p == 0) = true := beq_iff_eq.mpr e0
          simp only [e1] at hf
          rw [hf] at q
          wtm_at "go"
          exact q
        · have e1 : (pic rg n t p == 0) = false := beq_eq_false_iff_ne.mpr fun z => hc (by rw [z]; rfl)
          simp only [e1] at hf
          wtm_at "go"
          exact ⟨xs, _, _, rfl, fun z hz => hmem z (List.mem_cons_of_mem _ hz), hf, rfl, rfl⟩
    · subst hx; subst hm
      cases xs with
      | cons z xs => cases hr1
      | nil =>
        rw [hf] at q
        wtm_at "go"
        exact q
end
def S_Plainly : SpD := fun ds m Q _ => ∃ a sh pt, ds = [.loc a, sh, pt] ∧ m a = some (.o M.A_Plainly []) ∧ Q .non (m.set a (.o M.A_Plainly [("own_shape", sh), ("own_pattern", pt)]))
section
local macro_rules | `(tactic| wtm_at "nm") => `(tactic| first
  | ((with_reducible show AM.CE _ (Expr.Name (Str.ofString "self") _) _ _ _ _); refine AM.W.nm (i := 0) rfl rfl (by wtm_at "vis") ?_)
  | ((with_reducible show AM.CE _ (Expr.Name (Str.ofString "shape") _) _ _ _ _); refine AM.W.nm (i := 1) rfl rfl (by wtm_at "vis") ?_)
  | ((with_reducible show AM.CE _ (Expr.Name (Str.ofString "pattern") _) _ _ _ _); refine AM.W.nm (i := 2) rfl rfl (by wtm_at "vis") ?_))
local macro_rules | `(tactic| wtm_at "fc") => `(tactic| first
  | exact M.f_Lights_own_shape
  | exact M.f_Lights_own_pattern
  | exact M.f_Moment_way_round
  | exact M.f_Moment_is_chain
  | exact M.f_Moment_many
  | exact M.f_Moment_now
  | exact M.f_Plainly_own_shape
  | exact M.f_Plainly_own_pattern)
theorem b_Plainly : CnG P w K mg base "Plainly" M.A_Plainly 1 (S_Plainly M) :=
  gC M.D_Plainly sc_Plainly___init__ (fun ds m Q E ⟨_, _, _, h, _⟩ => by rw [h]; rfl) fun f cdv A outer s0 H E hr ds m Q Ex ⟨a, sh, pt, h, hm, q⟩ => by
    subst h
    wtm_at "go"
    refine toQ q rfl ?_
    simp only [Mu.set_set]; rfl
end
def S_full : SpD := fun ds m Q _ => ∃ L rg p, ds = [L] ∧ LtD (K := K) L rg p ∧ p.dep < 9 ∧ p.cnt < 1000 ∧ p.ok ∧ Q (outD ((momB rg (com p)).find? fun x => pic rg x.1 x.2 p == 2 ^ x.1 - 1)) m
section
local macro_rules | `(tactic| wtm_at "nm") => `(tactic| first
  | ((with_reducible show AM.CE _ (Expr.Name (Str.ofString "lights") _) _ _ _ _); refine AM.W.nm (i := 0) rfl rfl (by wtm_at "vis") ?_))
local macro_rules | `(tactic| wtm_at "fn") => `(tactic| first
  | ((with_reducible show AM.CE _ (Expr.Call (Expr.Name (Str.ofString "dark") _) _ _ _) _ _ _ _); refine AM.W.call f_dark hr (by first | decide | omega) ?_)
  | ((with_reducible show AM.CE _ (Expr.Call (Expr.Name (Str.ofString "Plainly") _) _ _ _) _ _ _ _); refine AM.W.makeX f_Plainly hr (by first | decide | omega) ?_))
local macro_rules | `(tactic| wtm_at "ca") => `(tactic| first
  | ((with_reducible first | show AM.S_dark _ _ _ _ | show AM.S_dark _ _ _ _ _ | show AM.S_dark _ _ _ _ _ _); first | refine AM.S_dark.mk ?_ | refine AM.S_dark.mk M ?_))
local macro_rules | `(tactic| wtm_at "fc") => `(tactic| first
  | exact M.f_Lights_own_shape
  | exact M.f_Lights_own_pattern
  | exact M.f_Moment_way_round
  | exact M.f_Moment_is_chain
  | exact M.f_Moment_many
  | exact M.f_Moment_now
  | exact M.f_Plainly_own_shape
  | exact M.f_Plainly_own_pattern)
theorem b_full : FnG P w K mg base "full" 19 (S_full (K := K)) :=
  gD M.D_full sc_full (fun ds m Q E ⟨_, _, _, h, _⟩ => by rw [h]; rfl) fun f cdv A outer s0 H E hr ds m Q Ex ⟨L, rg, p, h, ⟨C, hC, g1, g2⟩, hd, hcn, ho, q⟩ => by
    subst h; subst hC
    have f_dark := b_dark (P := P) (w := w) (base := base) M
    have f_Plainly := b_Plainly (P := P) (w := w) (base := base) M
    wtm_at "go"
    intro a ha
    refine ⟨a, _, _, rfl, Mu.set_same, rfl, aFrz.mk Mu.set_same ?_⟩
    simp only [Mu.set_set]
    rw [Mu.del_set ha]
    wtm_at "go"
    refine ⟨_, rg, .not p, rfl, ⟨_, rfl, M.f_Plainly_own_shape, M.f_Plainly_own_pattern⟩, by simp only [Pat.dep]; omega, by simp only [Pat.cnt]; omega, ho, ?_⟩
    rw [com_not]
    simp only [pic_not0]
    exact q
end
def chgF (rg : Bool) (p : Pat) (x : Nat × Nat) (i : Nat) : Bool := xor (onP rg x.1 x.2 p i) (onP rg x.1 (x.2 + 1) p i)
def S_moves : SpD := fun ds m Q _ => ∃ L rg p, ds = [L] ∧ LtD (K := K) L rg p ∧ p.dep < 10 ∧ p.cnt ≤ 1000 ∧ p.ok ∧ Q (out3 (chgF rg p) ((momB rg (com p)).find? fun x => pic rg x.1 x.2 p != pic rg x.1 (x.2 + 1) p)) m
section
local macro_rules | `(tactic| wtm_at "nm") => `(tactic| first
  | ((with_reducible show AM.CE _ (Expr.Name (Str.ofString "lights") _) _ _ _ _); refine AM.W.nm (i := 0) rfl rfl (by wtm_at "vis") ?_)
  | ((with_reducible show AM.CE _ (Expr.Name (Str.ofString "n") _) _ _ _ _); refine AM.W.nm (i := 1) rfl rfl (by wtm_at "vis") ?_)
  | ((with_reducible show AM.CE _ (Expr.Name (Str.ofString "t") _) _ _ _ _); refine AM.W.nm (i := 2) rfl rfl (by wtm_at "vis") ?_)
  | ((with_reducible show AM.CE _ (Expr.Name (Str.ofString "mask") _) _ _ _ _); refine AM.W.nm (i := 3) rfl rfl (by wtm_at "vis") ?_))
local macro_rules | `(tactic| wtm_at "fn") => `(tactic| first
  | ((with_reducible show AM.CE _ (Expr.Call (Expr.Name (Str.ofString "moments") _) _ _ _) _ _ _ _); refine AM.W.call f_moments hr (by first | decide | omega) ?_)
  | ((with_reducible show AM.CE _ (Expr.Call (Expr.Name (Str.ofString "picture_of") _) _ _ _) _ _ _ _); refine AM.W.call f_picture_of hr (by first | decide | omega) ?_)
  | ((with_reducible show AM.CE _ (Expr.Call (Expr.Name (Str.ofString "lamps_of") _) _ _ _) _ _ _ _); refine AM.W.call f_lamps_of hr (by first | decide | omega) ?_))
local macro_rules | `(tactic| wtm_at "ca") => `(tactic| first
  | ((with_reducible first | show AM.S_moments _ _ _ _ | show AM.S_moments _ _ _ _ _ | show AM.S_moments _ _ _ _ _ _); first | refine AM.S_moments.mk ?_ | refine AM.S_moments.mk M ?_)
  | ((with_reducible first | show AM.S_picture_of _ _ _ _ | show AM.S_picture_of _ _ _ _ _ | show AM.S_picture_of _ _ _ _ _ _); first | refine AM.S_picture_of.mk ?_ | refine AM.S_picture_of.mk M ?_)
  | ((with_reducible first | show AM.S_lamps_of _ _ _ _ | show AM.S_lamps_of _ _ _ _ _ | show AM.S_lamps_of _ _ _ _ _ _); first | refine AM.S_lamps_of.mk ?_ | refine AM.S_lamps_of.mk M ?_))
local macro_rules | `(tactic| wtm_at "as") => `(tactic| first
  | ((with_reducible show AM.CS _ (Stmt.Assign [Expr.Name (Str.ofString "mask") _] _ _) _ _ _); refine AM.CS.set (i := 3) rfl (by wtm_at "loc") ?_ sc_moves.nd (.inl rfl)))
local macro_rules | `(tactic| wtm_at "fo") => `(tactic| first
  | ((with_reducible show AM.CS _ (Stmt.For (Expr.Tuple [Expr.Name (Str.ofString "n") _, Expr.Name (Str.ofString "t") _] _ _) (Expr.Call (Expr.Name (Str.ofString "moments") _) _ _ _) _ _ _) _ _ _); refine AM.CS.forG f_moments (hr.mono (by first | decide | omega)) rfl (AM.CG.pair (i := 1) (j := 2) rfl rfl (by wtm_at "loc") rfl (by wtm_at "loc") sc_moves.nd (.inl rfl) (.inl rfl)) ?_))
local macro_rules | `(tactic| wtm_at "fc") => `(tactic| first
  | exact M.f_Lights_own_shape
  | exact M.f_Lights_own_pattern
  | exact M.f_Moment_way_round
  | exact M.f_Moment_is_chain
  | exact M.f_Moment_many
  | exact M.f_Moment_now
  | exact M.f_Plainly_own_shape
  | exact M.f_Plainly_own_pattern)
theorem b_moves : FnG P w K mg base "moves" 18 (S_moves (K := K)) :=
  gD M.D_moves sc_moves (fun ds m Q E ⟨_, _, _, h, _⟩ => by rw [h]; rfl) fun f cdv A outer s0 H E hr ds m Q Ex ⟨L, rg, p, h, hL, hd, hcn, ho, q⟩ => by
    subst h
    have f_moments := b_moments (P := P) (w := w) (base := base) M
    have f_picture_of := b_picture_of (P := P) (w := w) (base := base) M
    have f_lamps_of := b_lamps_of (P := P) (w := w) (base := base) M
    have ed : 1 ≤ com p ∧ com p ≤ 6 := cmn_pos
    wtm_at "go"
    refine ⟨_, ⟨L, L, rg, p, rg, p, rfl, hL, hL, hd, hcn, ho, hd, hcn, ho, rfl⟩, ?_⟩
    rw [Nat.lcm_self]
    refine ForG.suf (fun r Δ' m' => ∃ xs x y z, r = List.map nD xs ∧ (∀ z ∈ xs, z ∈ momB rg (com p)) ∧ (momB rg (com p)).find? (fun x => pic rg x.1 x.2 p != pic rg x.1 (x.2 + 1) p) = xs.find? (fun x => pic rg x.1 x.2 p != pic rg x.1 (x.2 + 1) p) ∧ Δ' = [some L, x, y, z] ∧ m' = m) ⟨_, _, _, _, rfl, fun z h => h, rfl, rfl, rfl⟩ (fun d r Δ' m' hdm ⟨xs, x, y, z, hr1, hmem, hf, hx, hm⟩ => ?_) (fun Δ' m' ⟨xs, x, y, z, hr1, hmem, hf, hx, hm⟩ => ?_)
    · subst hx; subst hm
      cases xs with
      | nil => cases hr1
      | cons z xs =>
        obtain ⟨n, t⟩ := z
        cases hr1
        obtain ⟨g1, g2, g3⟩ := mom_bd ed.1 ed.2 (hmem (n, t) List.mem_cons_self)
        dsimp only at g1 g2 g3
        refine ⟨_, rfl, ?_⟩
        wtm_at "go"
        refine ⟨L, rg, p, n, t, rfl, hL, hd, ho, g1, by omega, ?_⟩
        wtm_at "go"
        refine ⟨L, rg, p, n, t + 1, by push_cast; rfl, hL, hd, ho, g1, by omega, ?_⟩
        refine aII.mk ?_
        rw [xor_nat]
        have hx : pic rg n t p ^^^ pic rg n (t + 1) p = mk (chgF rg p (n, t)) n := mk_xor
        rw [hx]
        wtm_at "go"
        rw [List.find?_cons] at hf
        have hz : mk (chgF rg p (n, t)) n = 0 ↔ pic rg n t p = pic rg n (t + 1) p := by rw [← hx]; exact xor0
        refine ifD (fun hc => ?_) (fun hc => ?_)
        · have e1 : (pic rg n t p != pic rg n (t + 1) p) = false := by rw [bne_eq_false_iff_eq]; exact hz.mp (by omega)
          simp only [e1] at hf
          wtm_at "go"
          exact ⟨xs, _, _, _, rfl, fun z hz => hmem z (List.mem_cons_of_mem _ hz), hf, rfl, rfl⟩
        · have e0 : mk (chgF rg p (n, t)) n ≠ 0 := fun z => hc (by rw [z]; rfl)
          have e1 : (pic rg n t p != pic rg n (t + 1) p) = true := bne_iff_ne.mpr fun z => e0 (hz.mpr z)
          simp only [e1] at hf
          rw [hf] at q
          obtain ⟨i, hi, hfi⟩ := mk_ne e0
          have low := low_at hi hfi
          wtm_at "go"
          exact q
    · subst hx; subst hm
      cases xs with
      | cons z xs => cases hr1
      | nil =>
        rw [hf] at q
        wtm_at "go"
        exact q
end
end
end
section
def prtF (rg : Bool) (p q : Pat) (x : Nat × Nat) (i : Nat) : Bool := xor (onP rg x.1 x.2 p i) (onP rg x.1 x.2 q i)
def Bp (rg : Bool) (p q : Pat) (x : Nat × Nat) : Bool := pic rg x.1 x.2 p != pic rg x.1 x.2 q
def lcP (p q : Pat) : Nat := Nat.lcm (com p) (com q)
theorem lcP_bd {p q : Pat} : 1 ≤ lcP p q ∧ lcP p q ≤ 6 := by
  have h : ∀ a b c d : Bool, 1 ≤ Nat.lcm (cmn a b) (cmn c d) ∧ Nat.lcm (cmn a b) (cmn c d) ≤ 6 := by decide +kernel
  exact h _ _ _ _
section
variable {P : Program} {w : World} {K : PySem.W.Frag} {mg : Str → Option Value} {base : Heap} (M : Mod K mg)
include M
def prt (rg : Bool) (p q : Pat) : D := out3 (prtF rg p q) ((momB rg (lcP p q)).find? (Bp rg p q))
def S_parting : SpD := fun ds m Q E => ∃ L1 L2 rg p rg2 q, ds = [L1, L2] ∧ LtD (K := K) L1 rg p ∧ LtD (K := K) L2 rg2 q ∧ p.dep < 10 ∧ p.cnt ≤ 1000 ∧ p.ok ∧ q.dep < 10 ∧ q.cnt ≤ 1000 ∧ q.ok ∧ (if rg = rg2 then Q (prt rg p q) m else E M.A_NotComparable none m)
section
local macro_rules | `(tactic| wtm_at "nm") => `(tactic| first
  | ((with_reducible show AM.CE _ (Expr.Name (Str.ofString "one") _) _ _ _ _); refine AM.W.nm (i := 0) rfl rfl (by wtm_at "vis") ?_)
  | ((with_reducible show AM.CE _ (Expr.Name (Str.ofString "other") _) _ _ _ _); refine AM.W.nm (i := 1) rfl rfl (by wtm_at "vis") ?_)
  | ((with_reducible show AM.CE _ (Expr.Name (Str.ofString "n") _) _ _ _ _); refine AM.W.nm (i := 2) rfl rfl (by wtm_at "vis") ?_)
  | ((with_reducible show AM.CE _ (Expr.Name (Str.ofString "t") _) _ _ _ _); refine AM.W.nm (i := 3) rfl rfl (by wtm_at "vis") ?_)
  | ((with_reducible show AM.CE _ (Expr.Name (Str.ofString "mask") _) _ _ _ _); refine AM.W.nm (i := 4) rfl rfl (by wtm_at "vis") ?_))
local macro_rules | `(tactic| wtm_at "fn") => `(tactic| first
  | ((with_reducible show AM.CE _ (Expr.Call (Expr.Name (Str.ofString "moments") _) _ _ _) _ _ _ _); refine AM.W.call f_moments hr (by first | decide | omega) ?_)
  | ((with_reducible show AM.CE _ (Expr.Call (Expr.Name (Str.ofString "picture_of") _) _ _ _) _ _ _ _); refine AM.W.call f_picture_of hr (by first | decide | omega) ?_)
  | ((with_reducible show AM.CE _ (Expr.Call (Expr.Name (Str.ofString "lamps_of") _) _ _ _) _ _ _ _); refine AM.W.call f_lamps_of hr (by first | decide | omega) ?_)
  | ((with_reducible show AM.CE _ (Expr.Call (Expr.Name (Str.ofString "NotComparable") _) _ _ _) _ _ _ _); refine AM.W.makeX f_NotComparable hr (by first | decide | omega) ?_))
local macro_rules | `(tactic| wtm_at "ca") => `(tactic| first
  | ((with_reducible first | show AM.S_moments _ _ _ _ | show AM.S_moments _ _ _ _ _ | show AM.S_moments _ _ _ _ _ _); first | refine AM.S_moments.mk ?_ | refine AM.S_moments.mk M ?_)
  | ((with_reducible first | show AM.S_picture_of _ _ _ _ | show AM.S_picture_of _ _ _ _ _ | show AM.S_picture_of _ _ _ _ _ _); first | refine AM.S_picture_of.mk ?_ | refine AM.S_picture_of.mk M ?_)
  | ((with_reducible first | show AM.S_lamps_of _ _ _ _ | show AM.S_lamps_of _ _ _ _ _ | show AM.S_lamps_of _ _ _ _ _ _); first | refine AM.S_lamps_of.mk ?_ | refine AM.S_lamps_of.mk M ?_))
local macro_rules | `(tactic| wtm_at "as") => `(tactic| first
  | ((with_reducible show AM.CS _ (Stmt.Assign [Expr.Name (Str.ofString "mask") _] _ _) _ _ _); refine AM.CS.set (i := 4) rfl (by wtm_at "loc") ?_ sc_parting.nd (.inl rfl)))
local macro_rules | `(tactic| wtm_at "fo") => `(tactic| first
  | ((with_reducible show AM.CS _ (Stmt.For (Expr.Tuple [Expr.Name (Str.ofString "n") _, Expr.Name (Str.ofString "t") _] _ _) (Expr.Call (Expr.Name (Str.ofString "moments") _) _ _ _) _ _ _) _ _ _); refine AM.CS.forG f_moments (hr.mono (by first | decide | omega)) rfl (AM.CG.pair (i := 2) (j := 3) rfl rfl (by wtm_at "loc") rfl (by wtm_at "loc") sc_parting.nd (.inl rfl) (.inl rfl)) ?_))
local macro_rules | `(tactic| wtm_at "fc") => `(tactic| first
  | exact M.f_Lights_own_shape
  | exact M.f_Lights_own_pattern
  | exact M.f_Moment_way_round
  | exact M.f_Moment_is_chain
  | exact M.f_Moment_many
  | exact M.f_Moment_now
  | exact M.f_Plainly_own_shape
  | exact M.f_Plainly_own_pattern)
local macro_rules | `(tactic| wtm_at "ra") => `(tactic| first
  | ((with_reducible show AM.CS _ (Stmt.Raise (some (Expr.Call (Expr.Name (Str.ofString "NotComparable") _) [] _ _)) none _) _ _ _); refine AM.CS.raise M.x_NotComparable rfl ?_))
theorem b_parting : FnG P w K mg base "parting" 18 (S_parting M) :=
  gD M.D_parting sc_parting (fun ds m Q E ⟨_, _, _, _, _, _, h, _⟩ => by rw [h]; rfl) fun f cdv A outer s0 H E hr ds m Q Ex ⟨L1, L2, rg, p, rg2, q2, h, hL1, hL2, hd1, hc1, ho1, hd2, hc2, ho2, q⟩ => by
    subst h
    have f_moments := b_moments (P := P) (w := w) (base := base) M
    have f_picture_of := b_picture_of (P := P) (w := w) (base := base) M
    have f_lamps_of := b_lamps_of (P := P) (w := w) (base := base) M
    have ed := lcP_bd (p := p) (q := q2)
    obtain ⟨C1, hC1, g11, g12⟩ := hL1
    obtain ⟨C2, hC2, g21, g22⟩ := hL2
    have hL1 : LtD (K := K) L1 rg p := ⟨C1, hC1, g11, g12⟩
    have hL2 : LtD (K := K) L2 rg2 q2 := ⟨C2, hC2, g21, g22⟩
    by_cases hrg : rg = rg2
    case neg =>
      rw [if_neg hrg] at q
      have hs : decide (shp rg = shp rg2) = false := by revert hrg; cases rg <;> cases rg2 <;> decide +kernel
      subst hC1; subst hC2
      wtm_at "go"
      exact q
    case pos =>
      subst hrg
      rw [if_pos rfl] at q
      have hs : decide (shp rg = shp rg) = true := decide_eq_true rfl
      refine CSs.mid (fun Δ' m' => ∃ x y z, Δ' = [some L1, some L2, x, y, z] ∧ m' = m) ?_ (fun Δ' m1 ⟨x, y, z, hx, hm⟩ => ?_)
      · subst hC1; subst hC2
        wtm_at "go"
        exact ⟨_, _, _, rfl, rfl⟩
      subst hx; subst hm
      wtm_at "go"
      refine ⟨_, ⟨L1, L2, rg, p, rg, q2, rfl, hL1, hL2, hd1, hc1, ho1, hd2, hc2, ho2, rfl⟩, ?_⟩
      unfold prt at q
      obtain ⟨b, hb⟩ : ∃ b : Nat, lcP p q2 = b := ⟨_, rfl⟩
      have hb' : Nat.lcm (com p) (com q2) = b := hb
      rw [hb] at ed q
      rw [hb']
      refine ForG.suf (fun r Δ' m' => ∃ xs x y z, r = List.map nD xs ∧ (∀ z ∈ xs, z ∈ momB rg b) ∧ (momB rg b).find? (Bp rg p q2) = xs.find? (Bp rg p q2) ∧ Δ' = [some L1, some L2, x, y, z] ∧ m' = m1) ⟨_, _, _, _, rfl, fun z h => h, rfl, rfl, rfl⟩ (fun d r Δ' m' hdm ⟨xs, x, y, z, hr1, hmem, hf, hx, hm⟩ => ?_) (fun Δ' m' ⟨xs, x, y, z, hr1, hmem, hf, hx, hm⟩ => ?_)
      · subst hx; subst hm
        cases xs with
        | nil => cases hr1
        | cons z xs =>
          obtain ⟨n, t⟩ := z
          cases hr1
          obtain ⟨g1, g2, g3⟩ := mom_bd ed.1 ed.2 (hmem (n, t) List.mem_cons_self)
          dsimp only at g1 g2 g3
          refine ⟨_, rfl, ?_⟩
          wtm_at "go"
          refine ⟨L1, rg, p, n, t, rfl, hL1, hd1, ho1, g1, by omega, ?_⟩
          wtm_at "go"
          refine ⟨L2, rg, q2, n, t, rfl, hL2, hd2, ho2, g1, by omega, ?_⟩
          refine aII.mk ?_
          rw [xor_nat]
          have hx : pic rg n t p ^^^ pic rg n t q2 = mk (prtF rg p q2 (n, t)) n := mk_xor
          rw [hx]
          wtm_at "go"
          rw [List.find?_cons] at hf
          have hz : mk (prtF rg p q2 (n, t)) n = 0 ↔ pic rg n t p = pic rg n t q2 := by rw [← hx]; exact xor0
          refine ifD (fun hc => ?_) (fun hc => ?_)
          · have e1 : Bp rg p q2 (n, t) = false := by unfold Bp; rw [bne_eq_false_iff_eq]; exact hz.mp (by omega)
            simp only [e1] at hf
            wtm_at "go"
            exact ⟨xs, _, _, _, rfl, fun z hz => hmem z (List.mem_cons_of_mem _ hz), hf, rfl, rfl⟩
          · have e0 : mk (prtF rg p q2 (n, t)) n ≠ 0 := fun z => hc (by rw [z]; rfl)
            have e1 : Bp rg p q2 (n, t) = true := bne_iff_ne.mpr fun z => e0 (hz.mpr z)
            simp only [e1] at hf
            rw [hf] at q
            obtain ⟨i, hi, hfi⟩ := mk_ne e0
            have low := low_at hi hfi
            wtm_at "go"
            exact q
      · subst hx; subst hm
        cases xs with
        | cons z xs => cases hr1
        | nil =>
          rw [hf] at q
          wtm_at "go"
          exact q
end
def S_alike : SpD := fun ds m Q E => ∃ L1 L2 rg p q, ds = [L1, L2] ∧ LtD (K := K) L1 rg p ∧ LtD (K := K) L2 rg q ∧ p.dep < 10 ∧ p.cnt ≤ 1000 ∧ p.ok ∧ q.dep < 10 ∧ q.cnt ≤ 1000 ∧ q.ok ∧ Q (.bl (prt rg p q).isNon) m
section
local macro_rules | `(tactic| wtm_at "nm") => `(tactic| first
  | ((with_reducible show AM.CE _ (Expr.Name (Str.ofString "one") _) _ _ _ _); refine AM.W.nm (i := 0) rfl rfl (by wtm_at "vis") ?_)
  | ((with_reducible show AM.CE _ (Expr.Name (Str.ofString "other") _) _ _ _ _); refine AM.W.nm (i := 1) rfl rfl (by wtm_at "vis") ?_))
local macro_rules | `(tactic| wtm_at "fn") => `(tactic| first
  | ((with_reducible show AM.CE _ (Expr.Call (Expr.Name (Str.ofString "parting") _) _ _ _) _ _ _ _); refine AM.W.call f_parting hr (by first | decide | omega) ?_))
local macro_rules | `(tactic| wtm_at "ca") => `(tactic| first
  | ((with_reducible first | show AM.S_parting _ _ _ _ | show AM.S_parting _ _ _ _ _ | show AM.S_parting _ _ _ _ _ _); first | refine AM.S_parting.mk ?_ | refine AM.S_parting.mk M ?_))
local macro_rules | `(tactic| wtm_at "fc") => `(tactic| first
  | exact M.f_Lights_own_shape
  | exact M.f_Lights_own_pattern
  | exact M.f_Moment_way_round
  | exact M.f_Moment_is_chain
  | exact M.f_Moment_many
  | exact M.f_Moment_now
  | exact M.f_Plainly_own_shape
  | exact M.f_Plainly_own_pattern)
theorem b_alike : FnG P w K mg base "alike" 19 (S_alike (K := K)) :=
  gD M.D_alike sc_alike (fun ds m Q E ⟨_, _, _, _, _, h, _⟩ => by rw [h]; rfl) fun f cdv A outer s0 H E hr ds m Q Ex ⟨L1, L2, rg, p, q2, h, hL1, hL2, hd1, hc1, ho1, hd2, hc2, ho2, q⟩ => by
    subst h
    have f_parting := b_parting (P := P) (w := w) (base := base) M
    wtm_at "go"
    refine ⟨L1, L2, rg, p, rg, q2, rfl, hL1, hL2, hd1, hc1, ho1, hd2, hc2, ho2, ?_⟩
    rw [if_pos rfl]
    wtm_at "go"
    exact q
end
end
end
section
def pushP (k : Nat) (x : List Nat × Pat) : List Nat × Pat := (k :: x.1, x.2)
def _root_.AM.Pat.paths : Pat → List (List Nat × Pat)
  | .not p => ([], .not p) :: p.paths.map (pushP 0)
  | .bin o p q => ([], .bin o p q) :: (p.paths.map (pushP 0) ++ q.paths.map (pushP 1))
  | p => [([], p)]
def leafHas : List Nat → Bool
  | [] => true
  | _ :: _ => false
def _root_.AM.Pat.has : Pat → List Nat → Bool
  | .not p, r => match r with
    | [] => true
    | 0 :: r => p.has r
    | _ :: _ => false
  | .bin _ p q, r => match r with
    | [] => true
    | 0 :: r => p.has r
    | 1 :: r => q.has r
    | _ :: _ => false
  | .all, r => leafHas r
  | .none, r => leafHas r
  | .lamp _, r => leafHas r
  | .dot _ _, r => leafHas r
  | .comb _ _, r => leafHas r
  | .beat _ _, r => leafHas r
def leafPut (p : Pat) : List Nat → Pat → Pat
  | [], n => n
  | _ :: _, _ => p
def _root_.AM.Pat.put : Pat → List Nat → Pat → Pat
  | .not p, r, n => match r with
    | [] => n
    | _ :: r => .not (p.put r n)
  | .bin o p q, r, n => match r with
    | [] => n
    | 0 :: r => .bin o (p.put r n) q
    | _ :: r => .bin o p (q.put r n)
  | .all, r, n => leafPut .all r n
  | .none, r, n => leafPut .none r n
  | .lamp k, r, n => leafPut (.lamp k) r n
  | .dot k u, r, n => leafPut (.dot k u) r n
  | .comb e x, r, n => leafPut (.comb e x) r n
  | .beat e x, r, n => leafPut (.beat e x) r n
theorem paths_len : ∀ p : Pat, p.paths.length = p.cnt
  | .not p => by have := paths_len p; simp only [Pat.paths, Pat.cnt, List.length_cons, List.length_map]; omega
  | .bin o p q => by have := paths_len p; have := paths_len q; simp only [Pat.paths, Pat.cnt, List.length_cons, List.length_map, List.length_append]; omega
  | .all => rfl
  | .none => rfl
  | .lamp k => rfl
  | .dot k u => rfl
  | .comb e r => rfl
  | .beat e r => rfl
theorem paths_has : ∀ {p : Pat} {x : List Nat × Pat}, x ∈ p.paths → p.has x.1 = true ∧ x.1.length ≤ p.dep ∧ x.2.dep ≤ p.dep
  | .not p, x, h => by
    rcases List.mem_cons.mp h with rfl | h
    · exact ⟨rfl, Nat.zero_le _, Nat.le_refl _⟩
    · obtain ⟨y, hy, rfl⟩ := List.mem_map.mp h
      obtain ⟨a, b, c⟩ := paths_has hy
      exact ⟨a, by simp only [pushP, List.length_cons, Pat.dep]; omega, by simp only [pushP, Pat.dep]; omega⟩
  | .bin o p q, x, h => by
    rcases List.mem_cons.mp h with rfl | h
    · exact ⟨rfl, Nat.zero_le _, Nat.le_refl _⟩
    · rcases List.mem_append.mp h with h | h
      · obtain ⟨y, hy, rfl⟩ := List.mem_map.mp h
        obtain ⟨a, b, c⟩ := paths_has hy
        exact ⟨a, by simp only [pushP, List.length_cons, Pat.dep]; omega, by simp only [pushP, Pat.dep]; omega⟩
      · obtain ⟨y, hy, rfl⟩ := List.mem_map.mp h
        obtain ⟨a, b, c⟩ := paths_has hy
        exact ⟨a, by simp only [pushP, List.length_cons, Pat.dep]; omega, by simp only [pushP, Pat.dep]; omega⟩
  | .all, x, h => by rw [List.mem_singleton.mp h]; exact ⟨rfl, Nat.zero_le _, Nat.le_refl _⟩
  | .none, x, h => by rw [List.mem_singleton.mp h]; exact ⟨rfl, Nat.zero_le _, Nat.le_refl _⟩
  | .lamp k, x, h => by rw [List.mem_singleton.mp h]; exact ⟨rfl, Nat.zero_le _, Nat.le_refl _⟩
  | .dot k u, x, h => by rw [List.mem_singleton.mp h]; exact ⟨rfl, Nat.zero_le _, Nat.le_refl _⟩
  | .comb e r, x, h => by rw [List.mem_singleton.mp h]; exact ⟨rfl, Nat.zero_le _, Nat.le_refl _⟩
  | .beat e r, x, h => by rw [List.mem_singleton.mp h]; exact ⟨rfl, Nat.zero_le _, Nat.le_refl _⟩
theorem leaf_ok {p n : Pat} (hn : n.ok) (hd : n.dep = 0) (hc : n.cnt = 1) (h1 : 1 ≤ p.cnt) {r : List Nat} (h : p.ok) : (leafPut p r n).ok ∧ (leafPut p r n).dep ≤ p.dep ∧ (leafPut p r n).cnt ≤ p.cnt := by
  cases r with
  | nil => exact ⟨hn, by show n.dep ≤ _; omega, by show n.cnt ≤ _; omega⟩
  | cons a r => exact ⟨h, Nat.le_refl _, Nat.le_refl _⟩
theorem put_ok {n : Pat} (hn : n.ok) (hd : n.dep = 0) (hc : n.cnt = 1) : ∀ {p : Pat} {r : List Nat}, p.ok → (p.put r n).ok ∧ (p.put r n).dep ≤ p.dep ∧ (p.put r n).cnt ≤ p.cnt
  | .not p, [], h => ⟨hn, by show n.dep ≤ _; omega, by show n.cnt ≤ _; simp only [Pat.cnt]; omega⟩
  | .not p, _ :: r, h => by
    obtain ⟨a, b, c⟩ := put_ok hn hd hc (p := p) (r := r) h
    exact ⟨a, by show (Pat.not (p.put r n)).dep ≤ _; simp only [Pat.dep]; omega, by show (Pat.not (p.put r n)).cnt ≤ _; simp only [Pat.cnt]; omega⟩
  | .bin o p q, [], h => ⟨hn, by show n.dep ≤ _; omega, by show n.cnt ≤ _; simp only [Pat.cnt]; omega⟩
  | .bin o p q, 0 :: r, h => by
    obtain ⟨a, b, c⟩ := put_ok hn hd hc (p := p) (r := r) h.1
    exact ⟨⟨a, h.2⟩, by show (Pat.bin o (p.put r n) q).dep ≤ _; simp only [Pat.dep]; omega, by show (Pat.bin o (p.put r n) q).cnt ≤ _; simp only [Pat.cnt]; omega⟩
  | .bin o p q, (k + 1) :: r, h => by
    obtain ⟨a, b, c⟩ := put_ok hn hd hc (p := q) (r := r) h.2
    exact ⟨⟨h.1, a⟩, by show (Pat.bin o p (q.put r n)).dep ≤ _; simp only [Pat.dep]; omega, by show (Pat.bin o p (q.put r n)).cnt ≤ _; simp only [Pat.cnt]; omega⟩
  | .all, r, h => leaf_ok hn hd hc (Nat.le_refl _) h
  | .none, r, h => leaf_ok hn hd hc (Nat.le_refl _) h
  | .lamp k, r, h => leaf_ok hn hd hc (Nat.le_refl _) h
  | .dot k u, r, h => leaf_ok hn hd hc (Nat.le_refl _) h
  | .comb e x, r, h => leaf_ok hn hd hc (Nat.le_refl _) h
  | .beat e x, r, h => leaf_ok hn hd hc (Nat.le_refl _) h
def xD (x : List Nat × Pat) : D := .tup [.tup (natD x.1), x.2.d]
def pushD (k : Int) : D → D
  | .tup [.tup ps, q] => .tup [.tup (.int k :: ps), q]
  | d => d
theorem push_xD {k : Nat} {l : List (List Nat × Pat)} : (l.map xD).map (pushD k) = (l.map (pushP k)).map xD := by
  rw [List.map_map, List.map_map]; rfl
section
variable {P : Program} {w : World} {K : PySem.W.Frag} {mg : Str → Option Value} {base : Heap} (M : Mod K mg)
include M
def S_paths_of (N : Nat) : SpD := fun ds m Q _ => ∃ p : Pat, ds = [p.d] ∧ p.dep < N ∧ p.dep ≤ 20 ∧ p.cnt ≤ 1000 ∧ Q (.lst (p.paths.map xD)) m
section
local macro_rules | `(tactic| wtm_at "nm") => `(tactic| first
  | ((with_reducible show AM.CE _ (Expr.Name (Str.ofString "pattern") _) _ _ _ _); refine AM.W.nm (i := 0) rfl rfl (by wtm_at "vis") ?_)
  | ((with_reducible show AM.CE _ (Expr.Name (Str.ofString "found") _) _ _ _ _); refine AM.W.nm (i := 1) rfl rfl (by wtm_at "vis") ?_)
  | ((with_reducible show AM.CE _ (Expr.Name (Str.ofString "at") _) _ _ _ _); refine AM.W.nm (i := 2) rfl rfl (by wtm_at "vis") ?_)
  | ((with_reducible show AM.CE _ (Expr.Name (Str.ofString "inner") _) _ _ _ _); refine AM.W.nm (i := 3) rfl rfl (by wtm_at "vis") ?_)
  | ((with_reducible show AM.CE _ (Expr.Name (Str.ofString "path") _) _ _ _ _); refine AM.W.nm (i := 4) rfl rfl (by wtm_at "vis") ?_)
  | ((with_reducible show AM.CE _ (Expr.Name (Str.ofString "one") _) _ _ _ _); refine AM.W.nm (i := 5) rfl rfl (by wtm_at "vis") ?_))
local macro_rules | `(tactic| wtm_at "fn") => `(tactic| first
  | ((with_reducible show AM.CE _ (Expr.Call (Expr.Name (Str.ofString "within") _) _ _ _) _ _ _ _); refine AM.W.call f_within hr (by first | decide | omega) ?_)
  | ((with_reducible show AM.CE _ (Expr.Call (Expr.Name (Str.ofString "paths_of") _) _ _ _) _ _ _ _); refine AM.W.call f_paths_of hr (by first | decide | omega) ?_))
local macro_rules | `(tactic| wtm_at "ca") => `(tactic| first
  | ((with_reducible first | show AM.S_within _ _ _ _ | show AM.S_within _ _ _ _ _ | show AM.S_within _ _ _ _ _ _); first | refine AM.S_within.mk ?_ | refine AM.S_within.mk M ?_)
  | ((with_reducible first | show AM.S_paths_of _ _ _ _ | show AM.S_paths_of _ _ _ _ _ | show AM.S_paths_of _ _ _ _ _ _); first | refine AM.S_paths_of.mk ?_ | refine AM.S_paths_of.mk M ?_))
local macro_rules | `(tactic| wtm_at "as") => `(tactic| first
  | ((with_reducible show AM.CS _ (Stmt.Assign [Expr.Name (Str.ofString "found") _] (Expr.ListComp _ _ _ _) _) _ _ _); refine AM.CS.set (i := 1) rfl (by wtm_at "loc") ?_ sc_paths_of.nd (.inl rfl); wtm_at "lcL")
  | ((with_reducible show AM.CS _ (Stmt.Assign [Expr.Name (Str.ofString "found") _] (Expr.List _ _) _) _ _ _); refine AM.CS.set (i := 1) rfl (by wtm_at "loc") ?_ sc_paths_of.nd (.inl rfl); refine AM.CE.newl ?_)
  | ((with_reducible show AM.CS _ (Stmt.Assign [Expr.Name (Str.ofString "found") _] _ _) _ _ _); refine AM.CS.set (i := 1) rfl (by wtm_at "loc") ?_ sc_paths_of.nd (.inl rfl)))
local macro_rules | `(tactic| wtm_at "rz") => `(tactic| first
  | ((with_reducible show AM.CS _ (Stmt.Return (some (Expr.Name (Str.ofString "found") _)) _) _ _ _); refine AM.CS.ret (AM.W.fz ?_)))
local macro_rules | `(tactic| wtm_at "nb") => `(tactic| first
  | exact M.NB_enumerate)
local macro_rules | `(tactic| wtm_at "lc") => `(tactic| first
  | ((with_reducible show AM.CE _ (Expr.ListComp _ [⟨Expr.Tuple [Expr.Name (Str.ofString "path") _, Expr.Name (Str.ofString "one") _] _ _, _, _, 0⟩] _ _) _ _ _ _); refine AM.CE.lc (own := [("path", 4), ("one", 5)]) rfl sc_paths_of.nd (L2.blkOk_by (own := [("path", 4), ("one", 5)]) (N := ["pattern", "found", "at", "inner", "path", "one"]) (sc := defScope s_paths_of) (by decide +kernel)) (AM.CGB.pair rfl rfl rfl (by decide) sc_paths_of.nd (fun _ _ _ _ _ => ⟨by wtm_at "loc", by wtm_at "loc"⟩) (fun _ _ _ _ _ => by first | exact .inr rfl | exact .inl rfl) (fun _ _ _ _ _ => by first | exact .inr rfl | exact .inl rfl)) ?_))
local macro_rules | `(tactic| wtm_at "lcL") => `(tactic| first
  | ((with_reducible show AM.CE _ (Expr.ListComp _ [⟨Expr.Tuple [Expr.Name (Str.ofString "path") _, Expr.Name (Str.ofString "one") _] _ _, _, _, 0⟩] _ _) _ _ _ _); refine AM.CE.lcL (own := [("path", 4), ("one", 5)]) rfl sc_paths_of.nd (L2.blkOk_by (own := [("path", 4), ("one", 5)]) (N := ["pattern", "found", "at", "inner", "path", "one"]) (sc := defScope s_paths_of) (by decide +kernel)) (AM.CGB.pair rfl rfl rfl (by decide) sc_paths_of.nd (fun _ _ _ _ _ => ⟨by wtm_at "loc", by wtm_at "loc"⟩) (fun _ _ _ _ _ => by first | exact .inr rfl | exact .inl rfl) (fun _ _ _ _ _ => by first | exact .inr rfl | exact .inl rfl)) ?_))
local macro_rules | `(tactic| wtm_at "fo") => `(tactic| first
  | ((with_reducible show AM.CS _ (Stmt.For (Expr.Tuple [Expr.Name (Str.ofString "at") _, Expr.Name (Str.ofString "inner") _] _ _) _ _ _ _) _ _ _); refine AM.S.for rfl (AM.CG.pair (i := 2) (j := 3) rfl rfl (by wtm_at "loc") rfl (by wtm_at "loc") sc_paths_of.nd (.inl rfl) (.inl rfl)) ?_))
local macro_rules | `(tactic| wtm_at "fc") => `(tactic| first
  | exact M.f_Lights_own_shape
  | exact M.f_Lights_own_pattern
  | exact M.f_Moment_way_round
  | exact M.f_Moment_is_chain
  | exact M.f_Moment_many
  | exact M.f_Moment_now
  | exact M.f_Plainly_own_shape
  | exact M.f_Plainly_own_pattern)
theorem b_paths_of : ∀ N, FnG P w K mg base "paths_of" (2 + N) (S_paths_of N) := fun N => by
  induction N with
  | zero => exact gD (k := 1) M.D_paths_of sc_paths_of (fun ds m Q E ⟨_, _, h, _⟩ => absurd h (Nat.not_lt_zero _)) fun f cdv A outer s0 H E hr ds m Q Ex ⟨_, _, h, _⟩ => absurd h (Nat.not_lt_zero _)
  | succ N ih =>
    refine gD (k := 2 + N) M.D_paths_of sc_paths_of (fun ds m Q E ⟨_, h, _⟩ => by rw [h]; rfl) fun f cdv A outer s0 H E hr ds m Q Ex ⟨p, h, hd, hd2, hcn, q⟩ => ?_
    subst h
    have f_paths_of := ih
    have f_within := (b_within (P := P) (w := w) (base := base) M)
    have hcase : (∃ p1, p = .not p1) ∨ (∃ o p1 p2, p = .bin o p1 p2) ∨ (p.kids = [] ∧ p.paths = [([], p)]) := by
      cases p with
      | not p1 => exact .inl ⟨p1, rfl⟩
      | bin o p1 p2 => exact .inr (.inl ⟨o, p1, p2, rfl⟩)
      | all => exact .inr (.inr ⟨rfl, rfl⟩)
      | none => exact .inr (.inr ⟨rfl, rfl⟩)
      | lamp k => exact .inr (.inr ⟨rfl, rfl⟩)
      | dot k u => exact .inr (.inr ⟨rfl, rfl⟩)
      | comb e r => exact .inr (.inr ⟨rfl, rfl⟩)
      | beat e r => exact .inr (.inr ⟨rfl, rfl⟩)
    rcases hcase with ⟨p, rfl⟩ | ⟨o, p, p2, rfl⟩ | ⟨hk, hpp⟩
    case inl =>
      simp only [Pat.dep] at hd hd2
      simp only [Pat.cnt] at hcn
      have hl := paths_len p
      wtm_at "go"
      intro a ha
      wtm_at "go"
      refine ForD.run ⟨_, rfl, ?_⟩
      wtm_at "go"
      refine ⟨p, rfl, by omega, by omega, by omega, ?_⟩
      wtm_at "go"
      refine LcD.map1 (pushD 0) (by rw [List.length_map]; omega) (fun d acc L hd hL => by
        obtain ⟨x, hx, rfl⟩ := List.mem_map.mp hd
        have hlen : (natD x.1).length ≤ 20 := by rw [natD_len]; have := (paths_has hx).2.1; omega
        have he : D.tup [D.tup (D.int 0 :: natD x.1), x.2.d] = pushD 0 (xD x) := rfl
        refine ⟨_, rfl, fun s2 H2 C cl fp => ?_⟩
        wtm_at "go"
        all_goals first | exact ⟨he, rfl⟩ | exact ⟨rfl, rfl⟩ | exact rfl) ?_
      have hl2 : ((p.paths.map xD).map (pushD 0)).length ≤ 1000 := by rw [List.length_map, List.length_map]; omega
      wtm_at "go"
      show CSs _ _ _ _ _
      wtm_at "go"
      refine toQ q ?_ ?_
      · show D.lst (_ :: List.map (pushD ((0 : Nat) : Int)) _) = _
        rw [push_xD]; rfl
      · rw [Mu.set_set]; exact Mu.del_set ha
    case inr.inl =>
      simp only [Pat.dep] at hd hd2
      simp only [Pat.cnt] at hcn
      have hl := paths_len p
      have hl2 := paths_len p2
      wtm_at "go"
      intro a ha
      wtm_at "go"
      refine ForD.run ⟨_, rfl, ?_⟩
      wtm_at "go"
      refine ⟨p, rfl, by omega, by omega, by omega, ?_⟩
      wtm_at "go"
      refine LcD.map1 (pushD 0) (by rw [List.length_map]; omega) (fun d acc L hd hL => by
        obtain ⟨x, hx, rfl⟩ := List.mem_map.mp hd
        have hlen : (natD x.1).length ≤ 20 := by rw [natD_len]; have := (paths_has hx).2.1; omega
        have he : D.tup [D.tup (D.int 0 :: natD x.1), x.2.d] = pushD 0 (xD x) := rfl
        refine ⟨_, rfl, fun s2 H2 C cl fp => ?_⟩
        wtm_at "go"
        all_goals first | exact ⟨he, rfl⟩ | exact ⟨rfl, rfl⟩ | exact rfl) ?_
      have hl3 : ((p.paths.map xD).map (pushD 0)).length ≤ 1000 := by rw [List.length_map, List.length_map]; omega
      wtm_at "go"
      refine ⟨_, rfl, ?_⟩
      wtm_at "go"
      refine ⟨p2, rfl, by omega, by omega, by omega, ?_⟩
      wtm_at "go"
      refine LcD.map1 (pushD 1) (by rw [List.length_map]; omega) (fun d acc L hd hL => by
        obtain ⟨x, hx, rfl⟩ := List.mem_map.mp hd
        have hlen : (natD x.1).length ≤ 20 := by rw [natD_len]; have := (paths_has hx).2.1; omega
        have he : D.tup [D.tup (D.int 1 :: natD x.1), x.2.d] = pushD 1 (xD x) := rfl
        refine ⟨_, rfl, fun s2 H2 C cl fp => ?_⟩
        wtm_at "go"
        all_goals first | exact ⟨he, rfl⟩ | exact ⟨rfl, rfl⟩ | exact rfl) ?_
      have hl4 : ((p2.paths.map xD).map (pushD 1)).length ≤ 1000 := by rw [List.length_map, List.length_map]; omega
      wtm_at "go"
      show CSs _ _ _ _ _
      wtm_at "go"
      refine toQ q ?_ ?_
      · show D.lst ((_ :: List.map (pushD ((0 : Nat) : Int)) _) ++ List.map (pushD ((1 : Nat) : Int)) _) = _
        rw [push_xD, push_xD]
        show _ = D.lst (_ :: List.map xD (_ ++ _))
        rw [List.map_append]; rfl
      · simp only [Mu.set_set]; exact Mu.del_set ha
    case inr.inr =>
      wtm_at "go"
      intro a ha
      wtm_at "go"
      rw [hk]
      refine ForD.run (ds := []) ?_
      show CSs _ _ _ _ _
      wtm_at "go"
      refine toQ q (by rw [hpp]; rfl) (Mu.del_set ha)
end
def S_put_at (N : Nat) : SpD := fun ds m Q _ => ∃ (p : Pat) (r : List Nat) (n : Pat), ds = [p.d, .tup (natD r), n.d] ∧ p.has r = true ∧ p.dep < N ∧ p.dep ≤ 20 ∧ Q (p.put r n).d m
section
local macro_rules | `(tactic| wtm_at "nm") => `(tactic| first
  | ((with_reducible show AM.CE _ (Expr.Name (Str.ofString "pattern") _) _ _ _ _); refine AM.W.nm (i := 0) rfl rfl (by wtm_at "vis") ?_)
  | ((with_reducible show AM.CE _ (Expr.Name (Str.ofString "path") _) _ _ _ _); refine AM.W.nm (i := 1) rfl rfl (by wtm_at "vis") ?_)
  | ((with_reducible show AM.CE _ (Expr.Name (Str.ofString "new") _) _ _ _ _); refine AM.W.nm (i := 2) rfl rfl (by wtm_at "vis") ?_)
  | ((with_reducible show AM.CE _ (Expr.Name (Str.ofString "at") _) _ _ _ _); refine AM.W.nm (i := 3) rfl rfl (by wtm_at "vis") ?_))
local macro_rules | `(tactic| wtm_at "fn") => `(tactic| first
  | ((with_reducible show AM.CE _ (Expr.Call (Expr.Name (Str.ofString "put_at") _) _ _ _) _ _ _ _); refine AM.W.call f_put_at hr (by first | decide | omega) ?_))
local macro_rules | `(tactic| wtm_at "ca") => `(tactic| first
  | ((with_reducible first | show AM.S_put_at _ _ _ _ | show AM.S_put_at _ _ _ _ _ | show AM.S_put_at _ _ _ _ _ _); first | refine AM.S_put_at.mk ?_ | refine AM.S_put_at.mk M ?_))
local macro_rules | `(tactic| wtm_at "as") => `(tactic| first
  | ((with_reducible show AM.CS _ (Stmt.Assign [Expr.Name (Str.ofString "at") _] _ _) _ _ _); refine AM.CS.set (i := 3) rfl (by wtm_at "loc") ?_ sc_put_at.nd (.inl rfl)))
local macro_rules | `(tactic| wtm_at "fc") => `(tactic| first
  | exact M.f_Lights_own_shape
  | exact M.f_Lights_own_pattern
  | exact M.f_Moment_way_round
  | exact M.f_Moment_is_chain
  | exact M.f_Moment_many
  | exact M.f_Moment_now
  | exact M.f_Plainly_own_shape
  | exact M.f_Plainly_own_pattern)
theorem b_put_at : ∀ N, FnG P w K mg base "put_at" (1 + N) (S_put_at N) := fun N => by
  induction N with
  | zero => exact gD (k := 0) M.D_put_at sc_put_at (fun ds m Q E ⟨_, _, _, _, _, h, _⟩ => absurd h (Nat.not_lt_zero _)) fun f cdv A outer s0 H E hr ds m Q Ex ⟨_, _, _, _, _, h, _⟩ => absurd h (Nat.not_lt_zero _)
  | succ N ih =>
    refine gD (k := 1 + N) M.D_put_at sc_put_at (fun ds m Q E ⟨_, _, _, h, _⟩ => by rw [h]; rfl) fun f cdv A outer s0 H E hr ds m Q Ex ⟨p, r, n, h, hh, hd, hd2, q⟩ => ?_
    subst h
    have f_put_at := ih
    have tpy : ∀ r : List Nat, (D.tup (natD r)).isPy = true := fun r => by unfold D.isPy; exact natD_py
    have tdp : ∀ r : List Nat, (D.tup (natD r)).py.depth ≤ 64 := fun r => by
      have := natD_depth (l := r)
      simp [D.py, PyData.depth]; omega
    cases r with
    | nil =>
      have q2 : Q n.d m := by
        cases p <;> exact q
      wtm_at "go"
      exact q2
    | cons k r =>
      have hne : ∀ {R : Bool → Prop}, R false → aEq (.tup (natD (k :: r))) (.tup []) R := fun z => aEq.py (tpy _) (tpy []) (tdp _) (tdp []) z
      cases p with
      | not p =>
        simp only [Pat.dep] at hd hd2
        have hk : k = 0 ∧ p.has r = true := by
          cases k with
          | zero => exact ⟨rfl, hh⟩
          | succ k => cases hh
        obtain ⟨rfl, hh⟩ := hk
        have c1 : cutD [.str "not", p.d] none (some (((0 : Nat) : Int) + 1)) = [.str "not"] := rfl
        have c2 : cutD [.str "not", p.d] (some (((0 : Nat) : Int) + 1 + 1)) none = [] := rfl
        show CSs _ _ (startD _ [.tup [.str "not", p.d], .tup (.int ((0 : Nat) : Int) :: natD r), n.d]) _ _
        wtm_at "go"
        refine hne ?_
        wtm_at "go"
        rw [cutD_tail]
        refine ⟨p, r, n, rfl, hh, by omega, by omega, ?_⟩
        wtm_at "go"
        simp only [c1, c2]
        try (refine ⟨by show 2 ≤ 1000; omega, ?_⟩)
        exact q
      | bin o p p2 =>
        simp only [Pat.dep] at hd hd2
        have hk : (k = 0 ∧ p.has r = true) ∨ (k = 1 ∧ p2.has r = true) := by
          match k, hh with
          | 0, hh => exact .inl ⟨rfl, hh⟩
          | 1, hh => exact .inr ⟨rfl, hh⟩
          | k + 2, hh => cases hh
        rcases hk with ⟨rfl, hh⟩ | ⟨rfl, hh⟩
        · have c1 : cutD [.str o.s, p.d, p2.d] none (some (((0 : Nat) : Int) + 1)) = [.str o.s] := rfl
          have c2 : cutD [.str o.s, p.d, p2.d] (some (((0 : Nat) : Int) + 1 + 1)) none = [p2.d] := rfl
          show CSs _ _ (startD _ [.tup [.str o.s, p.d, p2.d], .tup (.int ((0 : Nat) : Int) :: natD r), n.d]) _ _
          wtm_at "go"
          refine hne ?_
          wtm_at "go"
          rw [cutD_tail]
          refine ⟨p, r, n, rfl, hh, by omega, by omega, ?_⟩
          wtm_at "go"
          simp only [c1, c2]
          try (refine ⟨by show 3 ≤ 1000; omega, ?_⟩)
          exact q
        · have c1 : cutD [.str o.s, p.d, p2.d] none (some (((1 : Nat) : Int) + 1)) = [.str o.s, p.d] := rfl
          have c2 : cutD [.str o.s, p.d, p2.d] (some (((1 : Nat) : Int) + 1 + 1)) none = [] := rfl
          show CSs _ _ (startD _ [.tup [.str o.s, p.d, p2.d], .tup (.int ((1 : Nat) : Int) :: natD r), n.d]) _ _
          wtm_at "go"
          refine hne ?_
          wtm_at "go"
          rw [cutD_tail]
          refine ⟨p2, r, n, rfl, hh, by omega, by omega, ?_⟩
          wtm_at "go"
          simp only [c1, c2]
          try (refine ⟨by show 3 ≤ 1000; omega, ?_⟩)
          exact q
      | all => cases hh
      | none => cases hh
      | lamp k => cases hh
      | dot k u => cases hh
      | comb e x => cases hh
      | beat e x => cases hh
end
omit M in
def spW (rg : Bool) (p : Pat) (x : List Nat × Pat) (w : Pat) (ws : Str) : List D := if x.2 = w then [] else if (prt rg p (p.put x.1 w)).isNon = true then [.tup [.tup (natD x.1), .str ws]] else []
omit M in
def spX (rg : Bool) (p : Pat) (x : List Nat × Pat) : List D := spW rg p x .all "all" ++ spW rg p x .none "none"
omit M in
def spL (rg : Bool) (p : Pat) (l : List (List Nat × Pat)) : List D := (l.map (spX rg p)).flatten
omit M in
theorem spL_mem {rg : Bool} {p : Pat} {l : List (List Nat × Pat)} {d : D} (h : d ∈ spL rg p l) : ∃ r s, d = .tup [.tup (natD r), .str s] ∧ (s = "all" ∨ s = "none") := by
  have hW : ∀ x w s, d ∈ spW rg p x w s → d = .tup [.tup (natD x.1), .str s] := fun x w s hd => by
    unfold spW at hd
    split at hd
    · cases hd
    · split at hd
      · exact List.mem_singleton.mp hd
      · cases hd
  obtain ⟨z, hz, hd⟩ := List.mem_flatten.mp h
  obtain ⟨x, hx, rfl⟩ := List.mem_map.mp hz
  rcases List.mem_append.mp hd with hd | hd
  · exact ⟨x.1, _, hW _ _ _ hd, .inl rfl⟩
  · exact ⟨x.1, _, hW _ _ _ hd, .inr rfl⟩
omit M in
theorem nat_ints {r : List Nat} : D.pys (natD r) = (r.map fun (i : Nat) => (i : Int)).map PyData.int := by
  induction r with
  | nil => rfl
  | cons a r ih => show PyData.int a :: D.pys (natD r) = _; rw [ih]; rfl
omit M in
theorem spL_alike {rg : Bool} {p : Pat} {l : List (List Nat × Pat)} : PySem.W.AllAlike ((spL rg p l).map D.py) := by
  intro d hd d' hd'
  obtain ⟨e, he, rfl⟩ := List.mem_map.mp hd
  obtain ⟨e', he', rfl⟩ := List.mem_map.mp hd'
  obtain ⟨r, s, rfl, _⟩ := spL_mem he
  obtain ⟨r', s', rfl, _⟩ := spL_mem he'
  have h := PySem.W.alike_ints (r.map fun (i : Nat) => (i : Int)) (r'.map fun (i : Nat) => (i : Int))
  rw [← nat_ints, ← nat_ints] at h
  simp [D.py, D.pys, PySem.W.alike, PySem.W.alikeAll, h]
omit M in
theorem spL_sortable {rg : Bool} {p : Pat} {l : List (List Nat × Pat)} : PySem.W.Sortable ((spL rg p l).map D.py) := .inl fun d hd => by
  obtain ⟨e, he, rfl⟩ := List.mem_map.mp hd
  obtain ⟨r, s, rfl, _⟩ := spL_mem he
  exact ⟨_, _, by simp [D.py, D.pys]; exact ⟨rfl, rfl⟩⟩
def S_spare : SpD := fun ds m Q _ => ∃ L rg p, ds = [L] ∧ LtD (K := K) L rg p ∧ p.dep < 7 ∧ p.cnt ≤ 15 ∧ p.ok ∧ Q (.lst (sortD (spL rg p p.paths))) m
section
local macro_rules | `(tactic| wtm_at "nm") => `(tactic| first
  | ((with_reducible show AM.CE _ (Expr.Name (Str.ofString "lights") _) _ _ _ _); refine AM.W.nm (i := 0) rfl rfl (by wtm_at "vis") ?_)
  | ((with_reducible show AM.CE _ (Expr.Name (Str.ofString "found") _) _ _ _ _); refine AM.W.nm (i := 1) rfl rfl (by wtm_at "vis") ?_)
  | ((with_reducible show AM.CE _ (Expr.Name (Str.ofString "path") _) _ _ _ _); refine AM.W.nm (i := 2) rfl rfl (by wtm_at "vis") ?_)
  | ((with_reducible show AM.CE _ (Expr.Name (Str.ofString "pattern") _) _ _ _ _); refine AM.W.nm (i := 3) rfl rfl (by wtm_at "vis") ?_)
  | ((with_reducible show AM.CE _ (Expr.Name (Str.ofString "word") _) _ _ _ _); refine AM.W.nm (i := 4) rfl rfl (by wtm_at "vis") ?_)
  | ((with_reducible show AM.CE _ (Expr.Name (Str.ofString "other") _) _ _ _ _); refine AM.W.nm (i := 5) rfl rfl (by wtm_at "vis") ?_))
local macro_rules | `(tactic| wtm_at "fn") => `(tactic| first
  | ((with_reducible show AM.CE _ (Expr.Call (Expr.Name (Str.ofString "paths_of") _) _ _ _) _ _ _ _); refine AM.W.call f_paths_of hr (by first | decide | omega) ?_)
  | ((with_reducible show AM.CE _ (Expr.Call (Expr.Name (Str.ofString "put_at") _) _ _ _) _ _ _ _); refine AM.W.call f_put_at hr (by first | decide | omega) ?_)
  | ((with_reducible show AM.CE _ (Expr.Call (Expr.Name (Str.ofString "alike") _) _ _ _) _ _ _ _); refine AM.W.call f_alike hr (by first | decide | omega) ?_)
  | ((with_reducible show AM.CE _ (Expr.Call (Expr.Name (Str.ofString "Lights") _) _ _ _) _ _ _ _); refine AM.W.makeX f_Lights hr (by first | decide | omega) ?_))
local macro_rules | `(tactic| wtm_at "ca") => `(tactic| first
  | ((with_reducible first | show AM.S_paths_of _ _ _ _ | show AM.S_paths_of _ _ _ _ _ | show AM.S_paths_of _ _ _ _ _ _); first | refine AM.S_paths_of.mk ?_ | refine AM.S_paths_of.mk M ?_)
  | ((with_reducible first | show AM.S_put_at _ _ _ _ | show AM.S_put_at _ _ _ _ _ | show AM.S_put_at _ _ _ _ _ _); first | refine AM.S_put_at.mk ?_ | refine AM.S_put_at.mk M ?_)
  | ((with_reducible first | show AM.S_alike _ _ _ _ | show AM.S_alike _ _ _ _ _ | show AM.S_alike _ _ _ _ _ _); first | refine AM.S_alike.mk ?_ | refine AM.S_alike.mk M ?_))
local macro_rules | `(tactic| wtm_at "as") => `(tactic| first
  | ((with_reducible show AM.CS _ (Stmt.Assign [Expr.Name (Str.ofString "found") _] (Expr.ListComp _ _ _ _) _) _ _ _); refine AM.CS.set (i := 1) rfl (by wtm_at "loc") ?_ sc_spare.nd (.inl rfl); wtm_at "lcL")
  | ((with_reducible show AM.CS _ (Stmt.Assign [Expr.Name (Str.ofString "found") _] (Expr.List _ _) _) _ _ _); refine AM.CS.set (i := 1) rfl (by wtm_at "loc") ?_ sc_spare.nd (.inl rfl); refine AM.CE.newl ?_)
  | ((with_reducible show AM.CS _ (Stmt.Assign [Expr.Name (Str.ofString "found") _] _ _) _ _ _); refine AM.CS.set (i := 1) rfl (by wtm_at "loc") ?_ sc_spare.nd (.inl rfl))
  | ((with_reducible show AM.CS _ (Stmt.Assign [Expr.Name (Str.ofString "other") _] _ _) _ _ _); refine AM.CS.set (i := 5) rfl (by wtm_at "loc") ?_ sc_spare.nd (.inl rfl)))
local macro_rules | `(tactic| wtm_at "rz") => `(tactic| first
  | ((with_reducible show AM.CS _ (Stmt.Return (some (Expr.Name (Str.ofString "found") _)) _) _ _ _); refine AM.CS.ret (AM.W.fz ?_)))
local macro_rules | `(tactic| wtm_at "ti") => `(tactic| first
  | ((with_reducible show AM.CI _ _ (Expr.Tuple _ _ _) _ _ _ _); refine AM.I.tup ?_))
local macro_rules | `(tactic| wtm_at "fo") => `(tactic| first
  | ((with_reducible show AM.CS _ (Stmt.For (Expr.Tuple [Expr.Name (Str.ofString "path") _, Expr.Name (Str.ofString "pattern") _] _ _) _ _ _ _) _ _ _); refine AM.S.for rfl (AM.CG.pair (i := 2) (j := 3) rfl rfl (by wtm_at "loc") rfl (by wtm_at "loc") sc_spare.nd (.inl rfl) (.inl rfl)) ?_)
  | ((with_reducible show AM.CS _ (Stmt.For (Expr.Name (Str.ofString "word") _) _ _ _ _) _ _ _); refine AM.S.for rfl (AM.CG.name (i := 4) rfl (by wtm_at "loc") sc_spare.nd (.inl rfl)) ?_))
local macro_rules | `(tactic| wtm_at "fc") => `(tactic| first
  | exact M.f_Lights_own_shape
  | exact M.f_Lights_own_pattern
  | exact M.f_Moment_way_round
  | exact M.f_Moment_is_chain
  | exact M.f_Moment_many
  | exact M.f_Moment_now
  | exact M.f_Plainly_own_shape
  | exact M.f_Plainly_own_pattern)
theorem b_spare : FnG P w K mg base "spare" 20 (S_spare (K := K)) :=
  gD M.D_spare sc_spare (fun ds m Q E ⟨_, _, _, h, _⟩ => by rw [h]; rfl) fun f cdv A outer s0 H E hr ds m Q Ex ⟨L, rg, p, h, hL, hd, hcn, ho, q⟩ => by
    subst h
    have f_paths_of := b_paths_of (P := P) (w := w) (base := base) M 7
    have f_put_at := b_put_at (P := P) (w := w) (base := base) M 7
    have f_Lights := b_Lights (P := P) (w := w) (base := base) M
    have f_alike := b_alike (P := P) (w := w) (base := base) M
    obtain ⟨C, hC, g1, g2⟩ := hL
    have hL : LtD (K := K) L rg p := ⟨C, hC, g1, g2⟩
    subst hC
    have pp := Pat.depth_py p
    wtm_at "go"
    intro a ha
    wtm_at "go"
    refine ⟨p, rfl, by omega, by omega, by omega, ?_⟩
    wtm_at "go"
    refine ForD.inv (fun i Δ' m' => ∃ x2 x3 x4 x5, Δ' = [some (D.ins C [("own_shape", .str (shp rg)), ("own_pattern", p.d)]), some (.loc a), x2, x3, x4, x5] ∧ m' = m.set a (.l (spL rg p (p.paths.take i)))) ⟨_, _, _, _, rfl, rfl⟩ (fun i d Δ' m' hd2 ⟨x2, x3, x4, x5, hx, hm⟩ => ?_) (fun Δ' m' ⟨x2, x3, x4, x5, hx, hm⟩ => ?_)
    · obtain ⟨x, hk, rfl⟩ := map_get hd2
      subst hx; subst hm
      have hmem := List.mem_of_getElem? hk
      obtain ⟨b1, b2, b3⟩ := paths_has hmem
      have hlen : (p.paths.take i).length ≤ 15 := by rw [List.length_take, paths_len]; omega
      have hsp : spL rg p (p.paths.take (i + 1)) = spL rg p (p.paths.take i) ++ (spW rg p x .all "all" ++ spW rg p x .none "none") := by
        unfold spL
        rw [List.take_succ, hk]
        simp [spX]
      have hw : ∀ w s, (spW rg p x w s).length ≤ 1 := fun w s => by
        unfold spW
        split
        · exact Nat.zero_le _
        · split
          · exact Nat.le_refl _
          · exact Nat.zero_le _
      have hac : (spL rg p (p.paths.take i)).length ≤ 1000 := by
        have : ∀ l : List (List Nat × Pat), (spL rg p l).length ≤ 2 * l.length := fun l => by
          induction l with
          | nil => exact Nat.le_refl _
          | cons y r ih =>
            have e : spL rg p (y :: r) = (spW rg p y .all "all" ++ spW rg p y .none "none") ++ spL rg p r := rfl
            have hw2 : ∀ w s, (spW rg p y w s).length ≤ 1 := fun w s => by
              unfold spW
              split
              · exact Nat.zero_le _
              · split
                · exact Nat.le_refl _
                · exact Nat.zero_le _
            have h1 := hw2 .all "all"
            have h2 := hw2 .none "none"
            rw [e, List.length_append, List.length_append, List.length_cons]
            omega
        have := this (p.paths.take i)
        omega
      rw [hsp]
      generalize spL rg p (p.paths.take i) = acc at hac ⊢
      refine ⟨_, rfl, ?_⟩
      wtm_at "go"
      refine ForD.run ⟨_, rfl, ?_⟩
      wtm_at "go"
      refine ⟨p, x.1, Pat.all, rfl, b1, by omega, by omega, ?_⟩
      wtm_at "go"
      intro b hb
      have okall := put_ok (n := .all) trivial rfl rfl (p := p) (r := x.1) ho
      refine S_Lights.mk M ⟨Mu.set_same, by cases rg <;> rfl, okall.1, by omega, by omega, rfl, aFrz.mk Mu.set_same ?_⟩
      simp only [Mu.set_set]
      rw [Mu.del_set hb]
      have hLall := ltd_lit M (rg := rg) (p := p.put x.1 .all)
      unfold lit at hLall
      generalize D.ins M.A_Lights [("own_shape", .str (shp rg)), ("own_pattern", (p.put x.1 .all).d)] = LTall at hLall ⊢
      show CSs _ _ _ _ _
      refine CSs.mid (fun Δ' m' => Δ' = [some (D.ins C [("own_shape", .str (shp rg)), ("own_pattern", p.d)]), some (.loc a), some (.tup (natD x.1)), some x.2.d, some (.str "all"), some LTall] ∧ m' = m.set a (.l (acc ++ spW rg p x .all "all"))) ?_ (fun Δ' m' ⟨hx, hm⟩ => ?_)
      · wtm_at "go"
        have px := Pat.depth_py x.2
        refine aEq.py (pat_isPy x.2) (pat_isPy .all) (by omega) (by decide +kernel) ?_
        have e0 : PyData.eqv x.2.d.py (D.tup [.str "all"]).py = decide (x.2 = .all) := pat_eqv x.2 .all
        rw [e0]
        by_cases e : x.2 = .all
        · have es : spW rg p x .all "all" = [] := if_pos e
          rw [decide_eq_true e, es, List.append_nil]
          wtm_at "go"
          exact rfl
        · rw [decide_eq_false e]
          wtm_at "go"
          refine ⟨_, LTall, rg, p, p.put x.1 .all, rfl, hL, hLall, by omega, by omega, ho, by omega, by omega, okall.1, ?_⟩
          cases hn : (prt rg p (p.put x.1 .all)).isNon
          · have es : spW rg p x .all "all" = [] := by unfold spW; rw [if_neg e, hn, if_neg (by decide)]
            rw [es, List.append_nil]
            wtm_at "go"
            exact rfl
          · have es : spW rg p x .all "all" = [.tup [.tup (natD x.1), .str "all"]] := by unfold spW; rw [if_neg e, hn, if_pos rfl]
            rw [es]
            wtm_at "go"
            rw [Mu.set_set]
      subst hx; subst hm
      have hwl : acc.length + (spW rg p x Pat.all "all").length ≤ 1000000 := by have := hw .all "all"; omega
      wtm_at "go"
      refine ⟨_, rfl, ?_⟩
      wtm_at "go"
      refine ⟨p, x.1, Pat.none, rfl, b1, by omega, by omega, ?_⟩
      wtm_at "go"
      intro b hb
      have oknone := put_ok (n := .none) trivial rfl rfl (p := p) (r := x.1) ho
      refine S_Lights.mk M ⟨Mu.set_same, by cases rg <;> rfl, oknone.1, by omega, by omega, rfl, aFrz.mk Mu.set_same ?_⟩
      simp only [Mu.set_set]
      rw [Mu.del_set hb]
      have hLnone := ltd_lit M (rg := rg) (p := p.put x.1 .none)
      unfold lit at hLnone
      generalize D.ins M.A_Lights [("own_shape", .str (shp rg)), ("own_pattern", (p.put x.1 .none).d)] = LTnone at hLnone ⊢
      show CSs _ _ _ _ _
      refine CSs.mid (fun Δ' m' => Δ' = [some (D.ins C [("own_shape", .str (shp rg)), ("own_pattern", p.d)]), some (.loc a), some (.tup (natD x.1)), some x.2.d, some (.str "none"), some LTnone] ∧ m' = m.set a (.l ((acc ++ spW rg p x .all "all") ++ spW rg p x .none "none"))) ?_ (fun Δ' m' ⟨hx, hm⟩ => ?_)
      · wtm_at "go"
        have px := Pat.depth_py x.2
        refine aEq.py (pat_isPy x.2) (pat_isPy .none) (by omega) (by decide +kernel) ?_
        have e0 : PyData.eqv x.2.d.py (D.tup [.str "none"]).py = decide (x.2 = .none) := pat_eqv x.2 .none
        rw [e0]
        by_cases e : x.2 = .none
        · have es : spW rg p x .none "none" = [] := if_pos e
          rw [decide_eq_true e, es, List.append_nil]
          wtm_at "go"
          exact rfl
        · rw [decide_eq_false e]
          wtm_at "go"
          refine ⟨_, LTnone, rg, p, p.put x.1 .none, rfl, hL, hLnone, by omega, by omega, ho, by omega, by omega, oknone.1, ?_⟩
          cases hn : (prt rg p (p.put x.1 .none)).isNon
          · have es : spW rg p x .none "none" = [] := by unfold spW; rw [if_neg e, hn, if_neg (by decide)]
            rw [es, List.append_nil]
            wtm_at "go"
            exact rfl
          · have es : spW rg p x .none "none" = [.tup [.tup (natD x.1), .str "none"]] := by unfold spW; rw [if_neg e, hn, if_pos rfl]
            rw [es]
            wtm_at "go"
            rw [Mu.set_set]
      subst hx; subst hm
      wtm_at "go"
      refine ⟨_, _, _, _, rfl, ?_⟩
      rw [List.append_assoc]
    · subst hx; subst hm
      rw [List.length_map, List.take_length]
      refine CSs.one ?_
      refine CS.ret (W.drop ?_)
      refine AM.CE.sortD hr.units M.NB_sorted ?_
      wtm_at "go"
      refine ⟨_, .inr ⟨a, rfl, Mu.set_same⟩, fun d hd => ?_, ?_, ?_, ?_⟩
      · obtain ⟨r, s, rfl, hs⟩ := spL_mem hd
        have h1 := natD_depth (l := r)
        refine ⟨?_, ?_⟩
        · show ((D.tup (natD r)).isPy && (PyData.strOk s && true)) = true
          have h2 : (D.tup (natD r)).isPy = true := by unfold D.isPy; exact natD_py
          rw [h2]
          rcases hs with rfl | rfl <;> decide +kernel
        · simp [D.py, D.pys, PyData.depth, PyData.depthAll]; omega
      · exact spL_alike
      · exact spL_sortable
      · exact ⟨a, toQ q rfl (Mu.del_set ha)⟩
end
end
end
section
/-! long lights are like shorter ones -/
theorem emod_pick {s n : Int} (hn : 0 < n) : 0 ≤ s % n ∧ s % n < n ∧ (-(2 * n) ≤ s → s < -n → s % n = s + 2 * n) ∧ (-n ≤ s → s < 0 → s % n = s + n) ∧ (0 ≤ s → s < n → s % n = s) ∧ (n ≤ s → s < 2 * n → s % n = s - n) := by
  refine ⟨Int.emod_nonneg _ (by omega), Int.emod_lt_of_pos _ hn, fun h1 h2 => ?_, fun h1 h2 => ?_, fun h1 h2 => Int.emod_eq_of_lt h1 h2, fun h1 h2 => ?_⟩
  · have := Int.add_mul_emod_self_left s n 2
    rw [show n * 2 = 2 * n by omega] at this
    rw [← this]; exact Int.emod_eq_of_lt (by omega) (by omega)
  · have := Int.add_mul_emod_self_left s n 1
    rw [Int.mul_one] at this
    rw [← this]; exact Int.emod_eq_of_lt (by omega) (by omega)
  · have := Int.add_mul_emod_self_left s n (-1)
    rw [show n * -1 = -n by omega] at this
    rw [← this, show s + -n = s - n by omega]; exact Int.emod_eq_of_lt (by omega) (by omega)
/-- where a dot stands on a ring, by the phase p -/
def RngD (n p : Int) (k d : Int) (u : Bool) (x : Int) : Prop := 0 ≤ x ∧ x < n ∧ (u = true → x = k + p + d ∨ x = k + p + d - n ∨ x = k + p + d + n) ∧ (u = false → x = k - p - d ∨ x = k - p - d + n ∨ x = k - p - d + 2 * n)
theorem ring_spec {n t : Nat} {k : Int} {u : Bool} {d : Nat} (hn : 10 ≤ n) (hk : plc k) (hd : d ≤ 1) : RngD n (t % n : Nat) k d u (dotAt true n (t + d) k u) := by
  obtain ⟨k1, k2⟩ := hk
  have hp : t % n < n := Nat.mod_lt _ (by omega)
  have ht : (t : Int) = n * (t / n : Nat) + (t % n : Nat) := by exact_mod_cast (Nat.div_add_mod t n).symm
  generalize hq : (((t / n : Nat)) : Int) = q at ht
  generalize hpp : t % n = p at ht hp ⊢
  have hkn : k % n = if k < 0 then k + n else k := by
    obtain ⟨_, _, _, e1, e2, _⟩ := emod_pick (s := k) (n := n) (by omega)
    split
    · exact e1 (by omega) (by omega)
    · exact e2 (by omega) (by omega)
  unfold dotAt
  simp only [if_true]
  cases u
  · simp only [Bool.false_eq_true, if_false]
    have e : (k % n - ((t + d : Nat) : Int)) % n = (k - p - d) % n := by
      have z := Int.add_mul_emod_self_left (k - p - d) (n : Int) ((if k < 0 then 1 else 0) - q)
      rw [← z]; congr 1
      rw [hkn]; push_cast; rw [ht, Int.mul_sub]
      split <;> simp <;> omega
    rw [e]
    obtain ⟨g1, g2, g3, g4, g5, g6⟩ := emod_pick (s := k - p - d) (n := n) (by omega)
    refine ⟨g1, g2, fun z => by first | (cases z; done) | exact z.elim, fun _ => ?_⟩
    by_cases h1 : k - p - d < -(n : Int)
    · exact .inr (.inr (g3 (by omega) h1))
    by_cases h2 : k - p - d < 0
    · exact .inr (.inl (g4 (by omega) h2))
    · exact .inl (g5 (by omega) (by omega))
  · simp only [if_true]
    have e : (k % n + ((t + d : Nat) : Int)) % n = (k + p + d) % n := by
      have z := Int.add_mul_emod_self_left (k + p + d) (n : Int) ((if k < 0 then 1 else 0) + q)
      rw [← z]; congr 1
      rw [hkn]; push_cast; rw [ht, Int.mul_add]
      split <;> simp <;> omega
    rw [e]
    obtain ⟨g1, g2, g3, g4, g5, g6⟩ := emod_pick (s := k + p + d) (n := n) (by omega)
    refine ⟨g1, g2, fun _ => ?_, fun z => by first | (cases z; done) | exact z.elim⟩
    by_cases h1 : k + p + d < 0
    · exact .inr (.inr (g4 (by omega) h1))
    by_cases h2 : k + p + d < n
    · exact .inl (g5 (by omega) h2)
    · exact .inr (.inl (g6 (by omega) (by omega)))
/-- where a dot stands on a chain, by the phase s -/
def ChnD (n s : Int) (k d : Int) (u : Bool) (x : Int) : Prop := ∃ y : Int, 0 ≤ y ∧ y < 2 * (n - 1) ∧ (2 * (n - 1) - y < y → x = 2 * (n - 1) - y) ∧ (¬ 2 * (n - 1) - y < y → x = y) ∧
  (u = true → k < 0 → y = n + k + s + d ∨ y = n + k + s + d - 2 * (n - 1)) ∧ (u = true → 0 ≤ k → y = k + s + d ∨ y = k + s + d - 2 * (n - 1)) ∧
  (u = false → k < 0 → y = s + d - (n + k) ∨ y = s + d - (n + k) + 2 * (n - 1)) ∧ (u = false → 0 ≤ k → y = s + d - k ∨ y = s + d - k + 2 * (n - 1) ∨ y = s + d - k - 2 * (n - 1))
theorem chain_spec {n t : Nat} {k : Int} {u : Bool} {d : Nat} (hn : 10 ≤ n) (hk : plc k) (hd : d ≤ 1) : ChnD n (t % (2 * (n - 1)) : Nat) k d u (dotAt false n (t + d) k u) := by
  obtain ⟨k1, k2⟩ := hk
  obtain ⟨w, hw⟩ : ∃ w : Nat, 2 * (n - 1) = w := ⟨_, rfl⟩
  have hwi : 2 * ((n : Int) - 1) = w := by omega
  have hp : t % w < w := Nat.mod_lt _ (by omega)
  have ht : (t : Int) = w * (t / w : Nat) + (t % w : Nat) := by exact_mod_cast (Nat.div_add_mod t w).symm
  rw [hw]
  generalize hq : (((t / w : Nat)) : Int) = q at ht
  generalize hpp : t % w = s at ht hp ⊢
  have hkn : k % n = if k < 0 then k + n else k := by
    obtain ⟨_, _, _, e1, e2, _⟩ := emod_pick (s := k) (n := n) (by omega)
    split
    · exact e1 (by omega) (by omega)
    · exact e2 (by omega) (by omega)
  rw [dot_phase (by omega), hwi]
  unfold ChnD
  rw [hwi]
  cases u
  · simp only [Bool.false_eq_true, if_false]
    have e : (-(k % n) + ((t + d : Nat) : Int)) % w = (s + d - (if k < 0 then n + k else k)) % w := by
      have z := Int.add_mul_emod_self_left (s + d - (if k < 0 then n + k else k)) (w : Int) q
      rw [← z]; congr 1
      rw [hkn]; push_cast; rw [ht]
      split <;> omega
    rw [e]
    obtain ⟨g1, g2, g3, g4, g5, g6⟩ := emod_pick (s := (s + d - (if k < 0 then n + k else k) : Int)) (n := w) (by omega)
    refine ⟨_, g1, g2, fun h => if_pos h, fun h => if_neg h, fun z => by first | (cases z; done) | exact z.elim, fun z => by first | (cases z; done) | exact z.elim, fun _ h => ?_, fun _ h => ?_⟩
    · rw [if_pos h] at g3 g4 g5 g6 ⊢
      by_cases h2 : (s : Int) + d - (n + k) < 0
      · exact .inr (g4 (by omega) h2)
      · exact .inl (g5 (by omega) (by omega))
    · rw [if_neg (by omega)] at g3 g4 g5 g6 ⊢
      by_cases h2 : (s : Int) + d - k < 0
      · exact .inr (.inl (g4 (by omega) h2))
      by_cases h3 : (s : Int) + d - k < w
      · exact .inl (g5 (by omega) h3)
      · exact .inr (.inr (g6 (by omega) (by omega)))
  · simp only [if_true]
    have e : ((k % n) + ((t + d : Nat) : Int)) % w = ((if k < 0 then n + k else k) + s + d) % w := by
      have z := Int.add_mul_emod_self_left ((if k < 0 then n + k else k) + s + d) (w : Int) q
      rw [← z]; congr 1
      rw [hkn]; push_cast; rw [ht]
      split <;> omega
    rw [e]
    obtain ⟨g1, g2, g3, g4, g5, g6⟩ := emod_pick (s := ((if k < 0 then n + k else k) + s + d : Int)) (n := w) (by omega)
    refine ⟨_, g1, g2, fun h => if_pos h, fun h => if_neg h, fun _ h => ?_, fun _ h => ?_, fun z => by first | (cases z; done) | exact z.elim, fun z => by first | (cases z; done) | exact z.elim⟩
    · rw [if_pos h] at g3 g4 g5 g6 ⊢
      by_cases h3 : (n : Int) + k + s + d < w
      · exact .inl (g5 (by omega) h3)
      · exact .inr (g6 (by omega) (by omega))
    · rw [if_neg (by omega)] at g3 g4 g5 g6 ⊢
      by_cases h3 : (k : Int) + s + d < w
      · exact .inl (g5 (by omega) h3)
      · exact .inr (g6 (by omega) (by omega))
end
section
def lampI (n : Int) (k : Int) : Int := if 0 ≤ k then k else n + k
/-- lamp i of (n, t) and lamp j of (n', t') bear the same, now and at the next time -/
structure SameL (rg : Bool) (m n t n' t' i j : Nat) : Prop where
  c : i % m = j % m
  l : ∀ k : Int, plc k → ((i : Int) = lampI n k ↔ (j : Int) = lampI n' k)
  d : ∀ (k : Int) (u : Bool) (e : Nat), plc k → e ≤ 1 → ((i : Int) = dotAt rg n (t + e) k u ↔ (j : Int) = dotAt rg n' (t' + e) k u)
structure Cfg (rg : Bool) (m n t n' t' : Nat) : Prop where
  r : t % m = t' % m
  f : ∀ i, i < n → ∃ j, j < n' ∧ SameL rg m n t n' t' i j
  b : ∀ j, j < n' → ∃ i, i < n ∧ SameL rg m n t n' t' i j
theorem SameL.trans {rg : Bool} {m n t n' t' n2 t2 i j k : Nat} (a : SameL rg m n t n' t' i j) (b : SameL rg m n' t' n2 t2 j k) : SameL rg m n t n2 t2 i k :=
  ⟨a.c.trans b.c, fun x h => (a.l x h).trans (b.l x h), fun x u e h h2 => (a.d x u e h h2).trans (b.d x u e h h2)⟩
theorem Cfg.trans {rg : Bool} {m n t n' t' n2 t2 : Nat} (a : Cfg rg m n t n' t') (b : Cfg rg m n' t' n2 t2) : Cfg rg m n t n2 t2 := by
  refine ⟨a.r.trans b.r, fun i hi => ?_, fun j hj => ?_⟩
  · obtain ⟨j, hj, h1⟩ := a.f i hi
    obtain ⟨k, hk, h2⟩ := b.f j hj
    exact ⟨k, hk, h1.trans h2⟩
  · obtain ⟨i, hi, h1⟩ := b.b j hj
    obtain ⟨k, hk, h2⟩ := a.b i hi
    exact ⟨k, hk, h2.trans h1⟩
/-- the same length, another time of the same kind -/
theorem Cfg.per {rg : Bool} {m n t : Nat} (hm : 1 ≤ m) (hn : 1 ≤ n) : Cfg rg m n t n (t % perN rg m n) := by
  have hp := perN_pos (rg := rg) hm hn
  have e := Nat.div_add_mod t (perN rg m n)
  have d1 : rndN rg n ∣ perN rg m n := Nat.dvd_lcm_left _ _
  have d2 : m ∣ perN rg m n := Nat.dvd_lcm_right _ _
  generalize hr : t % perN rg m n = r at e
  have d3 : rndN rg n ∣ perN rg m n * (t / perN rg m n) := Nat.dvd_trans d1 (Nat.dvd_mul_right _ _)
  have same : ∀ i, SameL rg m n t n r i i := fun i => ⟨rfl, fun _ _ => Iff.rfl, fun k u e1 _ _ => by
    have : t + e1 = r + e1 + perN rg m n * (t / perN rg m n) := by omega
    rw [this, dot_per hn d3]⟩
  refine ⟨?_, fun i hi => ⟨i, hi, same i⟩, fun i hi => ⟨i, hi, same i⟩⟩
  obtain ⟨c, hc⟩ := Nat.dvd_trans d2 (Nat.dvd_mul_right (perN rg m n) (t / perN rg m n))
  have : t = r + m * c := by omega
  rw [this, Nat.add_mul_mod_self_left]
/-- where a lamp of the shorter lights stood in the longer ones -/
def kap (a b m j : Int) : Int := if j < a then j else if j < b then j + m else j + 2 * m
/-- a lamp that bears no dot and is not near an end -/
def Pln (rg : Bool) (n t : Nat) (x : Int) : Prop := 3 ≤ x ∧ x < n - 3 ∧ ∀ (k : Int) (u : Bool) (e : Nat), plc k → e ≤ 1 → x ≠ dotAt rg n (t + e) k u
theorem kap_inj {a b m i j : Int} (hm : 0 ≤ m) (h : kap a b m i = kap a b m j) : i = j := by
  unfold kap at h
  split at h <;> split at h <;> (try split at h) <;> (try split at h) <;> omega
theorem cut_cfg {rg : Bool} {m n t n' t' : Nat} {a b : Int} (hm : 1 ≤ m) (hr : t % m = t' % m) (hn : 1 ≤ n') (ha : 3 ≤ a)
    (hs : (n : Int) = n' + m ∧ b = n' ∧ a + 3 ≤ n' ∨ (n : Int) = n' + 2 * m ∧ a ≤ b ∧ b + 3 ≤ n')
    (hK : ∀ (k : Int) (u : Bool) (e : Nat), plc k → e ≤ 1 → dotAt rg n (t + e) k u = kap a b m (dotAt rg n' (t' + e) k u))
    (hP : ∀ i : Nat, i < n → (∀ j : Nat, j < n' → kap a b m j ≠ i) → Pln rg n t i ∧ ∃ j : Nat, j < n' ∧ Pln rg n t (kap a b m j) ∧ i % m = j % m) : Cfg rg m n t n' t' := by
  have hlamp : ∀ k : Int, plc k → lampI n k = kap a b m (lampI n' k) := fun k ⟨h1, h2⟩ => by
    unfold lampI kap
    rcases hs with ⟨e1, e2, e3⟩ | ⟨e1, e2, e3⟩
    · by_cases h0 : 0 ≤ k
      · rw [if_pos h0, if_pos h0, if_pos (by omega)]
      · rw [if_neg h0, if_neg h0, if_neg (by omega), if_pos (by omega)]; omega
    · by_cases h0 : 0 ≤ k
      · rw [if_pos h0, if_pos h0, if_pos (by omega)]
      · rw [if_neg h0, if_neg h0, if_neg (by omega), if_neg (by omega)]; omega
  have kmod : ∀ j i : Nat, kap a b m j = i → i % m = j % m := fun j i h => by
    unfold kap at h
    split at h
    · have : i = j := by omega
      rw [this]
    · split at h
      · have : i = j + m := by omega
        rw [this, Nat.add_mod_right]
      · have : i = j + m + m := by omega
        rw [this, Nat.add_mod_right, Nat.add_mod_right]
  have same : ∀ j i : Nat, kap a b m j = i → SameL rg m n t n' t' i j := fun j i h => by
    refine ⟨kmod j i h, fun k hk => ?_, fun k u e hk he => ?_⟩
    · rw [hlamp k hk, ← h]
      exact ⟨fun z => kap_inj (by omega) z, fun z => by rw [z]⟩
    · rw [hK k u e hk he, ← h]
      exact ⟨fun z => kap_inj (by omega) z, fun z => by rw [z]⟩
  have plain : ∀ i j : Nat, Pln rg n t i → Pln rg n t (kap a b m j) → i % m = j % m → SameL rg m n t n' t' i j := fun i j h1 h2 h3 => by
    refine ⟨h3, fun k hk => ?_, fun k u e hk he => ⟨fun z => absurd z (h1.2.2 k u e hk he), fun z => ?_⟩⟩
    · have g1 : ¬ (i : Int) = lampI n k := by
        obtain ⟨h, h', _⟩ := h1
        obtain ⟨k1, k2⟩ := hk
        unfold lampI; split <;> omega
      refine ⟨fun z => absurd z g1, fun z => ?_⟩
      have g2 : ¬ kap a b m j = lampI n k := by
        obtain ⟨h, h', _⟩ := h2
        obtain ⟨k1, k2⟩ := hk
        unfold lampI; split <;> omega
      exact absurd (by rw [z, ← hlamp k hk]) g2
    · exact absurd (by rw [z, ← hK k u e hk he]) (h2.2.2 k u e hk he)
  refine ⟨hr, fun i hi => ?_, fun j hj => ?_⟩
  · by_cases h : ∃ j : Nat, j < n' ∧ kap a b m j = i
    · obtain ⟨j, hj, e⟩ := h
      exact ⟨j, hj, same j i e⟩
    · obtain ⟨g1, j, hj, g2, g3⟩ := hP i hi fun j hj z => h ⟨j, hj, z⟩
      exact ⟨j, hj, plain i j g1 g2 g3⟩
  · have hk : ∃ i : Nat, kap a b m j = i ∧ i < n := by
      have h0 : 0 ≤ kap a b m j ∧ kap a b m j < n := by
        unfold kap
        rcases hs with ⟨e1, e2, e3⟩ | ⟨e1, e2, e3⟩
        · split
          · omega
          · rw [if_pos (by omega)]; omega
        · split
          · omega
          · split <;> omega
      exact ⟨(kap a b m j).toNat, by omega, by omega⟩
    obtain ⟨i, e, hi⟩ := hk
    exact ⟨i, hi, same j i e⟩
end
section
theorem time_mod {m P P' N N' q al mu : Nat} (h1 : P = P' + m * al) (h2 : N = N' + m * mu) : (P + N * q) % m = (P' + N' * q) % m := by
  have : P + N * q = P' + N' * q + m * (al + mu * q) := by
    rw [h1, h2, Nat.add_mul, Nat.mul_add, Nat.mul_assoc]; omega
  rw [this, Nat.add_mul_mod_self_left]
theorem res_ex {m x i : Nat} (hm : 1 ≤ m) : ∃ y, x ≤ y ∧ y < x + m ∧ i % m = y % m := by
  refine ⟨x + (i + (m - x % m)) % m, Nat.le_add_right _ _, Nat.add_lt_add_left (Nat.mod_lt _ hm) _, ?_⟩
  rw [Nat.add_mod, Nat.mod_mod, ← Nat.add_mod]
  have hx := Nat.mod_lt x hm
  have e := Nat.div_add_mod x m
  have : x + (i + (m - x % m)) = i + m * (x / m + 1) := by rw [Nat.mul_add]; omega
  rw [this, Nat.add_mul_mod_self_left]
end
section
section
variable {m n t : Nat}
theorem ring_red1 (hm : m = 1 ∨ m = 2 ∨ m = 3 ∨ m = 6) (hn : 5 * m + 21 < n) (hp : 2 * (t % n) ≤ n) : ∃ n' t', 1 ≤ n' ∧ n' < n ∧ Cfg true m n t n' t' := by
  obtain ⟨p, hpp⟩ : ∃ p, t % (n) = p := ⟨_, rfl⟩
  have ht := Nat.div_add_mod t (n)
  have hpl := Nat.mod_lt t (by omega : 0 < n)
  rw [hpp] at hp ht hpl
  have hm1 : 1 ≤ m := by omega
  clear hm
  obtain ⟨c, hc⟩ : ∃ c : Nat, c = p := ⟨p, by omega⟩
  have zone : ∀ x : Int, 3 ≤ x → x < n - 3 → (x ≤ c - 5 ∨ ((c : Int) + 4 ≤ x ∧ x ≤ n - c - 5) ∨ (n : Int) - c + 4 ≤ x) → Pln true n t x := fun x h1 h2 h3 => by
    refine ⟨h1, h2, fun k u e hk he z => ?_⟩
    have s := ring_spec (t := t) (u := u) (by omega : 10 ≤ n) hk he
    rw [hpp, ← z] at s
    obtain ⟨s1, s2, s3, s4⟩ := s
    obtain ⟨k1, k2⟩ := hk
    cases u
    · have s4 := s4 rfl; omega
    · have s3 := s3 rfl; omega
  by_cases hA : m + 2 * c + 8 ≤ n
  · obtain ⟨n', hn'⟩ : ∃ n', n = n' + m := ⟨n - m, by omega⟩
    obtain ⟨p', hp'⟩ : ∃ p', p = p' + m * 0 := ⟨p - m * 0, by omega⟩
    have hN : n = n' + m * 1 := by omega
    generalize hq : t / (n) = q at ht
    have hmod : (p' + n' * q) % (n') = p' := by rw [Nat.add_mul_mod_self_left]; exact Nat.mod_eq_of_lt (by omega)
    refine ⟨n', p' + n' * q, by omega, by omega, cut_cfg (a := c + 4) (b := n') hm1 ?_ (by omega) (by omega) (.inl ⟨by omega, rfl, by omega⟩) (fun k u e hk he => ?_) (fun i hi hno => ?_)⟩
    · have e1 : t = p + n * q := by omega
      conv => lhs; rw [e1]
      exact time_mod (al := 0) (mu := 1) hp' hN
    · have s := ring_spec (t := t) (u := u) (by omega : 10 ≤ n) hk he
      have s' := ring_spec (n := n') (t := p' + n' * q) (u := u) (by omega) hk he
      rw [hpp] at s
      rw [hmod] at s'
      generalize dotAt true n (t + e) k u = x at s
      generalize dotAt true n' (p' + n' * q + e) k u = y at s'
      obtain ⟨s1, s2, s3, s4⟩ := s
      obtain ⟨r1, r2, r3, r4⟩ := s'
      obtain ⟨k1, k2⟩ := hk
      unfold kap
      cases u
      · have s4 := s4 rfl; have r4 := r4 rfl; split <;> (try split) <;> omega
      · have s3 := s3 rfl; have r3 := r3 rfl; split <;> (try split) <;> omega
    · have hi1 : c + 4 ≤ i ∧ i < c + 4 + m := by
        refine ⟨Nat.le_of_not_lt fun h => hno i (by omega) ?_, Nat.lt_of_not_le fun h => hno (i - m) (by omega) ?_⟩
        · unfold kap; rw [if_pos (by omega)]
        · unfold kap; rw [if_neg (by omega), if_pos (by omega)]; omega
      refine ⟨zone i (by omega) (by omega) (.inr (.inl ⟨by omega, by omega⟩)), ?_⟩
      by_cases h2 : 2 * m + 2 * c + 8 ≤ n
      · refine ⟨i, by omega, ?_, rfl⟩
        have : kap (c + 4) n' m i = i + m := by unfold kap; rw [if_neg (by omega), if_pos (by omega)]
        rw [this]
        exact zone _ (by omega) (by omega) (.inr (.inl ⟨by omega, by omega⟩))
      · obtain ⟨y, y1, y2, y3⟩ := res_ex (m := m) (x := 3) (i := i) hm1
        refine ⟨y, by omega, ?_, y3⟩
        have : kap (c + 4) n' m y = y := by unfold kap; rw [if_pos (by omega)]
        rw [this]
        exact zone _ (by omega) (by omega) (.inl (by omega))
  · obtain ⟨n', hn'⟩ : ∃ n', n = n' + 2 * m := ⟨n - 2 * m, by omega⟩
    obtain ⟨p', hp'⟩ : ∃ p', p = p' + m * 1 := ⟨p - m * 1, by omega⟩
    have hN : n = n' + m * 2 := by omega
    generalize hq : t / (n) = q at ht
    have hmod : (p' + n' * q) % (n') = p' := by rw [Nat.add_mul_mod_self_left]; exact Nat.mod_eq_of_lt (by omega)
    refine ⟨n', p' + n' * q, by omega, by omega, cut_cfg (a := 3) (b := n - c + 4 - m) hm1 ?_ (by omega) (by omega) (.inr ⟨by omega, by omega, by omega⟩) (fun k u e hk he => ?_) (fun i hi hno => ?_)⟩
    · have e1 : t = p + n * q := by omega
      conv => lhs; rw [e1]
      exact time_mod (al := 1) (mu := 2) hp' hN
    · have s := ring_spec (t := t) (u := u) (by omega : 10 ≤ n) hk he
      have s' := ring_spec (n := n') (t := p' + n' * q) (u := u) (by omega) hk he
      rw [hpp] at s
      rw [hmod] at s'
      generalize dotAt true n (t + e) k u = x at s
      generalize dotAt true n' (p' + n' * q + e) k u = y at s'
      obtain ⟨s1, s2, s3, s4⟩ := s
      obtain ⟨r1, r2, r3, r4⟩ := s'
      obtain ⟨k1, k2⟩ := hk
      unfold kap
      cases u
      · have s4 := s4 rfl; have r4 := r4 rfl; split <;> (try split) <;> omega
      · have s3 := s3 rfl; have r3 := r3 rfl; split <;> (try split) <;> omega
    · have hi1 : (3 ≤ i ∧ i < 3 + m) ∨ (n - c + 4 ≤ i ∧ i < n - c + 4 + m) := by
        by_cases h1 : i < 3
        · exact absurd (by unfold kap; rw [if_pos (by omega)]) (hno i (by omega))
        by_cases h2 : i < 3 + m
        · exact .inl ⟨by omega, h2⟩
        by_cases h3 : i < n - c + 4
        · refine absurd ?_ (hno (i - m) (by omega))
          unfold kap; rw [if_neg (by omega), if_pos (by omega)]; omega
        by_cases h4 : i < n - c + 4 + m
        · exact .inr ⟨by omega, h4⟩
        · refine absurd ?_ (hno (i - 2 * m) (by omega))
          unfold kap; rw [if_neg (by omega), if_neg (by omega)]; omega
      rcases hi1 with ⟨i1, i2⟩ | ⟨i1, i2⟩
      · refine ⟨zone i (by omega) (by omega) (.inl (by omega)), i, by omega, ?_, rfl⟩
        have : kap 3 (n - c + 4 - m) m i = i + m := by unfold kap; rw [if_neg (by omega), if_pos (by omega)]
        rw [this]
        exact zone _ (by omega) (by omega) (.inl (by omega))
      · refine ⟨zone i (by omega) (by omega) (.inr (.inr (by omega))), i - m, by omega, ?_, ?_⟩
        · have : kap 3 (n - c + 4 - m) m (i - m : Nat) = i + m := by unfold kap; rw [if_neg (by omega), if_neg (by omega)]; omega
          rw [this]
          exact zone _ (by omega) (by omega) (.inr (.inr (by omega)))
        · have : i % m = ((i - m) + m) % m := by congr 1; omega
          rw [this, Nat.add_mod_right]

theorem ring_red2 (hm : m = 1 ∨ m = 2 ∨ m = 3 ∨ m = 6) (hn : 5 * m + 21 < n) (hp : n < 2 * (t % n)) : ∃ n' t', 1 ≤ n' ∧ n' < n ∧ Cfg true m n t n' t' := by
  obtain ⟨p, hpp⟩ : ∃ p, t % (n) = p := ⟨_, rfl⟩
  have ht := Nat.div_add_mod t (n)
  have hpl := Nat.mod_lt t (by omega : 0 < n)
  rw [hpp] at hp ht hpl
  have hm1 : 1 ≤ m := by omega
  clear hm
  obtain ⟨c, hc⟩ : ∃ c : Nat, c + p = n := ⟨n - p, by omega⟩
  have zone : ∀ x : Int, 3 ≤ x → x < n - 3 → (x ≤ c - 5 ∨ ((c : Int) + 4 ≤ x ∧ x ≤ n - c - 5) ∨ (n : Int) - c + 4 ≤ x) → Pln true n t x := fun x h1 h2 h3 => by
    refine ⟨h1, h2, fun k u e hk he z => ?_⟩
    have s := ring_spec (t := t) (u := u) (by omega : 10 ≤ n) hk he
    rw [hpp, ← z] at s
    obtain ⟨s1, s2, s3, s4⟩ := s
    obtain ⟨k1, k2⟩ := hk
    cases u
    · have s4 := s4 rfl; omega
    · have s3 := s3 rfl; omega
  by_cases hA : m + 2 * c + 8 ≤ n
  · obtain ⟨n', hn'⟩ : ∃ n', n = n' + m := ⟨n - m, by omega⟩
    obtain ⟨p', hp'⟩ : ∃ p', p = p' + m * 1 := ⟨p - m * 1, by omega⟩
    have hN : n = n' + m * 1 := by omega
    generalize hq : t / (n) = q at ht
    have hmod : (p' + n' * q) % (n') = p' := by rw [Nat.add_mul_mod_self_left]; exact Nat.mod_eq_of_lt (by omega)
    refine ⟨n', p' + n' * q, by omega, by omega, cut_cfg (a := c + 4) (b := n') hm1 ?_ (by omega) (by omega) (.inl ⟨by omega, rfl, by omega⟩) (fun k u e hk he => ?_) (fun i hi hno => ?_)⟩
    · have e1 : t = p + n * q := by omega
      conv => lhs; rw [e1]
      exact time_mod (al := 1) (mu := 1) hp' hN
    · have s := ring_spec (t := t) (u := u) (by omega : 10 ≤ n) hk he
      have s' := ring_spec (n := n') (t := p' + n' * q) (u := u) (by omega) hk he
      rw [hpp] at s
      rw [hmod] at s'
      generalize dotAt true n (t + e) k u = x at s
      generalize dotAt true n' (p' + n' * q + e) k u = y at s'
      obtain ⟨s1, s2, s3, s4⟩ := s
      obtain ⟨r1, r2, r3, r4⟩ := s'
      obtain ⟨k1, k2⟩ := hk
      unfold kap
      cases u
      · have s4 := s4 rfl; have r4 := r4 rfl; split <;> (try split) <;> omega
      · have s3 := s3 rfl; have r3 := r3 rfl; split <;> (try split) <;> omega
    · have hi1 : c + 4 ≤ i ∧ i < c + 4 + m := by
        refine ⟨Nat.le_of_not_lt fun h => hno i (by omega) ?_, Nat.lt_of_not_le fun h => hno (i - m) (by omega) ?_⟩
        · unfold kap; rw [if_pos (by omega)]
        · unfold kap; rw [if_neg (by omega), if_pos (by omega)]; omega
      refine ⟨zone i (by omega) (by omega) (.inr (.inl ⟨by omega, by omega⟩)), ?_⟩
      by_cases h2 : 2 * m + 2 * c + 8 ≤ n
      · refine ⟨i, by omega, ?_, rfl⟩
        have : kap (c + 4) n' m i = i + m := by unfold kap; rw [if_neg (by omega), if_pos (by omega)]
        rw [this]
        exact zone _ (by omega) (by omega) (.inr (.inl ⟨by omega, by omega⟩))
      · obtain ⟨y, y1, y2, y3⟩ := res_ex (m := m) (x := 3) (i := i) hm1
        refine ⟨y, by omega, ?_, y3⟩
        have : kap (c + 4) n' m y = y := by unfold kap; rw [if_pos (by omega)]
        rw [this]
        exact zone _ (by omega) (by omega) (.inl (by omega))
  · obtain ⟨n', hn'⟩ : ∃ n', n = n' + 2 * m := ⟨n - 2 * m, by omega⟩
    obtain ⟨p', hp'⟩ : ∃ p', p = p' + m * 1 := ⟨p - m * 1, by omega⟩
    have hN : n = n' + m * 2 := by omega
    generalize hq : t / (n) = q at ht
    have hmod : (p' + n' * q) % (n') = p' := by rw [Nat.add_mul_mod_self_left]; exact Nat.mod_eq_of_lt (by omega)
    refine ⟨n', p' + n' * q, by omega, by omega, cut_cfg (a := 3) (b := n - c + 4 - m) hm1 ?_ (by omega) (by omega) (.inr ⟨by omega, by omega, by omega⟩) (fun k u e hk he => ?_) (fun i hi hno => ?_)⟩
    · have e1 : t = p + n * q := by omega
      conv => lhs; rw [e1]
      exact time_mod (al := 1) (mu := 2) hp' hN
    · have s := ring_spec (t := t) (u := u) (by omega : 10 ≤ n) hk he
      have s' := ring_spec (n := n') (t := p' + n' * q) (u := u) (by omega) hk he
      rw [hpp] at s
      rw [hmod] at s'
      generalize dotAt true n (t + e) k u = x at s
      generalize dotAt true n' (p' + n' * q + e) k u = y at s'
      obtain ⟨s1, s2, s3, s4⟩ := s
      obtain ⟨r1, r2, r3, r4⟩ := s'
      obtain ⟨k1, k2⟩ := hk
      unfold kap
      cases u
      · have s4 := s4 rfl; have r4 := r4 rfl; split <;> (try split) <;> omega
      · have s3 := s3 rfl; have r3 := r3 rfl; split <;> (try split) <;> omega
    · have hi1 : (3 ≤ i ∧ i < 3 + m) ∨ (n - c + 4 ≤ i ∧ i < n - c + 4 + m) := by
        by_cases h1 : i < 3
        · exact absurd (by unfold kap; rw [if_pos (by omega)]) (hno i (by omega))
        by_cases h2 : i < 3 + m
        · exact .inl ⟨by omega, h2⟩
        by_cases h3 : i < n - c + 4
        · refine absurd ?_ (hno (i - m) (by omega))
          unfold kap; rw [if_neg (by omega), if_pos (by omega)]; omega
        by_cases h4 : i < n - c + 4 + m
        · exact .inr ⟨by omega, h4⟩
        · refine absurd ?_ (hno (i - 2 * m) (by omega))
          unfold kap; rw [if_neg (by omega), if_neg (by omega)]; omega
      rcases hi1 with ⟨i1, i2⟩ | ⟨i1, i2⟩
      · refine ⟨zone i (by omega) (by omega) (.inl (by omega)), i, by omega, ?_, rfl⟩
        have : kap 3 (n - c + 4 - m) m i = i + m := by unfold kap; rw [if_neg (by omega), if_pos (by omega)]
        rw [this]
        exact zone _ (by omega) (by omega) (.inl (by omega))
      · refine ⟨zone i (by omega) (by omega) (.inr (.inr (by omega))), i - m, by omega, ?_, ?_⟩
        · have : kap 3 (n - c + 4 - m) m (i - m : Nat) = i + m := by unfold kap; rw [if_neg (by omega), if_neg (by omega)]; omega
          rw [this]
          exact zone _ (by omega) (by omega) (.inr (.inr (by omega)))
        · have : i % m = ((i - m) + m) % m := by congr 1; omega
          rw [this, Nat.add_mod_right]

end
def fld (n z : Int) : Int := if z < 0 then -z else if z ≤ n - 1 then z else 2 * (n - 1) - z
def zP (n c e k : Int) (b : Bool) : Int := if 0 ≤ k then (if b then c + e + k else c + e - k) else (if b then n - 2 - k - c - e else n + k - c - e)
theorem chain_pos {n t : Nat} {k : Int} {u : Bool} {d : Nat} (hn : 10 ≤ n) (hk : plc k) (hd : d ≤ 1) : (t % (2 * (n - 1)) ≤ n - 1 → dotAt false n (t + d) k u = fld n (zP n (t % (2 * (n - 1)) : Nat) d k u)) ∧
    (n - 1 < t % (2 * (n - 1)) → dotAt false n (t + d) k u = fld n (zP n (2 * (n - 1) - t % (2 * (n - 1)) : Nat) (-d) k (!u))) := by
  have s := chain_spec (t := t) (u := u) hn hk hd
  have hp : t % (2 * (n - 1)) < 2 * (n - 1) := Nat.mod_lt _ (by omega)
  generalize t % (2 * (n - 1)) = p at s hp ⊢
  generalize dotAt false n (t + d) k u = x at s ⊢
  obtain ⟨y, s1, s2, s3, s4, s5, s6, s7, s8⟩ := s
  obtain ⟨k1, k2⟩ := hk
  have hx : x = y ∧ 2 * y ≤ 2 * (n - 1) ∨ x = 2 * (n - 1) - y ∧ 2 * (n - 1) < 2 * y := by omega
  clear s3 s4
  unfold fld zP
  cases u
  · clear s5 s6
    have s7 := s7 rfl; have s8 := s8 rfl
    by_cases h0 : 0 ≤ k
    · have s8 := s8 h0; clear s7
      simp only [Bool.false_eq_true, if_false, Bool.not_false, if_true, if_pos h0]
      refine ⟨fun h => ?_, fun h => ?_⟩
      · rcases hx with ⟨hx, hy⟩ | ⟨hx, hy⟩ <;> rcases s8 with s8 | s8 | s8 <;> (split <;> (try split) <;> omega)
      · rcases hx with ⟨hx, hy⟩ | ⟨hx, hy⟩ <;> rcases s8 with s8 | s8 | s8 <;> (split <;> (try split) <;> omega)
    · have s7 := s7 (by omega); clear s8
      simp only [Bool.false_eq_true, if_false, Bool.not_false, if_true, if_neg h0]
      refine ⟨fun h => ?_, fun h => ?_⟩
      · rcases hx with ⟨hx, hy⟩ | ⟨hx, hy⟩ <;> rcases s7 with s7 | s7 <;> (split <;> (try split) <;> omega)
      · rcases hx with ⟨hx, hy⟩ | ⟨hx, hy⟩ <;> rcases s7 with s7 | s7 <;> (split <;> (try split) <;> omega)
  · clear s7 s8
    have s5 := s5 rfl; have s6 := s6 rfl
    by_cases h0 : 0 ≤ k
    · have s6 := s6 h0; clear s5
      simp only [Bool.not_true, Bool.false_eq_true, if_false, if_true, if_pos h0]
      refine ⟨fun h => ?_, fun h => ?_⟩
      · rcases hx with ⟨hx, hy⟩ | ⟨hx, hy⟩ <;> rcases s6 with s6 | s6 <;> (split <;> (try split) <;> omega)
      · rcases hx with ⟨hx, hy⟩ | ⟨hx, hy⟩ <;> rcases s6 with s6 | s6 <;> (split <;> (try split) <;> omega)
    · have s5 := s5 (by omega); clear s6
      simp only [Bool.not_true, Bool.false_eq_true, if_false, if_true, if_neg h0]
      refine ⟨fun h => ?_, fun h => ?_⟩
      · rcases hx with ⟨hx, hy⟩ | ⟨hx, hy⟩ <;> rcases s5 with s5 | s5 <;> (split <;> (try split) <;> omega)
      · rcases hx with ⟨hx, hy⟩ | ⟨hx, hy⟩ <;> rcases s5 with s5 | s5 <;> (split <;> (try split) <;> omega)
/-- a lamp that bears no dot, by the place c of the middle dot -/
def PlC (n c : Nat) (x : Int) : Prop := 3 ≤ x ∧ x < n - 3 ∧ ∀ (k : Int) (b : Bool) (e : Int), plc k → -1 ≤ e → e ≤ 1 → x ≠ fld n (zP n c e k b)
def ChC (m n c n' c' : Nat) : Prop := ∃ a b : Int, 3 ≤ a ∧ ((n : Int) = n' + m ∧ b = n' ∧ a + 3 ≤ n' ∨ (n : Int) = n' + 2 * m ∧ a ≤ b ∧ b + 3 ≤ n') ∧
  (∀ (k : Int) (u : Bool) (e : Int), plc k → -1 ≤ e → e ≤ 1 → fld n (zP n c e k u) = kap a b m (fld n' (zP n' c' e k u))) ∧
  (∀ i : Nat, i < n → (∀ j : Nat, j < n' → kap a b m j ≠ i) → PlC n c i ∧ ∃ j : Nat, j < n' ∧ PlC n c (kap a b m j) ∧ i % m = j % m)
section
variable {m n t c : Nat}
theorem chain_c1 (hm : m = 1 ∨ m = 2 ∨ m = 3 ∨ m = 6) (hn : 5 * m + 21 < n) (hcn : c ≤ n - 1) (hp : 2 * c ≤ n - 1) : ∃ n' c', 10 ≤ n' ∧ n' < n ∧ c' ≤ n' - 1 ∧ (1 ≤ c → 1 ≤ c') ∧ (c < n - 1 → c' < n' - 1) ∧ (∃ al mu, c = c' + m * al ∧ 2 * (n - 1) = 2 * (n' - 1) + m * mu ∧ al ≤ mu) ∧ ChC m n c n' c' := by
  obtain ⟨p, hpc⟩ : ∃ p : Nat, p = c := ⟨c, by omega⟩
  have hm1 : 1 ≤ m := by omega
  replace hcn : c + 1 ≤ n := by omega
  replace hp : 2 * c + 1 ≤ n := by omega
  clear hm
  have zone : ∀ x : Int, 3 ≤ x → x < n - 3 → (x ≤ p - 5 ∨ ((p : Int) + 4 ≤ x ∧ x ≤ n - p - 5) ∨ (n : Int) - p + 4 ≤ x) → PlC n c x := fun x h1 h2 h3 => by
    refine ⟨h1, h2, fun k b e hk he1 he2 z => ?_⟩
    obtain ⟨k1, k2⟩ := hk
    unfold fld zP at z
    cases b
    · simp only [Bool.false_eq_true, if_false] at z; by_cases h0 : 0 ≤ k
      · rw [if_pos h0] at z; split at z <;> (try split at z) <;> omega
      · rw [if_neg h0] at z; split at z <;> (try split at z) <;> omega
    · simp only [if_true] at z; by_cases h0 : 0 ≤ k
      · rw [if_pos h0] at z; split at z <;> (try split at z) <;> omega
      · rw [if_neg h0] at z; split at z <;> (try split at z) <;> omega
  by_cases hA : m + 2 * p + 8 ≤ n
  · obtain ⟨n', hn'⟩ : ∃ n', n = n' + m := ⟨n - m, by omega⟩
    obtain ⟨c', hc'⟩ : ∃ c', c = c' + m * 0 := ⟨c - m * 0, by omega⟩
    refine ⟨n', c', by omega, by omega, by omega, by omega, by omega, ⟨0, 2, hc', by omega, by omega⟩, p + 4, n', by omega, .inl ⟨by omega, rfl, by omega⟩, fun k b e hk he1 he2 => ?_, fun i hi hno => ?_⟩
    · obtain ⟨k1, k2⟩ := hk
      have kk : ∀ x y : Int, y ≤ p + 3 ∧ x = y ∨ n - p - 4 ≤ x ∧ x ≤ n - 1 ∧ x = y + m → x = kap (p + 4) n' m y := fun x y h => by unfold kap; split <;> (try split) <;> omega
      refine kk _ _ ?_
      unfold fld zP
      cases b
      · simp only [Bool.false_eq_true, if_false]; by_cases h0 : 0 ≤ k
        · rw [if_pos h0, if_pos h0]; (repeat' split) <;> omega
        · rw [if_neg h0, if_neg h0]; (repeat' split) <;> omega
      · simp only [if_true]; by_cases h0 : 0 ≤ k
        · rw [if_pos h0, if_pos h0]; (repeat' split) <;> omega
        · rw [if_neg h0, if_neg h0]; (repeat' split) <;> omega
    · have hi1 : p + 4 ≤ i ∧ i < p + 4 + m := by
        refine ⟨Nat.le_of_not_lt fun h => hno i (by omega) ?_, Nat.lt_of_not_le fun h => hno (i - m) (by omega) ?_⟩
        · unfold kap; rw [if_pos (by omega)]
        · unfold kap; rw [if_neg (by omega), if_pos (by omega)]; omega
      refine ⟨zone i (by omega) (by omega) (.inr (.inl ⟨by omega, by omega⟩)), ?_⟩
      by_cases h2 : 2 * m + 2 * p + 8 ≤ n
      · refine ⟨i, by omega, ?_, rfl⟩
        have : kap (p + 4) n' m i = i + m := by unfold kap; rw [if_neg (by omega), if_pos (by omega)]
        rw [this]
        exact zone _ (by omega) (by omega) (.inr (.inl ⟨by omega, by omega⟩))
      · obtain ⟨y, y1, y2, y3⟩ := res_ex (m := m) (x := 3) (i := i) hm1
        refine ⟨y, by omega, ?_, y3⟩
        have : kap (p + 4) n' m y = y := by unfold kap; rw [if_pos (by omega)]
        rw [this]
        exact zone _ (by omega) (by omega) (.inl (by omega))
  · obtain ⟨n', hn'⟩ : ∃ n', n = n' + 2 * m := ⟨n - 2 * m, by omega⟩
    obtain ⟨c', hc'⟩ : ∃ c', c = c' + m * 1 := ⟨c - m * 1, by omega⟩
    refine ⟨n', c', by omega, by omega, by omega, by omega, by omega, ⟨1, 4, hc', by omega, by omega⟩, 3, n - p + 4 - m, by omega, .inr ⟨by omega, by omega, by omega⟩, fun k b e hk he1 he2 => ?_, fun i hi hno => ?_⟩
    · obtain ⟨k1, k2⟩ := hk
      have kk : ∀ x y : Int, y < 3 ∧ x = y ∨ 3 ≤ y ∧ y < n - p + 4 - m ∧ x = y + m ∨ n - p + 4 - m ≤ y ∧ x = y + 2 * m → x = kap 3 (n - p + 4 - m) m y := fun x y h => by unfold kap; split <;> (try split) <;> omega
      refine kk _ _ ?_
      unfold fld zP
      cases b
      · simp only [Bool.false_eq_true, if_false]; by_cases h0 : 0 ≤ k
        · rw [if_pos h0, if_pos h0]; (repeat' split) <;> omega
        · rw [if_neg h0, if_neg h0]; (repeat' split) <;> omega
      · simp only [if_true]; by_cases h0 : 0 ≤ k
        · rw [if_pos h0, if_pos h0]; (repeat' split) <;> omega
        · rw [if_neg h0, if_neg h0]; (repeat' split) <;> omega
    · have hi1 : (3 ≤ i ∧ i < 3 + m) ∨ (n - p + 4 ≤ i ∧ i < n - p + 4 + m) := by
        by_cases h1 : i < 3
        · exact absurd (by unfold kap; rw [if_pos (by omega)]) (hno i (by omega))
        by_cases h2 : i < 3 + m
        · exact .inl ⟨by omega, h2⟩
        by_cases h3 : i < n - p + 4
        · refine absurd ?_ (hno (i - m) (by omega))
          unfold kap; rw [if_neg (by omega), if_pos (by omega)]; omega
        by_cases h4 : i < n - p + 4 + m
        · exact .inr ⟨by omega, h4⟩
        · refine absurd ?_ (hno (i - 2 * m) (by omega))
          unfold kap; rw [if_neg (by omega), if_neg (by omega)]; omega
      rcases hi1 with ⟨i1, i2⟩ | ⟨i1, i2⟩
      · refine ⟨zone i (by omega) (by omega) (.inl (by omega)), i, by omega, ?_, rfl⟩
        have : kap 3 (n - p + 4 - m) m i = i + m := by unfold kap; rw [if_neg (by omega), if_pos (by omega)]
        rw [this]
        exact zone _ (by omega) (by omega) (.inl (by omega))
      · refine ⟨zone i (by omega) (by omega) (.inr (.inr (by omega))), i - m, by omega, ?_, ?_⟩
        · have : kap 3 (n - p + 4 - m) m (i - m : Nat) = i + m := by unfold kap; rw [if_neg (by omega), if_neg (by omega)]; omega
          rw [this]
          exact zone _ (by omega) (by omega) (.inr (.inr (by omega)))
        · have : i % m = ((i - m) + m) % m := by congr 1; omega
          rw [this, Nat.add_mod_right]

theorem chain_c2 (hm : m = 1 ∨ m = 2 ∨ m = 3 ∨ m = 6) (hn : 5 * m + 21 < n) (hcn : c ≤ n - 1) (hp : n - 1 < 2 * c) : ∃ n' c', 10 ≤ n' ∧ n' < n ∧ c' ≤ n' - 1 ∧ (1 ≤ c → 1 ≤ c') ∧ (c < n - 1 → c' < n' - 1) ∧ (∃ al mu, c = c' + m * al ∧ 2 * (n - 1) = 2 * (n' - 1) + m * mu ∧ al ≤ mu) ∧ ChC m n c n' c' := by
  obtain ⟨p, hpc⟩ : ∃ p : Nat, p + c + 1 = n := ⟨n - 1 - c, by omega⟩
  have hm1 : 1 ≤ m := by omega
  replace hcn : c + 1 ≤ n := by omega
  replace hp : n < 2 * c + 1 := by omega
  clear hm
  have zone : ∀ x : Int, 3 ≤ x → x < n - 3 → (x ≤ p - 5 ∨ ((p : Int) + 4 ≤ x ∧ x ≤ n - p - 5) ∨ (n : Int) - p + 4 ≤ x) → PlC n c x := fun x h1 h2 h3 => by
    refine ⟨h1, h2, fun k b e hk he1 he2 z => ?_⟩
    obtain ⟨k1, k2⟩ := hk
    unfold fld zP at z
    cases b
    · simp only [Bool.false_eq_true, if_false] at z; by_cases h0 : 0 ≤ k
      · rw [if_pos h0] at z; split at z <;> (try split at z) <;> omega
      · rw [if_neg h0] at z; split at z <;> (try split at z) <;> omega
    · simp only [if_true] at z; by_cases h0 : 0 ≤ k
      · rw [if_pos h0] at z; split at z <;> (try split at z) <;> omega
      · rw [if_neg h0] at z; split at z <;> (try split at z) <;> omega
  by_cases hA : m + 2 * p + 8 ≤ n
  · obtain ⟨n', hn'⟩ : ∃ n', n = n' + m := ⟨n - m, by omega⟩
    obtain ⟨c', hc'⟩ : ∃ c', c = c' + m * 1 := ⟨c - m * 1, by omega⟩
    refine ⟨n', c', by omega, by omega, by omega, by omega, by omega, ⟨1, 2, hc', by omega, by omega⟩, p + 4, n', by omega, .inl ⟨by omega, rfl, by omega⟩, fun k b e hk he1 he2 => ?_, fun i hi hno => ?_⟩
    · obtain ⟨k1, k2⟩ := hk
      have kk : ∀ x y : Int, y ≤ p + 3 ∧ x = y ∨ n - p - 4 ≤ x ∧ x ≤ n - 1 ∧ x = y + m → x = kap (p + 4) n' m y := fun x y h => by unfold kap; split <;> (try split) <;> omega
      refine kk _ _ ?_
      unfold fld zP
      cases b
      · simp only [Bool.false_eq_true, if_false]; by_cases h0 : 0 ≤ k
        · rw [if_pos h0, if_pos h0]; (repeat' split) <;> omega
        · rw [if_neg h0, if_neg h0]; (repeat' split) <;> omega
      · simp only [if_true]; by_cases h0 : 0 ≤ k
        · rw [if_pos h0, if_pos h0]; (repeat' split) <;> omega
        · rw [if_neg h0, if_neg h0]; (repeat' split) <;> omega
    · have hi1 : p + 4 ≤ i ∧ i < p + 4 + m := by
        refine ⟨Nat.le_of_not_lt fun h => hno i (by omega) ?_, Nat.lt_of_not_le fun h => hno (i - m) (by omega) ?_⟩
        · unfold kap; rw [if_pos (by omega)]
        · unfold kap; rw [if_neg (by omega), if_pos (by omega)]; omega
      refine ⟨zone i (by omega) (by omega) (.inr (.inl ⟨by omega, by omega⟩)), ?_⟩
      by_cases h2 : 2 * m + 2 * p + 8 ≤ n
      · refine ⟨i, by omega, ?_, rfl⟩
        have : kap (p + 4) n' m i = i + m := by unfold kap; rw [if_neg (by omega), if_pos (by omega)]
        rw [this]
        exact zone _ (by omega) (by omega) (.inr (.inl ⟨by omega, by omega⟩))
      · obtain ⟨y, y1, y2, y3⟩ := res_ex (m := m) (x := 3) (i := i) hm1
        refine ⟨y, by omega, ?_, y3⟩
        have : kap (p + 4) n' m y = y := by unfold kap; rw [if_pos (by omega)]
        rw [this]
        exact zone _ (by omega) (by omega) (.inl (by omega))
  · obtain ⟨n', hn'⟩ : ∃ n', n = n' + 2 * m := ⟨n - 2 * m, by omega⟩
    obtain ⟨c', hc'⟩ : ∃ c', c = c' + m * 1 := ⟨c - m * 1, by omega⟩
    refine ⟨n', c', by omega, by omega, by omega, by omega, by omega, ⟨1, 4, hc', by omega, by omega⟩, 3, n - p + 4 - m, by omega, .inr ⟨by omega, by omega, by omega⟩, fun k b e hk he1 he2 => ?_, fun i hi hno => ?_⟩
    · obtain ⟨k1, k2⟩ := hk
      have kk : ∀ x y : Int, y < 3 ∧ x = y ∨ 3 ≤ y ∧ y < n - p + 4 - m ∧ x = y + m ∨ n - p + 4 - m ≤ y ∧ x = y + 2 * m → x = kap 3 (n - p + 4 - m) m y := fun x y h => by unfold kap; split <;> (try split) <;> omega
      refine kk _ _ ?_
      unfold fld zP
      cases b
      · simp only [Bool.false_eq_true, if_false]; by_cases h0 : 0 ≤ k
        · rw [if_pos h0, if_pos h0]; (repeat' split) <;> omega
        · rw [if_neg h0, if_neg h0]; (repeat' split) <;> omega
      · simp only [if_true]; by_cases h0 : 0 ≤ k
        · rw [if_pos h0, if_pos h0]; (repeat' split) <;> omega
        · rw [if_neg h0, if_neg h0]; (repeat' split) <;> omega
    · have hi1 : (3 ≤ i ∧ i < 3 + m) ∨ (n - p + 4 ≤ i ∧ i < n - p + 4 + m) := by
        by_cases h1 : i < 3
        · exact absurd (by unfold kap; rw [if_pos (by omega)]) (hno i (by omega))
        by_cases h2 : i < 3 + m
        · exact .inl ⟨by omega, h2⟩
        by_cases h3 : i < n - p + 4
        · refine absurd ?_ (hno (i - m) (by omega))
          unfold kap; rw [if_neg (by omega), if_pos (by omega)]; omega
        by_cases h4 : i < n - p + 4 + m
        · exact .inr ⟨by omega, h4⟩
        · refine absurd ?_ (hno (i - 2 * m) (by omega))
          unfold kap; rw [if_neg (by omega), if_neg (by omega)]; omega
      rcases hi1 with ⟨i1, i2⟩ | ⟨i1, i2⟩
      · refine ⟨zone i (by omega) (by omega) (.inl (by omega)), i, by omega, ?_, rfl⟩
        have : kap 3 (n - p + 4 - m) m i = i + m := by unfold kap; rw [if_neg (by omega), if_pos (by omega)]
        rw [this]
        exact zone _ (by omega) (by omega) (.inl (by omega))
      · refine ⟨zone i (by omega) (by omega) (.inr (.inr (by omega))), i - m, by omega, ?_, ?_⟩
        · have : kap 3 (n - p + 4 - m) m (i - m : Nat) = i + m := by unfold kap; rw [if_neg (by omega), if_neg (by omega)]; omega
          rw [this]
          exact zone _ (by omega) (by omega) (.inr (.inr (by omega)))
        · have : i % m = ((i - m) + m) % m := by congr 1; omega
          rw [this, Nat.add_mod_right]

theorem chain_red (hm : m = 1 ∨ m = 2 ∨ m = 3 ∨ m = 6) (hn : 5 * m + 21 < n) : ∃ n' t', 1 ≤ n' ∧ n' < n ∧ Cfg false m n t n' t' := by
  have hm1 : 1 ≤ m := by omega
  have hw := Nat.mod_lt t (by omega : 0 < 2 * (n - 1))
  have ht := Nat.div_add_mod t (2 * (n - 1))
  generalize hq : t / (2 * (n - 1)) = q at ht
  have any : ∀ c, c ≤ n - 1 → ∃ n' c', 10 ≤ n' ∧ n' < n ∧ c' ≤ n' - 1 ∧ (1 ≤ c → 1 ≤ c') ∧ (c < n - 1 → c' < n' - 1) ∧ (∃ al mu, c = c' + m * al ∧ 2 * (n - 1) = 2 * (n' - 1) + m * mu ∧ al ≤ mu) ∧ ChC m n c n' c' := fun c hc => by
    by_cases h : 2 * c ≤ n - 1
    · exact chain_c1 hm hn hc h
    · exact chain_c2 hm hn hc (by omega)
  by_cases hs : t % (2 * (n - 1)) ≤ n - 1
  · obtain ⟨n', c', g1, g2, g3, g4, g5, ⟨al, mu, g6, g7, g8⟩, a, b, x1, x2, x3, x4⟩ := any _ hs
    have hmod : (c' + 2 * (n' - 1) * q) % (2 * (n' - 1)) = c' := by rw [Nat.add_mul_mod_self_left]; exact Nat.mod_eq_of_lt (by omega)
    refine ⟨n', c' + 2 * (n' - 1) * q, by omega, g2, cut_cfg hm1 ?_ (by omega) x1 x2 (fun k u e hk he => ?_) (fun i hi hno => ?_)⟩
    · have e1 : t = t % (2 * (n - 1)) + 2 * (n - 1) * q := by omega
      conv => lhs; rw [e1]
      exact time_mod g6 g7
    · rw [(chain_pos (by omega) hk he).1 hs, (chain_pos (by omega) hk he).1 (by rw [hmod]; exact g3), hmod]
      exact x3 k u e hk (by omega) (by omega)
    · obtain ⟨⟨p1, p2, p3⟩, j, hj, ⟨r1, r2, r3⟩, hr⟩ := x4 i hi hno
      refine ⟨⟨p1, p2, fun k u e hk he => ?_⟩, j, hj, ⟨r1, r2, fun k u e hk he => ?_⟩, hr⟩
      · rw [(chain_pos (by omega) hk he).1 hs]; exact p3 k u e hk (by omega) (by omega)
      · rw [(chain_pos (by omega) hk he).1 hs]; exact r3 k u e hk (by omega) (by omega)
  · obtain ⟨c, hc⟩ : ∃ c, t % (2 * (n - 1)) = 2 * (n - 1) - c ∧ 1 ≤ c ∧ c < n - 1 := ⟨2 * (n - 1) - t % (2 * (n - 1)), by omega, by omega, by omega⟩
    obtain ⟨n', c', g1, g2, g3, g4, g5, ⟨al, mu, g6, g7, g8⟩, a, b, x1, x2, x3, x4⟩ := any c (by omega)
    have g4 := g4 hc.2.1
    have g5 := g5 hc.2.2
    have hmod : (2 * (n' - 1) - c' + 2 * (n' - 1) * q) % (2 * (n' - 1)) = 2 * (n' - 1) - c' := by rw [Nat.add_mul_mod_self_left]; exact Nat.mod_eq_of_lt (by omega)
    have ec : 2 * (n - 1) - t % (2 * (n - 1)) = c := by omega
    have ec' : 2 * (n' - 1) - (2 * (n' - 1) - c' + 2 * (n' - 1) * q) % (2 * (n' - 1)) = c' := by rw [hmod]; omega
    refine ⟨n', 2 * (n' - 1) - c' + 2 * (n' - 1) * q, by omega, g2, cut_cfg hm1 ?_ (by omega) x1 x2 (fun k u e hk he => ?_) (fun i hi hno => ?_)⟩
    · have e1 : t = 2 * (n - 1) - c + 2 * (n - 1) * q := by omega
      conv => lhs; rw [e1]
      have h3 : m * mu = m * al + m * (mu - al) := by rw [← Nat.mul_add]; congr 1; omega
      exact time_mod (al := mu - al) (by omega) g7
    · rw [(chain_pos (by omega) hk he).2 (by omega), (chain_pos (by omega) hk he).2 (by rw [hmod]; omega), ec, ec']
      exact x3 k (!u) (-e) hk (by omega) (by omega)
    · obtain ⟨⟨p1, p2, p3⟩, j, hj, ⟨r1, r2, r3⟩, hr⟩ := x4 i hi hno
      refine ⟨⟨p1, p2, fun k u e hk he => ?_⟩, j, hj, ⟨r1, r2, fun k u e hk he => ?_⟩, hr⟩
      · rw [(chain_pos (by omega) hk he).2 (by omega), ec]; exact p3 k (!u) (-e) hk (by omega) (by omega)
      · rw [(chain_pos (by omega) hk he).2 (by omega), ec]; exact r3 k (!u) (-e) hk (by omega) (by omega)
theorem red_any {rg : Bool} (hm : m = 1 ∨ m = 2 ∨ m = 3 ∨ m = 6) (hn : 5 * m + 21 < n) : ∃ n' t', 1 ≤ n' ∧ n' < n ∧ Cfg rg m n t n' t' := by
  cases rg
  · exact chain_red hm hn
  · by_cases h1 : 2 * (t % n) ≤ n
    · exact ring_red1 hm hn h1
    · exact ring_red2 hm hn (by omega)
end
end
section
theorem to_small {rg : Bool} {m : Nat} (hm : m = 1 ∨ m = 2 ∨ m = 3 ∨ m = 6) : ∀ n, 1 ≤ n → ∀ t, ∃ n' t', 1 ≤ n' ∧ n' ≤ 5 * m + 21 ∧ t' < perN rg m n' ∧ Cfg rg m n t n' t' := by
  intro n
  induction n using Nat.strongRecOn with
  | _ n ih =>
    intro hn t
    by_cases h : n ≤ 5 * m + 21
    · exact ⟨n, _, hn, h, Nat.mod_lt _ (perN_pos (by omega) hn), Cfg.per (by omega) hn⟩
    · obtain ⟨n', t', h1, h2, h3⟩ := red_any (rg := rg) (t := t) hm (by omega : 5 * m + 21 < n)
      obtain ⟨n2, t2, g1, g2, g3, g4⟩ := ih n' h2 h1 t'
      exact ⟨n2, t2, g1, g2, g3, h3.trans g4⟩
theorem rowN_in {n t0 t : Nat} : ∀ {k : Nat}, t0 ≤ t → t < t0 + k → (n, t) ∈ rowN n t0 k
  | 0, h1, h2 => by omega
  | k + 1, h1, h2 => by
    by_cases e : t = t0
    · subst e; exact List.mem_cons_self
    · have := rowN_in (n := n) (t0 := t0 + 1) (t := t) (k := k) (by omega) (by omega)
      exact List.mem_cons_of_mem _ this
theorem momN_in {T : Nat → Nat} {n t : Nat} : ∀ {k i : Nat}, i < n → n ≤ i + k → t < T n → (n, t) ∈ momN T i k
  | 0, i, h1, h2, _ => by omega
  | k + 1, i, h1, h2, h3 => by
    by_cases e : n = i + 1
    · subst e
      exact List.mem_append_left _ (rowN_in (Nat.zero_le _) (by omega))
    · exact List.mem_append_right _ (momN_in (by omega) (by omega) h3)
theorem onP_same {rg : Bool} {m n t n' t' i j e : Nat} (h : SameL rg m n t n' t' i j) (ht : t % m = t' % m) (he : e ≤ 1) : ∀ p : Pat, p.ok → (∀ q ∈ p.subs, (isE 2 q = true → 2 ∣ m) ∧ (isE 3 q = true → 3 ∣ m)) → onP rg n (t + e) p i = onP rg n' (t' + e) p j
  | .all, _, _ => rfl
  | .none, _, _ => rfl
  | .lamp k, ho, _ => by
    have := h.l k ho
    show decide ((i : Int) = lampI n k) = decide ((j : Int) = lampI n' k)
    exact decide_eq_decide.mpr this
  | .dot k u, ho, _ => decide_eq_decide.mpr (h.d k u e ho he)
  | .comb x r, ho, hs => by
    have hs := hs _ (List.mem_singleton.mpr rfl)
    obtain ⟨hx, _⟩ := ho
    show decide ((i : Int) % x = r) = decide ((j : Int) % x = r)
    have : (i : Int) % x = (j : Int) % x := by
      rcases hx with rfl | rfl
      · have g : i % 2 = j % 2 := by rw [← Nat.mod_mod_of_dvd i (hs.1 rfl), h.c, Nat.mod_mod_of_dvd j (hs.1 rfl)]
        omega
      · have g : i % 3 = j % 3 := by rw [← Nat.mod_mod_of_dvd i (hs.2 rfl), h.c, Nat.mod_mod_of_dvd j (hs.2 rfl)]
        omega
    rw [this]
  | .beat x r, ho, hs => by
    have hs := hs _ (List.mem_singleton.mpr rfl)
    obtain ⟨hx, _⟩ := ho
    show decide (((t + e : Nat) : Int) % x = r) = decide (((t' + e : Nat) : Int) % x = r)
    have : ((t + e : Nat) : Int) % x = ((t' + e : Nat) : Int) % x := by
      rcases hx with rfl | rfl
      · have g : t % 2 = t' % 2 := by rw [← Nat.mod_mod_of_dvd t (hs.1 rfl), ht, Nat.mod_mod_of_dvd t' (hs.1 rfl)]
        omega
      · have g : t % 3 = t' % 3 := by rw [← Nat.mod_mod_of_dvd t (hs.2 rfl), ht, Nat.mod_mod_of_dvd t' (hs.2 rfl)]
        omega
    rw [this]
  | .not p, ho, hs => by
    show (!onP rg n (t + e) p i) = !onP rg n' (t' + e) p j
    rw [onP_same h ht he p ho fun q hq => hs q (List.mem_cons_of_mem _ hq)]
  | .bin o p q, ho, hs => by
    have h1 := onP_same h ht he p ho.1 fun x hx => hs x (List.mem_cons_of_mem _ (List.mem_append_left _ hx))
    have h2 := onP_same h ht he q ho.2 fun x hx => hs x (List.mem_cons_of_mem _ (List.mem_append_right _ hx))
    cases o
    · show (onP rg n (t + e) p i && onP rg n (t + e) q i) = _
      rw [h1, h2]; rfl
    · show (onP rg n (t + e) p i || onP rg n (t + e) q i) = _
      rw [h1, h2]; rfl
    · show (xor (onP rg n (t + e) p i) (onP rg n (t + e) q i)) = _
      rw [h1, h2]; rfl
theorem com_four (p : Pat) : com p = 1 ∨ com p = 2 ∨ com p = 3 ∨ com p = 6 := by
  have : ∀ a b : Bool, cmn a b = 1 ∨ cmn a b = 2 ∨ cmn a b = 3 ∨ cmn a b = 6 := by decide
  exact this _ _
theorem lcm_four (p q : Pat) : Nat.lcm (com p) (com q) = 1 ∨ Nat.lcm (com p) (com q) = 2 ∨ Nat.lcm (com p) (com q) = 3 ∨ Nat.lcm (com p) (com q) = 6 := by
  have : ∀ a b c d : Bool, Nat.lcm (cmn a b) (cmn c d) = 1 ∨ Nat.lcm (cmn a b) (cmn c d) = 2 ∨ Nat.lcm (cmn a b) (cmn c d) = 3 ∨ Nat.lcm (cmn a b) (cmn c d) = 6 := by decide +kernel
  exact this _ _ _ _
/-- a moment that is enough for a length and a time -/
theorem mom_for {rg : Bool} {m n t : Nat} (hm : m = 1 ∨ m = 2 ∨ m = 3 ∨ m = 6) (hn : 1 ≤ n) : ∃ n' t', (n', t') ∈ momB rg m ∧ 1 ≤ n' ∧ Cfg rg m n t n' t' := by
  obtain ⟨n', t', h1, h2, h3, h4⟩ := to_small (rg := rg) hm n hn t
  exact ⟨n', t', momN_in (by omega) (by omega) h3, h1, h4⟩
theorem find_none {α : Type} {p : α → Bool} {l : List α} (h : l.find? p = none) {x : α} (hx : x ∈ l) : p x = false := by
  rw [List.find?_eq_none] at h
  simpa using h x hx
theorem bnd_part {rg : Bool} {p q : Pat} {n t : Nat} (hp : p.ok) (hq : q.ok) (hn : 1 ≤ n) (h : (momB rg (Nat.lcm (com p) (com q))).find? (fun x => pic rg x.1 x.2 p != pic rg x.1 x.2 q) = none) : pic rg n t p = pic rg n t q := by
  obtain ⟨n', t', h1, h2, h3⟩ := mom_for (rg := rg) (t := t) (lcm_four p q) hn
  have h4 := find_none h h1
  rw [bne_eq_false_iff_eq] at h4
  have h5 := mk_inj h4
  refine mk_congr fun i hi => ?_
  obtain ⟨j, hj, hs⟩ := h3.f i hi
  have e1 := onP_same (e := 0) hs h3.r (by omega) p hp (com_dvd (ps := p.subs) (Nat.dvd_lcm_left _ _))
  have e2 := onP_same (e := 0) hs h3.r (by omega) q hq (com_dvd (ps := q.subs) (Nat.dvd_lcm_right _ _))
  rw [Nat.add_zero, Nat.add_zero] at e1 e2
  rw [e1, e2]
  exact h5 j hj
theorem bnd_dark {rg : Bool} {p : Pat} {n t : Nat} (hp : p.ok) (hn : 1 ≤ n) (h : (momB rg (com p)).find? (fun x => pic rg x.1 x.2 p == 0) = none) : pic rg n t p ≠ 0 := by
  intro h0
  obtain ⟨n', t', h1, h2, h3⟩ := mom_for (rg := rg) (t := t) (com_four p) hn
  have h4 := find_none h h1
  have h5 : ∀ i, i < n → onP rg n t p i = false := fun i hi => by
    have : mk (onP rg n t p) n = mk (fun _ => false) n := by rw [← mk_zero]; exact h0
    exact mk_inj this i hi
  have h6 : pic rg n' t' p = 0 := mk_none fun j hj => by
    obtain ⟨i, hi, hs⟩ := h3.b j hj
    have e1 := onP_same (e := 0) hs h3.r (by omega) p hp (com_dvd (ps := p.subs) (Nat.dvd_refl _))
    rw [Nat.add_zero, Nat.add_zero] at e1
    rw [← e1]; exact h5 i hi
  rw [h6] at h4
  exact absurd h4 (by decide)
theorem bnd_full {rg : Bool} {p : Pat} {n t : Nat} (hp : p.ok) (hn : 1 ≤ n) (h : (momB rg (com p)).find? (fun x => pic rg x.1 x.2 p == 2 ^ x.1 - 1) = none) : pic rg n t p ≠ 2 ^ n - 1 := by
  intro h0
  obtain ⟨n', t', h1, h2, h3⟩ := mom_for (rg := rg) (t := t) (com_four p) hn
  have h4 := find_none h h1
  have h5 : ∀ i, i < n → onP rg n t p i = true := fun i hi => by
    have : mk (onP rg n t p) n = mk (fun _ => true) n := by rw [← mk_all]; exact h0
    exact mk_inj this i hi
  have h6 : pic rg n' t' p = 2 ^ n' - 1 := by
    rw [mk_all]
    refine mk_congr fun j hj => ?_
    obtain ⟨i, hi, hs⟩ := h3.b j hj
    have e1 := onP_same (e := 0) hs h3.r (by omega) p hp (com_dvd (ps := p.subs) (Nat.dvd_refl _))
    rw [Nat.add_zero, Nat.add_zero] at e1
    rw [← e1]; exact h5 i hi
  dsimp only at h4
  rw [h6] at h4
  simp at h4
theorem bnd_moves {rg : Bool} {p : Pat} {n t : Nat} (hp : p.ok) (hn : 1 ≤ n) (h : (momB rg (com p)).find? (fun x => pic rg x.1 x.2 p != pic rg x.1 (x.2 + 1) p) = none) : pic rg n (t + 1) p = pic rg n t p := by
  obtain ⟨n', t', h1, h2, h3⟩ := mom_for (rg := rg) (t := t) (com_four p) hn
  have h4 := find_none h h1
  rw [bne_eq_false_iff_eq] at h4
  have h5 := mk_inj h4
  refine mk_congr fun i hi => ?_
  obtain ⟨j, hj, hs⟩ := h3.f i hi
  have e1 := onP_same (e := 0) hs h3.r (by omega) p hp (com_dvd (ps := p.subs) (Nat.dvd_refl _))
  have e2 := onP_same (e := 1) hs h3.r (by omega) p hp (com_dvd (ps := p.subs) (Nat.dvd_refl _))
  rw [Nat.add_zero, Nat.add_zero] at e1
  rw [e1, e2]
  exact (h5 j hj).symm
end
section
/-! lights seen from the other end -/
def turnP : Pat → Pat
  | .all => .all
  | .none => .none
  | .lamp k => .lamp (-1 - k)
  | .dot k u => .dot (-1 - k) (!u)
  | .comb _ _ => .all
  | .beat e r => .beat e r
  | .not p => .not (turnP p)
  | .bin o p q => .bin o (turnP p) (turnP q)
theorem turn_ok : ∀ {p : Pat}, p.ok → (turnP p).ok ∧ (turnP p).cnt = p.cnt ∧ (turnP p).dep = p.dep
  | .all, _ => ⟨trivial, rfl, rfl⟩
  | .none, _ => ⟨trivial, rfl, rfl⟩
  | .lamp k, h => ⟨⟨by have := h.2; omega, by have := h.1; omega⟩, rfl, rfl⟩
  | .dot k u, h => ⟨⟨by have := h.2; omega, by have := h.1; omega⟩, rfl, rfl⟩
  | .comb e r, h => ⟨trivial, rfl, rfl⟩
  | .beat e r, h => ⟨h, rfl, rfl⟩
  | .not p, h => by
    obtain ⟨a, b, c⟩ := turn_ok (p := p) h
    exact ⟨a, by simp only [turnP, Pat.cnt, b], by simp only [turnP, Pat.dep, c]⟩
  | .bin o p q, h => by
    obtain ⟨a, b, c⟩ := turn_ok (p := p) h.1
    obtain ⟨a2, b2, c2⟩ := turn_ok (p := q) h.2
    exact ⟨⟨a, a2⟩, by simp only [turnP, Pat.cnt, b, b2], by simp only [turnP, Pat.dep, c, c2]⟩
theorem emod_mir {z n : Int} (hn : 0 < n) : (-1 - z) % n = n - 1 - z % n := by
  have h1 := Int.emod_nonneg z (by omega : n ≠ 0)
  have h2 := Int.emod_lt_of_pos z hn
  have h3 := Int.mul_ediv_add_emod z n
  have e := Int.add_mul_emod_self_left (n - 1 - z % n) n (-(z / n) - 1)
  have : -1 - z = n - 1 - z % n + n * (-(z / n) - 1) := by rw [Int.mul_sub, Int.mul_neg]; omega
  rw [this, e]
  exact Int.emod_eq_of_lt (by omega) (by omega)
theorem dot_mir {rg : Bool} {n t : Nat} {k : Int} {u : Bool} (hn : 1 ≤ n) : dotAt rg n t (-1 - k) (!u) = n - 1 - dotAt rg n t k u := by
  have hk := emod_mir (z := k) (n := n) (by omega)
  unfold dotAt
  cases rg
  · simp only [Bool.false_eq_true, if_false]
    by_cases h1 : 1 < (n : Int)
    · rw [if_pos h1, if_pos h1]
      have hr : rnd false n = 2 * ((n : Int) - 1) := by unfold rnd; simp only [Bool.false_eq_true, if_false]; rw [if_pos (by omega)]
      rw [hr, hk]
      generalize k % (n : Int) = s
      have key : ∀ y : Int, (let a := (y - (n - 1)) % (2 * ((n : Int) - 1)); if 2 * ((n : Int) - 1) - a < a then 2 * ((n : Int) - 1) - a else a) = n - 1 - (let a := y % (2 * ((n : Int) - 1)); if 2 * ((n : Int) - 1) - a < a then 2 * ((n : Int) - 1) - a else a) := fun y => by
        have g1 := Int.emod_nonneg y (by omega : 2 * ((n : Int) - 1) ≠ 0)
        have g2 := Int.emod_lt_of_pos y (by omega : 0 < 2 * ((n : Int) - 1))
        have g3 : (y - (n - 1)) % (2 * ((n : Int) - 1)) = (y % (2 * ((n : Int) - 1)) - (n - 1)) % (2 * ((n : Int) - 1)) := by rw [Int.emod_sub_emod]
        dsimp only
        rw [g3]
        generalize y % (2 * ((n : Int) - 1)) = b at g1 g2
        obtain ⟨-, -, -, e1, e2, -⟩ := emod_pick (s := b - ((n : Int) - 1)) (n := 2 * ((n : Int) - 1)) (by omega)
        by_cases hb : b - ((n : Int) - 1) < 0
        · rw [e1 (by omega) hb]; split <;> split <;> omega
        · rw [e2 (by omega) (by omega)]; split <;> split <;> omega
      cases u
      · simp only [Bool.not_false, if_true, Bool.false_eq_true, if_false]
        have z := key ((t : Int) - s + (2 * (n - 1)))
        have z1 : (t : Int) - s + 2 * (n - 1) - (n - 1) = t + (n - 1 - s) := by omega
        have z2 : ((t : Int) - s + 2 * (n - 1)) % (2 * (n - 1)) = ((t : Int) - s) % (2 * (n - 1)) := by
          have := Int.add_mul_emod_self_left ((t : Int) - s) (2 * ((n : Int) - 1)) 1
          rw [Int.mul_one] at this; exact this
        rw [z1, z2] at z
        exact z
      · simp only [Bool.not_true, if_true, Bool.false_eq_true, if_false]
        have z := key ((t : Int) + s)
        have z1 : (t : Int) + s - (n - 1) = t - (n - 1 - s) := by omega
        rw [z1] at z
        exact z
    · rw [if_neg h1, if_neg h1]; omega
  · simp only [if_true]
    have e1 : ∀ x : Int, (x % n + t) % n = (x + t) % n := fun x => Int.emod_add_emod ..
    have e2 : ∀ x : Int, (x % n - t) % n = (x - t) % n := fun x => Int.emod_sub_emod ..
    cases u
    · simp only [Bool.not_false, if_true, Bool.false_eq_true, if_false]
      rw [e1, e2, ← emod_mir (by omega)]
      congr 1; omega
    · simp only [Bool.not_true, if_true, Bool.false_eq_true, if_false]
      rw [e1, e2, ← emod_mir (by omega)]
      congr 1; omega
/-- a pattern without combs -/
def noC : Pat → Prop
  | .comb _ _ => False
  | .not p => noC p
  | .bin _ p q => noC p ∧ noC q
  | _ => True
theorem turn_noC : ∀ p : Pat, noC (turnP p)
  | .all => trivial
  | .none => trivial
  | .lamp k => trivial
  | .dot k u => trivial
  | .comb e r => trivial
  | .beat e r => trivial
  | .not p => turn_noC p
  | .bin o p q => ⟨turn_noC p, turn_noC q⟩
theorem onP_mir {rg : Bool} {n t i : Nat} (hn : 1 ≤ n) (hi : i < n) : ∀ p : Pat, noC p → p.ok → onP rg n t (turnP p) i = onP rg n t p (n - 1 - i)
  | .all, _, _ => rfl
  | .none, _, _ => rfl
  | .lamp k, _, h => by
    show decide ((i : Int) = if 0 ≤ -1 - k then -1 - k else n + (-1 - k)) = decide (((n - 1 - i : Nat) : Int) = if 0 ≤ k then k else n + k)
    refine decide_eq_decide.mpr ?_
    split <;> split <;> omega
  | .dot k u, _, _ => by
    show decide ((i : Int) = dotAt rg n t (-1 - k) (!u)) = decide (((n - 1 - i : Nat) : Int) = dotAt rg n t k u)
    rw [dot_mir hn]
    refine decide_eq_decide.mpr ?_
    omega
  | .comb e r, h, _ => h.elim
  | .beat e r, _, _ => rfl
  | .not p, h, ho => by
    show (!onP rg n t (turnP p) i) = !onP rg n t p (n - 1 - i)
    rw [onP_mir hn hi p h ho]
  | .bin o p q, h, ho => by
    have h1 := onP_mir (rg := rg) (t := t) hn hi p h.1 ho.1
    have h2 := onP_mir (rg := rg) (t := t) hn hi q h.2 ho.2
    cases o
    · show (onP rg n t (turnP p) i && onP rg n t (turnP q) i) = _
      rw [h1, h2]; rfl
    · show (onP rg n t (turnP p) i || onP rg n t (turnP q) i) = _
      rw [h1, h2]; rfl
    · show (xor (onP rg n t (turnP p) i) (onP rg n t (turnP q) i)) = _
      rw [h1, h2]; rfl
/-! the lists of lamps -/
theorem lampsD_nat (f : Nat → Bool) (n : Nat) : lampsD f n = natD (lampsF f n) := rfl
theorem lampsF_congr {f g : Nat → Bool} {n : Nat} (h : mk f n = mk g n) : lampsF f n = lampsF g n := by
  unfold lampsF
  exact List.filter_congr fun i hi => mk_inj h i (List.mem_range.mp hi)
theorem lampsF_nil {f : Nat → Bool} {n : Nat} (h : lampsF f n = []) : mk f n = 0 := by
  refine mk_none fun i hi => ?_
  unfold lampsF at h
  rw [List.filter_eq_nil_iff] at h
  simpa using h i (List.mem_range.mpr hi)
theorem lampsF_full {f : Nat → Bool} {n : Nat} (h : (lampsF f n).length = n) : mk f n = 2 ^ n - 1 := by
  rw [mk_all]
  refine mk_congr fun i hi => ?_
  unfold lampsF at h
  have h2 : ((List.range n).filter f).length = (List.range n).length := by rw [h, List.length_range]
  rw [List.length_filter_eq_length_iff] at h2
  exact h2 i (List.mem_range.mpr hi)
theorem range_rev (n : Nat) : (List.range n).reverse = (List.range n).map (n - 1 - ·) := by
  have := List.reverse_range' (s := 0) (n := n)
  rw [← List.range_eq_range'] at this
  rw [this]
  refine List.map_congr_left fun i _ => ?_
  omega
theorem lamps_mir {f g : Nat → Bool} {n : Nat} (h : ∀ i, i < n → g i = f (n - 1 - i)) : lampsF g n = ((lampsF f n).map (n - 1 - ·)).reverse := by
  unfold lampsF
  rw [← List.map_reverse, ← List.filter_reverse, range_rev, List.filter_map, List.map_map]
  have e1 : (List.range n).filter (f ∘ (n - 1 - ·)) = (List.range n).filter g := List.filter_congr fun i hi => (h i (List.mem_range.mp hi)).symm
  rw [e1]
  conv => lhs; rw [← List.map_id ((List.range n).filter g)]
  refine List.map_congr_left fun i hi => ?_
  have := List.mem_range.mp (List.mem_filter.mp hi).1
  show i = n - 1 - (n - 1 - i)
  omega
theorem sort_ints {ys : List Nat} {zs : List Int} (hz : (zs.Perm (ys.map fun (i : Nat) => (i : Int)))) (hs : ys.Pairwise (· < ·)) : sortD (zs.map .int) = natD ys := by
  have e : (zs.map D.int).mergeSort (PySem.W.dataLe false D.py) = (zs.mergeSort (PySem.W.dataLe false fun z : Int => PyData.int z)).map D.int := (List.map_mergeSort (r := PySem.W.dataLe false fun z : Int => PyData.int z) (s := PySem.W.dataLe false D.py) (f := D.int) (fun _ _ _ _ => rfl)).symm
  unfold sortD
  rw [e]
  have e2 : (PySem.W.dataLe false fun z : Int => PyData.int z) = fun a b : Int => decide (a ≤ b) := PySem.W.dataLe_int (fun z : Int => z)
  rw [e2]
  have e3 : zs.mergeSort (fun a b : Int => decide (a ≤ b)) = ys.map fun (i : Nat) => (i : Int) := by
    refine List.Perm.eq_of_pairwise (le := fun a b : Int => a ≤ b) (fun a b _ _ h1 h2 => by omega) ?_ ?_ ((List.mergeSort_perm _ _).trans hz)
    · have := List.pairwise_mergeSort (le := fun a b : Int => decide (a ≤ b)) (fun a b c h1 h2 => by rw [decide_eq_true_eq] at *; omega) (fun a b => by rw [Bool.or_eq_true, decide_eq_true_eq, decide_eq_true_eq]; omega) zs
      exact this.imp fun h => by rwa [decide_eq_true_eq] at h
    · rw [List.pairwise_map]
      exact hs.imp fun h => by omega
  rw [e3]
  unfold natD
  rw [List.map_map]; rfl
theorem lamps_sorted (f : Nat → Bool) (n : Nat) : (lampsF f n).Pairwise (· < ·) := List.Pairwise.filter _ List.pairwise_lt_range
/-- what the law sorts -/
theorem sort_mir {rg : Bool} {n t : Nat} {p : Pat} (hn : 1 ≤ n) (hp : noC p) (ho : p.ok) : sortD ((lampsD (onP rg n t p) n).map fun d => .int ((n : Int) - 1 - intOf d)) = lampsD (onP rg n t (turnP p)) n := by
  have e : (lampsD (onP rg n t p) n).map (fun d => D.int ((n : Int) - 1 - intOf d)) = ((lampsF (onP rg n t p) n).map fun (i : Nat) => (n : Int) - 1 - (i : Int)).map D.int := by
    unfold lampsD
    rw [List.map_map, List.map_map]; rfl
  rw [e, lampsD_nat, sort_ints (ys := lampsF (onP rg n t (turnP p)) n) ?_ (lamps_sorted _ _)]
  rw [lamps_mir (f := onP rg n t p) (g := onP rg n t (turnP p)) fun i hi => onP_mir hn hi p hp ho, List.map_reverse, List.map_map]
  refine List.Perm.trans ?_ (List.reverse_perm _).symm
  refine List.Perm.of_eq (List.map_congr_left fun i hi => ?_)
  have := List.mem_range.mp (List.mem_filter.mp hi).1
  show (n : Int) - 1 - i = ((n - 1 - i : Nat) : Int)
  omega
end
section
section
variable {P : Program} {w : World} {K : PySem.W.Frag} {mg : Str → Option Value} {base : Heap} (M : Mod K mg)
include M
def S__law_near (N : Nat) : SpD := fun ds m Q _ => ∃ (a : Addr) (ds0 : List D) (p : Pat), ds = [.loc a, p.d] ∧ m a = some (.l ds0) ∧ DrI ds0 ∧ p.ok ∧ p.dep < N ∧
  ∀ (r : Pat) ds', r.ok → r.cnt ≤ p.cnt + 7 → r.dep ≤ p.dep + 4 → DrI ds' → Q r.d (m.set a (.l ds'))
section
local macro_rules | `(tactic| wtm_at "nm") => `(tactic| first
  | ((with_reducible show AM.CE _ (Expr.Name (Str.ofString "_law_d") _) _ _ _ _); refine AM.W.nm (i := 0) rfl rfl (by wtm_at "vis") ?_)
  | ((with_reducible show AM.CE _ (Expr.Name (Str.ofString "_law_pattern_here") _) _ _ _ _); refine AM.W.nm (i := 1) rfl rfl (by wtm_at "vis") ?_)
  | ((with_reducible show AM.CE _ (Expr.Name (Str.ofString "_law_pick_here") _) _ _ _ _); refine AM.W.nm (i := 2) rfl rfl (by wtm_at "vis") ?_))
local macro_rules | `(tactic| wtm_at "fn") => `(tactic| first
  | ((with_reducible show AM.CE _ (Expr.Call (Expr.Name (Str.ofString "_law_below") _) _ _ _) _ _ _ _); refine AM.W.call f__law_below hr (by first | decide | omega) ?_)
  | ((with_reducible show AM.CE _ (Expr.Call (Expr.Name (Str.ofString "_law_leaf") _) _ _ _) _ _ _ _); refine AM.W.call f__law_leaf hr (by first | decide | omega) ?_)
  | ((with_reducible show AM.CE _ (Expr.Call (Expr.Name (Str.ofString "_law_near") _) _ _ _) _ _ _ _); refine AM.W.call f__law_near hr (by first | decide | omega) ?_))
local macro_rules | `(tactic| wtm_at "ca") => `(tactic| first
  | ((with_reducible first | show AM.S__law_below _ _ _ _ | show AM.S__law_below _ _ _ _ _ | show AM.S__law_below _ _ _ _ _ _); first | refine AM.S__law_below.mk ?_ | refine AM.S__law_below.mk M ?_)
  | ((with_reducible first | show AM.S__law_leaf _ _ _ _ | show AM.S__law_leaf _ _ _ _ _ | show AM.S__law_leaf _ _ _ _ _ _); first | refine AM.S__law_leaf.mk ?_ | refine AM.S__law_leaf.mk M ?_)
  | ((with_reducible first | show AM.S__law_near _ _ _ _ | show AM.S__law_near _ _ _ _ _ | show AM.S__law_near _ _ _ _ _ _); first | refine AM.S__law_near.mk ?_ | refine AM.S__law_near.mk M ?_))
local macro_rules | `(tactic| wtm_at "as") => `(tactic| first
  | ((with_reducible show AM.CS _ (Stmt.Assign [Expr.Name (Str.ofString "_law_pick_here") _] _ _) _ _ _); refine AM.CS.set (i := 2) rfl (by wtm_at "loc") ?_ sc__law_near.nd (.inl rfl)))
local macro_rules | `(tactic| wtm_at "fc") => `(tactic| first
  | exact M.f_Lights_own_shape
  | exact M.f_Lights_own_pattern
  | exact M.f_Moment_way_round
  | exact M.f_Moment_is_chain
  | exact M.f_Moment_many
  | exact M.f_Moment_now
  | exact M.f_Plainly_own_shape
  | exact M.f_Plainly_own_pattern)
theorem b__law_near : ∀ N, FnG P w K mg base "_law_near" (4 + N) (S__law_near N) := fun N => by
  induction N with
  | zero => exact gD (k := 3) M.D__law_near sc__law_near (fun ds m Q E ⟨_, _, _, _, _, _, _, h, _⟩ => absurd h (Nat.not_lt_zero _)) fun f cdv A outer s0 H E hr ds m Q Ex ⟨_, _, _, _, _, _, _, h, _⟩ => absurd h (Nat.not_lt_zero _)
  | succ N ih =>
    refine gD (k := 4 + N) M.D__law_near sc__law_near (fun ds m Q E ⟨_, _, _, h, _⟩ => by rw [h]; rfl) fun f cdv A outer s0 H E hr ds m Q Ex ⟨a, ds0, p, h, hm, h1, ho, hd, q⟩ => ?_
    subst h
    have f__law_below := b__law_below (P := P) (w := w) (base := base) M
    have f__law_leaf := b__law_leaf (P := P) (w := w) (base := base) M
    have f__law_near := ih
    wtm_at "go"
    intro r ds1 g1 g2 g3
    wtm_at "go"
    refine ifD (fun hc => ?_) (fun n0 => ?_)
    · wtm_at "go"
      exact q (.not (.not p)) ds1 ho (by simp only [Pat.cnt]; omega) (by simp only [Pat.dep]; omega) g3
    wtm_at "go"
    refine ifD (fun hc => ?_) (fun n1 => ?_)
    · wtm_at "go"
      exact q (.bin .unl (.bin .unl p (.beat 2 1)) (.beat 2 1)) ds1 ⟨⟨ho, ⟨by decide, by decide, by decide⟩⟩, ⟨by decide, by decide, by decide⟩⟩ (by simp only [Pat.cnt]; omega) (by simp only [Pat.dep]; omega) g3
    wtm_at "go"
    refine ifD (fun hc => ?_) (fun n2 => ?_)
    · wtm_at "go"
      exact q (.bin .or p (.bin .and (.comb 2 0) (.comb 2 1))) ds1 ⟨ho, ⟨by decide, by decide, by decide⟩, ⟨by decide, by decide, by decide⟩⟩ (by simp only [Pat.cnt]; omega) (by simp only [Pat.dep]; omega) g3
    wtm_at "go"
    refine ifD (fun hc => ?_) (fun n3 => ?_)
    · wtm_at "go"
      exact q (.bin .or p (.bin .and (.dot 0 true) (.bin .and (.dot 0 false) (.lamp 2)))) ds1 ⟨ho, ⟨by decide, by decide⟩, ⟨by decide, by decide⟩, ⟨by decide, by decide⟩⟩ (by simp only [Pat.cnt]; omega) (by simp only [Pat.dep]; omega) g3
    wtm_at "go"
    refine ifD (fun hc => ?_) (fun n4 => ?_)
    · wtm_at "go"
      exact q (.bin .and p (.not (.bin .and (.dot (-1) true) (.bin .and (.dot 1 false) (.comb 3 1))))) ds1 ⟨ho, ⟨by decide, by decide⟩, ⟨by decide, by decide⟩, ⟨by decide, by decide, by decide⟩⟩ (by simp only [Pat.cnt]; omega) (by simp only [Pat.dep]; omega) g3
    wtm_at "s"
    show CSs _ _ _ _ _
    have hcase : (∃ o p1 p2, p = .bin o p1 p2) ∨ (∃ p1, p = .not p1) ∨ ∃ s its, p.d = .tup (.str s :: its) ∧ inS s (List.map strOf [D.str "and", D.str "or", D.str "unlike"]) = false ∧ decide (s = "not") = false := by
      cases p with
      | bin o p1 p2 => exact .inl ⟨o, p1, p2, rfl⟩
      | not p1 => exact .inr (.inl ⟨p1, rfl⟩)
      | all => exact .inr (.inr ⟨"all", _, Pat.d_eq _, by decide +kernel, by decide +kernel⟩)
      | none => exact .inr (.inr ⟨"none", _, Pat.d_eq _, by decide +kernel, by decide +kernel⟩)
      | lamp k => exact .inr (.inr ⟨"lamp", _, Pat.d_eq _, by decide +kernel, by decide +kernel⟩)
      | dot k u => exact .inr (.inr ⟨"dot", _, Pat.d_eq _, by decide +kernel, by decide +kernel⟩)
      | comb e x => exact .inr (.inr ⟨"comb", _, Pat.d_eq _, by decide +kernel, by decide +kernel⟩)
      | beat e x => exact .inr (.inr ⟨"beat", _, Pat.d_eq _, by decide +kernel, by decide +kernel⟩)
    rcases hcase with ⟨o, p1, p2, rfl⟩ | ⟨p1, rfl⟩ | ⟨s, its, hpd, hs1, hs2⟩
    · have hop2 : inS o.s (List.map strOf [D.str "and", D.str "or", D.str "unlike"]) = true := by cases o <;> decide +kernel
      simp only [Pat.dep] at hd
      show CSs _ _ (List.set (startD _ [_, .tup [.str o.s, p1.d, p2.d]]) _ _) _ _
      wtm_at "go"
      refine ifD (fun hc => ?_) (fun n5 => ?_)
      · wtm_at "go"
        exact q (.bin o p2 p1) ds1 ⟨ho.2, ho.1⟩ (by simp only [Pat.cnt]; omega) (by simp only [Pat.dep]; omega) g3
      · wtm_at "go"
        refine ifD (fun hc => ?_) (fun n6 => ?_)
        · wtm_at "go"
          refine ⟨a, _, p2, rfl, by wtm_at "mu", g3, ho.2, by omega, ?_⟩
          intro r2 ds2 g4 g5 g6 g7
          wtm_at "go"
          simp only [Mu.set_set]
          exact q (.bin o p1 r2) ds2 ⟨ho.1, g4⟩ (by simp only [Pat.cnt]; omega) (by simp only [Pat.dep]; omega) g7
        · wtm_at "go"
          intro r2 ds2 g4 g5 g6 g7
          wtm_at "go"
          simp only [Mu.set_set]
          exact q (.bin o p1 r2) ds2 ⟨ho.1, g4⟩ (by simp only [Pat.cnt]; omega) (by simp only [Pat.dep]; omega) g7
    · simp only [Pat.dep] at hd
      show CSs _ _ (List.set (startD _ [_, .tup [.str "not", p1.d]]) _ _) _ _
      refine CSs.mid (fun Δ' m' => Δ' = [some (.loc a), some (.tup [.str "not", p1.d]), some (.int r)] ∧ m' = m.set a (.l ds1)) ?_ (fun Δ' m' ⟨hx, hm⟩ => ?_)
      · wtm_at "go"
        refine ifD (fun hc => ?_) (fun n5 => ?_)
        · wtm_at "go"
          exact ⟨rfl, rfl⟩
        · wtm_at "go"
          exact ⟨rfl, rfl⟩
      subst hx; subst hm
      wtm_at "go"
      refine ⟨a, _, p1, rfl, by wtm_at "mu", g3, ho, by omega, ?_⟩
      intro r2 ds2 g4 g5 g6 g7
      wtm_at "go"
      simp only [Mu.set_set]
      exact q (.not r2) ds2 g4 (by simp only [Pat.cnt]; omega) (by simp only [Pat.dep]; omega) g7
    · rw [hpd]
      refine CSs.mid (fun Δ' m' => Δ' = [some (.loc a), some (.tup (.str s :: its)), some (.int r)] ∧ m' = m.set a (.l ds1)) ?_ (fun Δ' m' ⟨hx, hm⟩ => ?_)
      · wtm_at "go"
        refine ifD (fun hc => ?_) (fun n5 => ?_)
        · wtm_at "go"
          exact ⟨rfl, rfl⟩
        · wtm_at "go"
          exact ⟨rfl, rfl⟩
      subst hx; subst hm
      wtm_at "go"
      intro r2 ds2 g4 g5 g6 g7
      wtm_at "go"
      simp only [Mu.set_set]
      exact q r2 ds2 g4 (by omega) (by omega) g7
end
end
end
section
theorem out3_non {f : Nat × Nat → Nat → Bool} {o : Option (Nat × Nat)} : (out3 f o).isNon = o.isNone := by cases o <;> rfl
theorem outD_non {o : Option (Nat × Nat)} : (outD o).isNon = o.isNone := by cases o <;> rfl
theorem lamps_py {f : Nat → Bool} {n : Nat} : (D.lst (lampsD f n)).isPy = true := natD_isPy
theorem lamps_depth {f : Nat → Bool} {n : Nat} : (D.lst (lampsD f n)).py.depth ≤ 64 := natD_dep
theorem lamps_eqv {f g : Nat → Bool} {n k : Nat} : PyData.eqv (D.lst (lampsD f n)).py (D.lst (lampsD g k)).py = decide (lampsF f n = lampsF g k) := natD_eq
theorem lamps_nil {f : Nat → Bool} {n : Nat} : PyData.eqv (D.lst (lampsD f n)).py (D.lst []).py = decide (lampsF f n = []) := natD_eq (k := [])
theorem lamps_ln {f : Nat → Bool} {n : Nat} : (lampsD f n).length = (lampsF f n).length := List.length_map ..
theorem isN_nat {n k : Nat} (h : k ≤ n) : isN (.int (n : Nat)) (k : Nat) = true := by
  unfold isN
  simp; omega
section
variable {P : Program} {w : World} {K : PySem.W.Frag} {mg : Str → Option Value} {base : Heap} (M : Mod K mg)
include M
theorem S_picture.mk {L : D} {rg : Bool} {p : Pat} {nv tv : Int} {n t : Nat} {m : Mu} {Q : D → Mu → Prop} {E : Addr → Option (List (Str × D)) → Mu → Prop} (hL : LtD (K := K) L rg p) (hn : nv = n) (ht : tv = t) (h : p.dep < 10 ∧ p.ok ∧ 1 ≤ n ∧ n ≤ 90000 ∧ Q (.lst (lampsD (onP rg n t p) n)) m) : S_picture M [L, .int nv, .int tv] m Q E := by
  subst hn; subst ht
  obtain ⟨h1, h2, h3, h4, h5⟩ := h
  refine ⟨L, rg, p, _, _, rfl, hL, h1, h2, ⟨_, rfl⟩, ⟨_, rfl⟩, ?_⟩
  have e1 : isN (.int (n : Nat)) 1 = true := isN_nat (k := 1) h3
  have e2 : isN (.int (t : Nat)) 0 = true := isN_nat (k := 0) (Nat.zero_le _)
  rw [if_pos e1, if_pos e2]
  exact ⟨n, t, rfl, rfl, h3, h4, h5⟩
def S__law_claims : SpD := fun ds m Q _ => ∃ (a : Addr) (ds0 : List D) (La Lb : D) (rg : Bool) (p q : Pat), ds = [.loc a, La, Lb] ∧ m a = some (.l ds0) ∧ DrI ds0 ∧ LtD (K := K) La rg p ∧ LtD (K := K) Lb rg q ∧ p.dep < 9 ∧ p.cnt < 1000 ∧ p.ok ∧ q.dep < 9 ∧ q.cnt < 1000 ∧ q.ok ∧
  ∀ ds', DrI ds' → Q (.bl true) (m.set a (.l ds'))
section
local macro_rules | `(tactic| wtm_at "nm") => `(tactic| first
  | ((with_reducible show AM.CE _ (Expr.Name (Str.ofString "_law_d") _) _ _ _ _); refine AM.W.nm (i := 0) rfl rfl (by wtm_at "vis") ?_)
  | ((with_reducible show AM.CE _ (Expr.Name (Str.ofString "_law_lights_here") _) _ _ _ _); refine AM.W.nm (i := 1) rfl rfl (by wtm_at "vis") ?_)
  | ((with_reducible show AM.CE _ (Expr.Name (Str.ofString "_law_other") _) _ _ _ _); refine AM.W.nm (i := 2) rfl rfl (by wtm_at "vis") ?_)
  | ((with_reducible show AM.CE _ (Expr.Name (Str.ofString "_law_n") _) _ _ _ _); refine AM.W.nm (i := 3) rfl rfl (by wtm_at "vis") ?_)
  | ((with_reducible show AM.CE _ (Expr.Name (Str.ofString "_law_t") _) _ _ _ _); refine AM.W.nm (i := 4) rfl rfl (by wtm_at "vis") ?_)
  | ((with_reducible show AM.CE _ (Expr.Name (Str.ofString "_law_now") _) _ _ _ _); refine AM.W.nm (i := 5) rfl rfl (by wtm_at "vis") ?_)
  | ((with_reducible show AM.CE _ (Expr.Name (Str.ofString "_law_small") _) _ _ _ _); refine AM.W.nm (i := 6) rfl rfl (by wtm_at "vis") ?_))
local macro_rules | `(tactic| wtm_at "fn") => `(tactic| first
  | ((with_reducible show AM.CE _ (Expr.Call (Expr.Name (Str.ofString "_law_below") _) _ _ _) _ _ _ _); refine AM.W.call f__law_below hr (by first | decide | omega) ?_)
  | ((with_reducible show AM.CE _ (Expr.Call (Expr.Name (Str.ofString "picture") _) _ _ _) _ _ _ _); refine AM.W.call f_picture hr (by first | decide | omega) ?_)
  | ((with_reducible show AM.CE _ (Expr.Call (Expr.Name (Str.ofString "parting") _) _ _ _) _ _ _ _); refine AM.W.call f_parting hr (by first | decide | omega) ?_)
  | ((with_reducible show AM.CE _ (Expr.Call (Expr.Name (Str.ofString "moves") _) _ _ _) _ _ _ _); refine AM.W.call f_moves hr (by first | decide | omega) ?_)
  | ((with_reducible show AM.CE _ (Expr.Call (Expr.Name (Str.ofString "dark") _) _ _ _) _ _ _ _); refine AM.W.call f_dark hr (by first | decide | omega) ?_)
  | ((with_reducible show AM.CE _ (Expr.Call (Expr.Name (Str.ofString "full") _) _ _ _) _ _ _ _); refine AM.W.call f_full hr (by first | decide | omega) ?_)
  | ((with_reducible show AM.CE _ (Expr.Call (Expr.Name (Str.ofString "comes_round") _) _ _ _) _ _ _ _); refine AM.W.call f_comes_round hr (by first | decide | omega) ?_)
  | ((with_reducible show AM.CE _ (Expr.Call (Expr.Name (Str.ofString "len") _) _ _ _) _ _ _ _); refine AM.W.len M.NB_len ?_))
local macro_rules | `(tactic| wtm_at "ca") => `(tactic| first
  | ((with_reducible first | show AM.S__law_below _ _ _ _ | show AM.S__law_below _ _ _ _ _ | show AM.S__law_below _ _ _ _ _ _); first | refine AM.S__law_below.mk ?_ | refine AM.S__law_below.mk M ?_)
  | ((with_reducible first | show AM.S_picture _ _ _ _ | show AM.S_picture _ _ _ _ _ | show AM.S_picture _ _ _ _ _ _); first | refine AM.S_picture.mk ?_ | refine AM.S_picture.mk M ?_)
  | ((with_reducible first | show AM.S_parting _ _ _ _ | show AM.S_parting _ _ _ _ _ | show AM.S_parting _ _ _ _ _ _); first | refine AM.S_parting.mk ?_ | refine AM.S_parting.mk M ?_)
  | ((with_reducible first | show AM.S_moves _ _ _ _ | show AM.S_moves _ _ _ _ _ | show AM.S_moves _ _ _ _ _ _); first | refine AM.S_moves.mk ?_ | refine AM.S_moves.mk M ?_)
  | ((with_reducible first | show AM.S_dark _ _ _ _ | show AM.S_dark _ _ _ _ _ | show AM.S_dark _ _ _ _ _ _); first | refine AM.S_dark.mk ?_ | refine AM.S_dark.mk M ?_)
  | ((with_reducible first | show AM.S_full _ _ _ _ | show AM.S_full _ _ _ _ _ | show AM.S_full _ _ _ _ _ _); first | refine AM.S_full.mk ?_ | refine AM.S_full.mk M ?_)
  | ((with_reducible first | show AM.S_comes_round _ _ _ _ | show AM.S_comes_round _ _ _ _ _ | show AM.S_comes_round _ _ _ _ _ _); first | refine AM.S_comes_round.mk ?_ | refine AM.S_comes_round.mk M ?_))
local macro_rules | `(tactic| wtm_at "as") => `(tactic| first
  | ((with_reducible show AM.CS _ (Stmt.Assign [Expr.Name (Str.ofString "_law_n") _] _ _) _ _ _); refine AM.CS.set (i := 3) rfl (by wtm_at "loc") ?_ sc__law_claims.nd (.inl rfl))
  | ((with_reducible show AM.CS _ (Stmt.Assign [Expr.Name (Str.ofString "_law_t") _] _ _) _ _ _); refine AM.CS.set (i := 4) rfl (by wtm_at "loc") ?_ sc__law_claims.nd (.inl rfl))
  | ((with_reducible show AM.CS _ (Stmt.Assign [Expr.Name (Str.ofString "_law_now") _] _ _) _ _ _); refine AM.CS.set (i := 5) rfl (by wtm_at "loc") ?_ sc__law_claims.nd (.inl rfl))
  | ((with_reducible show AM.CS _ (Stmt.Assign [Expr.Name (Str.ofString "_law_small") _] _ _) _ _ _); refine AM.CS.set (i := 6) rfl (by wtm_at "loc") ?_ sc__law_claims.nd (.inl rfl)))
local macro_rules | `(tactic| wtm_at "fc") => `(tactic| first
  | exact M.f_Lights_own_shape
  | exact M.f_Lights_own_pattern
  | exact M.f_Moment_way_round
  | exact M.f_Moment_is_chain
  | exact M.f_Moment_many
  | exact M.f_Moment_now
  | exact M.f_Plainly_own_shape
  | exact M.f_Plainly_own_pattern)
theorem b__law_claims : FnG P w K mg base "_law_claims" 20 (S__law_claims (K := K)) :=
  gD M.D__law_claims sc__law_claims (fun ds m Q E ⟨_, _, _, _, _, _, _, h, _⟩ => by rw [h]; rfl) fun f cdv A outer s0 H E hr ds m Q Ex ⟨a, ds0, La, Lb, rg, p, q2, h, hm, h1, hL1, hL2, hd1, hc1, ho1, hd2, hc2, ho2, q⟩ => by
    subst h
    have f__law_below := b__law_below (P := P) (w := w) (base := base) M
    have f_picture := b_picture (P := P) (w := w) (base := base) M
    have f_parting := b_parting (P := P) (w := w) (base := base) M
    have f_dark := b_dark (P := P) (w := w) (base := base) M
    have f_full := b_full (P := P) (w := w) (base := base) M
    have f_moves := b_moves (P := P) (w := w) (base := base) M
    have f_comes_round := b_comes_round (P := P) (w := w) (base := base) M
    wtm_at "go"
    intro r1 ds1 a1 a2 a3
    wtm_at "go"
    intro r2 ds2 b1 b2 b3
    obtain ⟨n, hn, hn1, hn2⟩ : ∃ n : Nat, (1 : Int) + r1 = n ∧ 1 ≤ n ∧ n ≤ 90 := ⟨(1 + r1).toNat, by omega, by omega, by omega⟩
    obtain ⟨t, rfl, ht2⟩ : ∃ t : Nat, r2 = t ∧ t ≤ 300 := ⟨r2.toNat, by omega, by omega⟩
    rw [hn]
    wtm_at "go"
    refine S_picture.mk M hL1 rfl rfl ⟨by omega, ho1, hn1, by omega, ?_⟩
    show CSs _ _ _ _ _
    refine CSs.mid (fun Δ' m' => Δ' = [some (.loc a), some La, some Lb, some (.int (n : Nat)), some (.int (t : Nat)), some (.lst (lampsD (onP rg n t p) n)), none] ∧ m' = m.set a (.l ds2)) ?_ (fun Δ' m' ⟨hx, hm'⟩ => ?_)
    · wtm_at "go"
      refine ⟨La, Lb, rg, p, rg, q2, rfl, hL1, hL2, by omega, by omega, ho1, by omega, by omega, ho2, ?_⟩
      rw [if_pos rfl]
      show if (prt rg p q2).isNon = true then _ else _
      have e0 : (prt rg p q2).isNon = ((momB rg (lcP p q2)).find? (Bp rg p q2)).isNone := out3_non
      cases e1 : (prt rg p q2).isNon
      · wtm_at "go"
        exact ⟨rfl, by simp only [Mu.set_set]⟩
      · have e2 : lampsF (onP rg n t q2) n = lampsF (onP rg n t p) n := by
          rw [e1] at e0
          exact (lampsF_congr (bnd_part ho1 ho2 hn1 (Option.isNone_iff_eq_none.mp e0.symm))).symm
        wtm_at "go"
        refine S_picture.mk M hL2 rfl rfl ⟨by omega, ho2, hn1, by omega, ?_⟩
        wtm_at "go"
        refine aEq.py lamps_py lamps_py lamps_depth lamps_depth ?_
        rw [lamps_eqv, decide_eq_true e2]
        wtm_at "go"
        exact ⟨rfl, by simp only [Mu.set_set]⟩
    subst hx; subst hm'
    refine CSs.mid (fun Δ' m' => Δ' = [some (.loc a), some La, some Lb, some (.int (n : Nat)), some (.int (t : Nat)), some (.lst (lampsD (onP rg n t p) n)), none] ∧ m' = m.set a (.l ds2)) ?_ (fun Δ' m' ⟨hx, hm'⟩ => ?_)
    · wtm_at "go"
      refine ⟨La, rg, p, rfl, hL1, by omega, by omega, ho1, ?_⟩
      show if (outD _).isNon = true then _ else _
      have e0 : (outD ((momB rg (com p)).find? fun x => pic rg x.1 x.2 p == 0)).isNon = ((momB rg (com p)).find? fun x => pic rg x.1 x.2 p == 0).isNone := outD_non
      have full : ∀ {m1 : Mu} {X : D → Mu → Prop} {Y : Addr → Option (List (Str × D)) → Mu → Prop}, (∀ d : D, (d.isNon = true → ¬ (lampsF (onP rg n t p) n).length = n) → X d m1) → S_full (K := K) [La] m1 X Y := fun {m1 X Y} hX => by
        refine ⟨La, rg, p, rfl, hL1, by omega, by omega, ho1, hX _ fun hd hl => ?_⟩
        rw [outD_non] at hd
        exact bnd_full ho1 hn1 (Option.isNone_iff_eq_none.mp hd) (lampsF_full hl)
      cases e1 : (outD ((momB rg (com p)).find? fun x => pic rg x.1 x.2 p == 0)).isNon
      · wtm_at "go"
        refine full fun d hd => ?_
        show if d.isNon = true then _ else _
        have fl := lamps_ln (f := onP rg n t p) (n := n)
        cases e3 : d.isNon
        · wtm_at "go"
          first | exact ⟨rfl, rfl⟩ | exact rfl
        · have e4 := hd e3
          have e5 : ¬ ((lampsD (onP rg n t p) n).length : Int) = (n : Int) := by omega
          wtm_at "go"
          first | exact ⟨rfl, rfl⟩ | exact rfl
      · have e2 : ¬ lampsF (onP rg n t p) n = [] := fun z => by
          rw [e1] at e0
          exact bnd_dark ho1 hn1 (Option.isNone_iff_eq_none.mp e0.symm) (lampsF_nil z)
        wtm_at "go"
        refine aEq.py lamps_py (by decide +kernel) lamps_depth (by decide +kernel) ?_
        rw [lamps_nil, decide_eq_false e2]
        wtm_at "go"
        refine full fun d hd => ?_
        show if d.isNon = true then _ else _
        have fl := lamps_ln (f := onP rg n t p) (n := n)
        cases e3 : d.isNon
        · wtm_at "go"
          first | exact ⟨rfl, rfl⟩ | exact rfl
        · have e4 := hd e3
          have e5 : ¬ ((lampsD (onP rg n t p) n).length : Int) = (n : Int) := by omega
          wtm_at "go"
          first | exact ⟨rfl, rfl⟩ | exact rfl
    subst hx; subst hm'
    refine CSs.mid (fun Δ' m' => Δ' = [some (.loc a), some La, some Lb, some (.int (n : Nat)), some (.int (t : Nat)), some (.lst (lampsD (onP rg n t p) n)), none] ∧ m' = m.set a (.l ds2)) ?_ (fun Δ' m' ⟨hx, hm'⟩ => ?_)
    · wtm_at "go"
      refine ⟨La, rg, p, rfl, hL1, by omega, by omega, ho1, ?_⟩
      show if (out3 _ _).isNon = true then _ else _
      have e0 : (out3 (chgF rg p) ((momB rg (com p)).find? fun x => pic rg x.1 x.2 p != pic rg x.1 (x.2 + 1) p)).isNon = ((momB rg (com p)).find? fun x => pic rg x.1 x.2 p != pic rg x.1 (x.2 + 1) p).isNone := out3_non
      cases e1 : (out3 (chgF rg p) ((momB rg (com p)).find? fun x => pic rg x.1 x.2 p != pic rg x.1 (x.2 + 1) p)).isNon
      · wtm_at "go"
        first | exact ⟨rfl, rfl⟩ | exact rfl
      · have e2 : lampsF (onP rg n (t + 1) p) n = lampsF (onP rg n t p) n := by
          rw [e1] at e0
          exact lampsF_congr (bnd_moves ho1 hn1 (Option.isNone_iff_eq_none.mp e0.symm))
        wtm_at "go"
        refine S_picture.mk M hL1 rfl (t := t + 1) (by push_cast; rfl) ⟨by omega, ho1, hn1, by omega, ?_⟩
        wtm_at "go"
        refine aEq.py lamps_py lamps_py lamps_depth lamps_depth ?_
        rw [lamps_eqv, decide_eq_true e2]
        wtm_at "go"
        first | exact ⟨rfl, rfl⟩ | exact rfl
    subst hx; subst hm'
    obtain ⟨sm, hsm, hs1, hs2⟩ : ∃ sm : Nat, (1 : Int) + (n : Int) % 12 = sm ∧ 1 ≤ sm ∧ sm ≤ 12 := ⟨1 + n % 12, by omega, by omega, by omega⟩
    wtm_at "go"
    rw [hsm]
    refine S_picture.mk M hL1 rfl rfl ⟨by omega, ho1, hs1, by omega, ?_⟩
    wtm_at "go"
    refine ⟨La, rg, p, _, rfl, hL1, by omega, by omega, ho1, ⟨_, rfl⟩, ?_⟩
    have e1' : isN (.int (sm : Nat)) 1 = true := isN_nat (k := 1) hs1
    rw [if_pos e1']
    refine ⟨sm, rfl, by omega, fun T hT => ?_⟩
    wtm_at "go"
    refine S_picture.mk M hL1 rfl (t := t + T) (by push_cast; rfl) ⟨by omega, ho1, hs1, by omega, ?_⟩
    have e2 : lampsF (onP rg sm t p) sm = lampsF (onP rg sm (t + T) p) sm := (lampsF_congr (hT.2.1 t)).symm
    refine aEq.py lamps_py lamps_py lamps_depth lamps_depth ?_
    rw [lamps_eqv, decide_eq_true e2]
    exact q ds2 b3
end
end
end
section
section
variable {P : Program} {w : World} {K : PySem.W.Frag} {mg : Str → Option Value} {base : Heap} (M : Mod K mg)
include M
def S__law_turned (N : Nat) : SpD := fun ds m Q _ => ∃ p : Pat, ds = [p.d] ∧ p.dep < N ∧ p.ok ∧ Q (turnP p).d m
omit M in
theorem S__law_turned.mk {N : Nat} {p : Pat} {m : Mu} {Q : D → Mu → Prop} {E : Addr → Option (List (Str × D)) → Mu → Prop} (h : p.dep < N ∧ p.ok ∧ Q (turnP p).d m) : S__law_turned N [p.d] m Q E := ⟨p, rfl, h⟩
section
local macro_rules | `(tactic| wtm_at "nm") => `(tactic| first
  | ((with_reducible show AM.CE _ (Expr.Name (Str.ofString "_law_pattern_here") _) _ _ _ _); refine AM.W.nm (i := 0) rfl rfl (by wtm_at "vis") ?_)
  | ((with_reducible show AM.CE _ (Expr.Name (Str.ofString "_law_item") _) _ _ _ _); refine AM.W.nm (i := 1) rfl rfl (by wtm_at "vis") ?_))
local macro_rules | `(tactic| wtm_at "fn") => `(tactic| first
  | ((with_reducible show AM.CE _ (Expr.Call (Expr.Name (Str.ofString "_law_turned") _) _ _ _) _ _ _ _); refine AM.W.call f__law_turned hr (by first | decide | omega) ?_)
  | ((with_reducible show AM.CE _ (Expr.Call (Expr.Name (Str.ofString "tuple") _) _ _ _) _ _ _ _); refine AM.W.tupleOf M.NB_tuple ?_)
  | ((with_reducible show AM.CE _ (Expr.Call (Expr.Name (Str.ofString "int") _) _ _ _) _ _ _ _); refine AM.W.intI M.NB_int ?_)
  | ((with_reducible show AM.CE _ (Expr.Call (Expr.Name (Str.ofString "isinstance") _) [_, Expr.Name (Str.ofString "int") _] _ _) _ _ _ _); refine AM.W.isi AM.TyS.int M.NB_isinstance M.NB_int ?_)
  | ((with_reducible show AM.CE _ (Expr.Call (Expr.Name (Str.ofString "isinstance") _) [_, Expr.Name (Str.ofString "tuple") _] _ _) _ _ _ _); refine AM.W.isi AM.TyS.tuple M.NB_isinstance M.NB_tuple ?_))
local macro_rules | `(tactic| wtm_at "ca") => `(tactic| first
  | ((with_reducible first | show AM.S__law_turned _ _ _ _ | show AM.S__law_turned _ _ _ _ _ | show AM.S__law_turned _ _ _ _ _ _); first | refine AM.S__law_turned.mk ?_ | refine AM.S__law_turned.mk M ?_))
local macro_rules | `(tactic| wtm_at "lc") => `(tactic| first
  | ((with_reducible show AM.CE _ (Expr.ListComp _ [⟨Expr.Name (Str.ofString "_law_item") _, _, _, 0⟩] _ _) _ _ _ _); refine AM.CE.lc (own := [("_law_item", 1)]) rfl sc__law_turned.nd (L2.blkOk_by (own := [("_law_item", 1)]) (N := ["_law_pattern_here", "_law_item"]) (sc := defScope s__law_turned) (by decide +kernel)) (AM.CGB.name rfl sc__law_turned.nd (fun _ _ _ _ _ => by wtm_at "loc") (fun _ _ _ _ _ => by first | exact .inr rfl | exact .inl rfl)) ?_))
local macro_rules | `(tactic| wtm_at "lcL") => `(tactic| first
  | ((with_reducible show AM.CE _ (Expr.ListComp _ [⟨Expr.Name (Str.ofString "_law_item") _, _, _, 0⟩] _ _) _ _ _ _); refine AM.CE.lcL (own := [("_law_item", 1)]) rfl sc__law_turned.nd (L2.blkOk_by (own := [("_law_item", 1)]) (N := ["_law_pattern_here", "_law_item"]) (sc := defScope s__law_turned) (by decide +kernel)) (AM.CGB.name rfl sc__law_turned.nd (fun _ _ _ _ _ => by wtm_at "loc") (fun _ _ _ _ _ => by first | exact .inr rfl | exact .inl rfl)) ?_))
local macro_rules | `(tactic| wtm_at "ti") => `(tactic| first
  | ((with_reducible show AM.CI _ (Expr.Name (Str.ofString "_law_item") _) _ _ _ _ _); refine AM.I.tup ?_))
local macro_rules | `(tactic| wtm_at "fc") => `(tactic| first
  | exact M.f_Lights_own_shape
  | exact M.f_Lights_own_pattern
  | exact M.f_Moment_way_round
  | exact M.f_Moment_is_chain
  | exact M.f_Moment_many
  | exact M.f_Moment_now
  | exact M.f_Plainly_own_shape
  | exact M.f_Plainly_own_pattern)
theorem b__law_turned : ∀ N, FnG P w K mg base "_law_turned" (1 + N) (S__law_turned N) := fun N => by
  induction N with
  | zero => exact gD (k := 0) M.D__law_turned sc__law_turned (fun ds m Q E ⟨_, _, h, _⟩ => absurd h (Nat.not_lt_zero _)) fun f cdv A outer s0 H E hr ds m Q Ex ⟨_, _, h, _⟩ => absurd h (Nat.not_lt_zero _)
  | succ N ih =>
    refine gD (k := 1 + N) M.D__law_turned sc__law_turned (fun ds m Q E ⟨_, h, _⟩ => by rw [h]; rfl) fun f cdv A outer s0 H E hr ds m Q Ex ⟨p, h, hd, ho, q⟩ => ?_
    subst h
    have f__law_turned := ih
    cases p with
    | dot k u =>
      cases u
      · wtm_at "go"
        exact q
      · wtm_at "go"
        exact q
    | lamp k =>
      wtm_at "go"
      exact q
    | comb e r =>
      wtm_at "go"
      exact q
    | all =>
      wtm_at "go"
      rw [cutD_tail]
      refine LcD.map1 (fun d => d) (by decide) (fun d acc L hd hL => by cases hd) ?_
      wtm_at "go"
      exact q
    | none =>
      wtm_at "go"
      rw [cutD_tail]
      refine LcD.map1 (fun d => d) (by decide) (fun d acc L hd hL => by cases hd) ?_
      wtm_at "go"
      exact q
    | beat e r =>
      wtm_at "go"
      rw [cutD_tail]
      refine LcD.map1 (fun d => d) (by show 2 ≤ 100000; decide) (fun d acc L hd hL => ⟨_, rfl, fun s2 H2 C cl fp => ?_⟩) ?_
      · obtain ⟨z, rfl⟩ : ∃ z : Int, d = .int z := by
          simp at hd
          rcases hd with rfl | rfl
          · exact ⟨_, rfl⟩
          · exact ⟨_, rfl⟩
        wtm_at "go"
        first | exact ⟨rfl, rfl⟩ | exact rfl
      · wtm_at "go"
        exact q
    | not p =>
      simp only [Pat.dep] at hd
      wtm_at "go"
      rw [cutD_tail]
      refine LcD.map1 (fun d => (turnP p).d) (by show 1 ≤ 100000; decide) (fun d acc L hd2 hL => ⟨_, rfl, fun s2 H2 C cl fp => ?_⟩) ?_
      · obtain rfl := List.mem_singleton.mp hd2
        have htu : isTu p.d = true := Pat.d_tu p
        obtain ⟨n2, hn2⟩ := Pat.pl p
        wtm_at "go"
        refine aTy.mk hn2 ?_
        rw [isT_tu hn2, htu]
        wtm_at "go"
        first | exact ⟨ho, rfl, rfl⟩ | exact ⟨rfl, rfl⟩ | exact rfl
      · wtm_at "go"
        exact q
    | bin o p p2 =>
      obtain ⟨o1, o2⟩ := ho
      simp only [Pat.dep] at hd
      have main : ∀ ps : Str, ps = o.s → CSs (dctx P w K mg base ["_law_pattern_here", "_law_item"] "_law_turned" (defScope s__law_turned) f cdv A outer s0 H E) (defBody s__law_turned) [some (.tup [.str ps, p.d, p2.d]), none] m { nx := fun _ m => Q .non m, rt := Q, ex := fun C o _ m => Ex C o m } := fun ps hps => by
        have n1 : ¬ ps = "dot" := by rw [hps]; cases o <;> decide +kernel
        have n2 : ¬ ps = "lamp" := by rw [hps]; cases o <;> decide +kernel
        have n3 : ¬ ps = "comb" := by rw [hps]; cases o <;> decide +kernel
        wtm_at "go"
        rw [cutD_tail]
        refine LcD.map (fun i d => if i = 0 then (turnP p).d else (turnP p2).d) (by show 2 ≤ 100000; decide) (fun i d acc L hd2 hL => ⟨_, rfl, fun s2 H2 C cl fp => ?_⟩) ?_
        · obtain ⟨p3, rfl, hd4, ho3, he⟩ : ∃ p3 : Pat, d = p3.d ∧ p3.dep < N ∧ p3.ok ∧ (if i = 0 then (turnP p).d else (turnP p2).d) = (turnP p3).d := by
            match i, hd2 with
            | 0, hd2 => exact ⟨p, by cases hd2; rfl, by omega, o1, rfl⟩
            | 1, hd2 => exact ⟨p2, by cases hd2; rfl, by omega, o2, rfl⟩
            | i + 2, hd2 => cases hd2
          have htu : isTu p3.d = true := Pat.d_tu p3
          obtain ⟨n2, hn2⟩ := Pat.pl p3
          rw [he]
          wtm_at "go"
          refine aTy.mk hn2 ?_
          rw [isT_tu hn2, htu]
          wtm_at "go"
          first | exact ⟨ho3, rfl, rfl⟩ | exact ⟨rfl, rfl⟩ | exact rfl
        · wtm_at "go"
          rw [hps]
          exact q
      exact main o.s rfl
end
end
end
section
section
variable {P : Program} {w : World} {K : PySem.W.Frag} {mg : Str → Option Value} {base : Heap} (M : Mod K mg)
include M
section
local macro_rules | `(tactic| wtm_at "nm") => `(tactic| first
  | ((with_reducible show AM.CE _ (Expr.Name (Str.ofString "_law_script") _) _ _ _ _); refine AM.W.nm (i := 0) rfl rfl (by wtm_at "vis") ?_)
  | ((with_reducible show AM.CE _ (Expr.Name (Str.ofString "_law_d") _) _ _ _ _); refine AM.W.nm (i := 1) rfl rfl (by wtm_at "vis") ?_)
  | ((with_reducible show AM.CE _ (Expr.Name (Str.ofString "_law_lights_here") _) _ _ _ _); refine AM.W.nm (i := 2) rfl rfl (by wtm_at "vis") ?_)
  | ((with_reducible show AM.CE _ (Expr.Name (Str.ofString "_law_found") _) _ _ _ _); refine AM.W.nm (i := 3) rfl rfl (by wtm_at "vis") ?_)
  | ((with_reducible show AM.CE _ (Expr.Name (Str.ofString "_law_there") _) _ _ _ _); refine AM.W.nm (i := 4) rfl rfl (by wtm_at "vis") ?_)
  | ((with_reducible show AM.CE _ (Expr.Name (Str.ofString "_law_back") _) _ _ _ _); refine AM.W.nm (i := 5) rfl rfl (by wtm_at "vis") ?_)
  | ((with_reducible show AM.CE _ (Expr.Name (Str.ofString "_law_n") _) _ _ _ _); refine AM.W.nm (i := 6) rfl rfl (by wtm_at "vis") ?_)
  | ((with_reducible show AM.CE _ (Expr.Name (Str.ofString "_law_t") _) _ _ _ _); refine AM.W.nm (i := 7) rfl rfl (by wtm_at "vis") ?_)
  | ((with_reducible show AM.CE _ (Expr.Name (Str.ofString "_law_shape") _) _ _ _ _); refine AM.W.nm (i := 8) rfl rfl (by wtm_at "vis") ?_)
  | ((with_reducible show AM.CE _ (Expr.Name (Str.ofString "_law_pattern_here") _) _ _ _ _); refine AM.W.nm (i := 9) rfl rfl (by wtm_at "vis") ?_)
  | ((with_reducible show AM.CE _ (Expr.Name (Str.ofString "_law_path") _) _ _ _ _); refine AM.W.nm (i := 10) rfl rfl (by wtm_at "vis") ?_)
  | ((with_reducible show AM.CE _ (Expr.Name (Str.ofString "_law_word") _) _ _ _ _); refine AM.W.nm (i := 11) rfl rfl (by wtm_at "vis") ?_)
  | ((with_reducible show AM.CE _ (Expr.Name (Str.ofString "_law_lamp") _) _ _ _ _); refine AM.W.nm (i := 12) rfl rfl (by wtm_at "vis") ?_))
local macro_rules | `(tactic| wtm_at "fn") => `(tactic| first
  | ((with_reducible show AM.CE _ (Expr.Call (Expr.Name (Str.ofString "_law_random") _) _ _ _) _ _ _ _); refine AM.W.call f__law_random hr (by first | decide | omega) ?_)
  | ((with_reducible show AM.CE _ (Expr.Call (Expr.Name (Str.ofString "_law_lights") _) _ _ _) _ _ _ _); refine AM.W.call f__law_lights hr (by first | decide | omega) ?_)
  | ((with_reducible show AM.CE _ (Expr.Call (Expr.Name (Str.ofString "spare") _) _ _ _) _ _ _ _); refine AM.W.call f_spare hr (by first | decide | omega) ?_)
  | ((with_reducible show AM.CE _ (Expr.Call (Expr.Name (Str.ofString "_law_below") _) _ _ _) _ _ _ _); refine AM.W.call f__law_below hr (by first | decide | omega) ?_)
  | ((with_reducible show AM.CE _ (Expr.Call (Expr.Name (Str.ofString "alike") _) _ _ _) _ _ _ _); refine AM.W.call f_alike hr (by first | decide | omega) ?_)
  | ((with_reducible show AM.CE _ (Expr.Call (Expr.Name (Str.ofString "_law_claims") _) _ _ _) _ _ _ _); refine AM.W.call f__law_claims hr (by first | decide | omega) ?_)
  | ((with_reducible show AM.CE _ (Expr.Call (Expr.Name (Str.ofString "_law_turned") _) _ _ _) _ _ _ _); refine AM.W.call f__law_turned hr (by first | decide | omega) ?_)
  | ((with_reducible show AM.CE _ (Expr.Call (Expr.Name (Str.ofString "picture") _) _ _ _) _ _ _ _); refine AM.W.call f_picture hr (by first | decide | omega) ?_)
  | ((with_reducible show AM.CE _ (Expr.Call (Expr.Name (Str.ofString "_law_pattern") _) _ _ _) _ _ _ _); refine AM.W.call f__law_pattern hr (by first | decide | omega) ?_)
  | ((with_reducible show AM.CE _ (Expr.Call (Expr.Name (Str.ofString "_law_near") _) _ _ _) _ _ _ _); refine AM.W.call f__law_near hr (by first | decide | omega) ?_)
  | ((with_reducible show AM.CE _ (Expr.Call (Expr.Name (Str.ofString "Lights") _) _ _ _) _ _ _ _); refine AM.W.makeX f_Lights hr (by first | decide | omega) ?_))
local macro_rules | `(tactic| wtm_at "ca") => `(tactic| first
  | ((with_reducible first | show AM.S__law_random _ _ _ _ | show AM.S__law_random _ _ _ _ _ | show AM.S__law_random _ _ _ _ _ _); first | refine AM.S__law_random.mk ?_ | refine AM.S__law_random.mk M ?_)
  | ((with_reducible first | show AM.S__law_lights _ _ _ _ | show AM.S__law_lights _ _ _ _ _ | show AM.S__law_lights _ _ _ _ _ _); first | refine AM.S__law_lights.mk ?_ | refine AM.S__law_lights.mk M ?_)
  | ((with_reducible first | show AM.S_spare _ _ _ _ | show AM.S_spare _ _ _ _ _ | show AM.S_spare _ _ _ _ _ _); first | refine AM.S_spare.mk ?_ | refine AM.S_spare.mk M ?_)
  | ((with_reducible first | show AM.S__law_below _ _ _ _ | show AM.S__law_below _ _ _ _ _ | show AM.S__law_below _ _ _ _ _ _); first | refine AM.S__law_below.mk ?_ | refine AM.S__law_below.mk M ?_)
  | ((with_reducible first | show AM.S_alike _ _ _ _ | show AM.S_alike _ _ _ _ _ | show AM.S_alike _ _ _ _ _ _); first | refine AM.S_alike.mk ?_ | refine AM.S_alike.mk M ?_)
  | ((with_reducible first | show AM.S__law_claims _ _ _ _ | show AM.S__law_claims _ _ _ _ _ | show AM.S__law_claims _ _ _ _ _ _); first | refine AM.S__law_claims.mk ?_ | refine AM.S__law_claims.mk M ?_)
  | ((with_reducible first | show AM.S__law_turned _ _ _ _ | show AM.S__law_turned _ _ _ _ _ | show AM.S__law_turned _ _ _ _ _ _); first | refine AM.S__law_turned.mk ?_ | refine AM.S__law_turned.mk M ?_)
  | ((with_reducible first | show AM.S_picture _ _ _ _ | show AM.S_picture _ _ _ _ _ | show AM.S_picture _ _ _ _ _ _); first | refine AM.S_picture.mk ?_ | refine AM.S_picture.mk M ?_)
  | ((with_reducible first | show AM.S__law_pattern _ _ _ _ | show AM.S__law_pattern _ _ _ _ _ | show AM.S__law_pattern _ _ _ _ _ _); first | refine AM.S__law_pattern.mk ?_ | refine AM.S__law_pattern.mk M ?_)
  | ((with_reducible first | show AM.S__law_near _ _ _ _ | show AM.S__law_near _ _ _ _ _ | show AM.S__law_near _ _ _ _ _ _); first | refine AM.S__law_near.mk ?_ | refine AM.S__law_near.mk M ?_))
local macro_rules | `(tactic| wtm_at "as") => `(tactic| first
  | ((with_reducible show AM.CS _ (Stmt.Assign [Expr.Name (Str.ofString "_law_d") _] _ _) _ _ _); refine AM.CS.set (i := 1) rfl (by wtm_at "loc") ?_ sc_law.nd (.inl rfl))
  | ((with_reducible show AM.CS _ (Stmt.Assign [Expr.Name (Str.ofString "_law_lights_here") _] _ _) _ _ _); refine AM.CS.set (i := 2) rfl (by wtm_at "loc") ?_ sc_law.nd (.inl rfl))
  | ((with_reducible show AM.CS _ (Stmt.Assign [Expr.Name (Str.ofString "_law_found") _] _ _) _ _ _); refine AM.CS.set (i := 3) rfl (by wtm_at "loc") ?_ sc_law.nd (.inl rfl))
  | ((with_reducible show AM.CS _ (Stmt.Assign [Expr.Name (Str.ofString "_law_there") _] _ _) _ _ _); refine AM.CS.set (i := 4) rfl (by wtm_at "loc") ?_ sc_law.nd (.inl rfl))
  | ((with_reducible show AM.CS _ (Stmt.Assign [Expr.Name (Str.ofString "_law_back") _] _ _) _ _ _); refine AM.CS.set (i := 5) rfl (by wtm_at "loc") ?_ sc_law.nd (.inl rfl))
  | ((with_reducible show AM.CS _ (Stmt.Assign [Expr.Name (Str.ofString "_law_n") _] _ _) _ _ _); refine AM.CS.set (i := 6) rfl (by wtm_at "loc") ?_ sc_law.nd (.inl rfl))
  | ((with_reducible show AM.CS _ (Stmt.Assign [Expr.Name (Str.ofString "_law_t") _] _ _) _ _ _); refine AM.CS.set (i := 7) rfl (by wtm_at "loc") ?_ sc_law.nd (.inl rfl)))
local macro_rules | `(tactic| wtm_at "nl") => `(tactic| first
  | ((with_reducible show AM.CE _ (Expr.List [Expr.Constant (Const.int 3) _ _] _) _ _ _ _); refine AM.CE.newl ?_))
local macro_rules | `(tactic| wtm_at "lc") => `(tactic| first
  | ((with_reducible show AM.CE _ (Expr.ListComp _ [⟨Expr.Tuple [Expr.Name (Str.ofString "_law_path") _, Expr.Name (Str.ofString "_law_word") _] _ _, _, _, 0⟩] _ _) _ _ _ _); refine AM.CE.lc (own := [("_law_path", 10), ("_law_word", 11)]) rfl sc_law.nd (L2.blkOk_by (own := [("_law_path", 10), ("_law_word", 11)]) (N := ["_law_script", "_law_d", "_law_lights_here", "_law_found", "_law_there", "_law_back", "_law_n", "_law_t", "_law_shape", "_law_pattern_here", "_law_path", "_law_word", "_law_lamp"]) (sc := defScope s_law) (by decide +kernel)) (AM.CGB.pair rfl rfl rfl (by decide) sc_law.nd (fun _ _ _ _ _ => ⟨by wtm_at "loc", by wtm_at "loc"⟩) (fun _ _ _ _ _ => by first | exact .inr rfl | exact .inl rfl) (fun _ _ _ _ _ => by first | exact .inr rfl | exact .inl rfl)) ?_)
  | ((with_reducible show AM.CE _ (Expr.ListComp _ [⟨Expr.Name (Str.ofString "_law_lamp") _, _, _, 0⟩] _ _) _ _ _ _); refine AM.CE.lc (own := [("_law_lamp", 12)]) rfl sc_law.nd (L2.blkOk_by (own := [("_law_lamp", 12)]) (N := ["_law_script", "_law_d", "_law_lights_here", "_law_found", "_law_there", "_law_back", "_law_n", "_law_t", "_law_shape", "_law_pattern_here", "_law_path", "_law_word", "_law_lamp"]) (sc := defScope s_law) (by decide +kernel)) (AM.CGB.name rfl sc_law.nd (fun _ _ _ _ _ => by wtm_at "loc") (fun _ _ _ _ _ => by first | exact .inr rfl | exact .inl rfl)) ?_))
local macro_rules | `(tactic| wtm_at "lcL") => `(tactic| first
  | ((with_reducible show AM.CE _ (Expr.ListComp _ [⟨Expr.Tuple [Expr.Name (Str.ofString "_law_path") _, Expr.Name (Str.ofString "_law_word") _] _ _, _, _, 0⟩] _ _) _ _ _ _); refine AM.CE.lcL (own := [("_law_path", 10), ("_law_word", 11)]) rfl sc_law.nd (L2.blkOk_by (own := [("_law_path", 10), ("_law_word", 11)]) (N := ["_law_script", "_law_d", "_law_lights_here", "_law_found", "_law_there", "_law_back", "_law_n", "_law_t", "_law_shape", "_law_pattern_here", "_law_path", "_law_word", "_law_lamp"]) (sc := defScope s_law) (by decide +kernel)) (AM.CGB.pair rfl rfl rfl (by decide) sc_law.nd (fun _ _ _ _ _ => ⟨by wtm_at "loc", by wtm_at "loc"⟩) (fun _ _ _ _ _ => by first | exact .inr rfl | exact .inl rfl) (fun _ _ _ _ _ => by first | exact .inr rfl | exact .inl rfl)) ?_)
  | ((with_reducible show AM.CE _ (Expr.ListComp _ [⟨Expr.Name (Str.ofString "_law_lamp") _, _, _, 0⟩] _ _) _ _ _ _); refine AM.CE.lcL (own := [("_law_lamp", 12)]) rfl sc_law.nd (L2.blkOk_by (own := [("_law_lamp", 12)]) (N := ["_law_script", "_law_d", "_law_lights_here", "_law_found", "_law_there", "_law_back", "_law_n", "_law_t", "_law_shape", "_law_pattern_here", "_law_path", "_law_word", "_law_lamp"]) (sc := defScope s_law) (by decide +kernel)) (AM.CGB.name rfl sc_law.nd (fun _ _ _ _ _ => by wtm_at "loc") (fun _ _ _ _ _ => by first | exact .inr rfl | exact .inl rfl)) ?_))
local macro_rules | `(tactic| wtm_at "at") => `(tactic| first
  | ((with_reducible show AM.CS _ (Stmt.Assign [Expr.Tuple [Expr.Name (Str.ofString "_law_shape") _, Expr.Name (Str.ofString "_law_pattern_here") _] _ _] _ _) _ _ _); refine AM.CS.asg (AM.CG.pair (i := 8) (j := 9) rfl rfl (by wtm_at "loc") rfl (by wtm_at "loc") sc_law.nd (.inl rfl) (.inl rfl)) ?_))
local macro_rules | `(tactic| wtm_at "fc") => `(tactic| first
  | exact M.f_Lights_own_shape
  | exact M.f_Lights_own_pattern
  | exact M.f_Moment_way_round
  | exact M.f_Moment_is_chain
  | exact M.f_Moment_many
  | exact M.f_Moment_now
  | exact M.f_Plainly_own_shape
  | exact M.f_Plainly_own_pattern)
theorem ok_law {f : Addr} {fd : FuncData} (F : Fun K "law" "law" s_law f fd) : FnD P w K mg base CX0 60 f fd ["_law_script"] S_law :=
  okN F sc_law (fun ds m Q E ⟨_, h, _⟩ => by rw [h]; rfl) fun cdv A outer s0 H E hr ds m Q Ex ⟨ns, h, hn, hm, q⟩ => by
    subst h; subst hm
    have f__law_random := b__law_random (P := P) (w := w) (base := base) M
    have f__law_lights := b__law_lights (P := P) (w := w) (base := base) M 2 7
    have f__law_pattern := b__law_pattern (P := P) (w := w) (base := base) M 1
    have f__law_below := b__law_below (P := P) (w := w) (base := base) M
    have f__law_near := b__law_near (P := P) (w := w) (base := base) M 3
    have f__law_claims := b__law_claims (P := P) (w := w) (base := base) M
    have f__law_turned := b__law_turned (P := P) (w := w) (base := base) M 3
    have f_Lights := b_Lights (P := P) (w := w) (base := base) M
    have f_spare := b_spare (P := P) (w := w) (base := base) M
    have f_alike := b_alike (P := P) (w := w) (base := base) M
    have f_picture := b_picture (P := P) (w := w) (base := base) M
    wtm_at "go"
    intro a ds0 ha h0
    wtm_at "go"
    intro rg p ds1 h1 h2 h3 h4
    wtm_at "go"
    intro b hb
    refine S_Lights.mk M ⟨Mu.set_same, by cases rg <;> rfl, h1, by omega, by omega, rfl, aFrz.mk Mu.set_same ?_⟩
    simp only [Mu.set_set] at hb ⊢
    rw [Mu.del_set hb]
    wtm_at "go"
    refine ⟨a, _, p, rfl, by wtm_at "mu", h4, h1, by omega, ?_⟩
    intro r ds2 g1 g2 g3 g4
    wtm_at "go"
    intro b hb
    refine S_Lights.mk M ⟨Mu.set_same, by cases rg <;> rfl, g1, by omega, by omega, rfl, aFrz.mk Mu.set_same ?_⟩
    simp only [Mu.set_set] at hb ⊢
    rw [Mu.del_set hb]
    wtm_at "go"
    refine ⟨a, _, _, _, rg, p, r, rfl, by wtm_at "mu", g4, ltd_lit M, ltd_lit M, by omega, by omega, h1, by omega, by omega, g1, ?_⟩
    intro ds3 h5
    simp only [Mu.set_set]
    wtm_at "go"
    intro b hb
    have hab : a ≠ b := fun z => by subst z; rw [Mu.set_same] at hb; cases hb
    wtm_at "go"
    refine ⟨a, b, _, _, 3, rfl, hab, by wtm_at "mu", by wtm_at "mu", h5, by omega, by omega, ?_⟩
    intro p2 ds4 k1 k2 k3 k4
    wtm_at "go"
    intro c hc
    refine S_Lights.mk M ⟨Mu.set_same, by cases rg <;> rfl, k1, by omega, by omega, rfl, aFrz.mk Mu.set_same ?_⟩
    simp only [Mu.set_set] at hc ⊢
    rw [Mu.del_set hc]
    wtm_at "go"
    refine ⟨_, rg, p2, rfl, ltd_lit M, by omega, by omega, k1, ?_⟩
    have eb : ∀ A B A' B' : MO, ((((mu0.set a A).set b B).set a A').set b B').del b = mu0.set a A' := fun A B A' B' => by
      funext x
      simp only [Mu.set, Mu.del, mu0]
      by_cases x1 : x = b
      · subst x1; simp [Ne.symm hab]
      · by_cases x2 : x = a
        · simp [x1, x2, hab]
        · simp [x1, x2]
    show CSs _ _ _ _ _
    refine CSs.drop (l := b) ?_
    rw [eb]
    have spl : (sortD (spL rg p2 p2.paths)).length ≤ 100000 := by
      rw [sortD_perm.length_eq]
      have : ∀ l : List (List Nat × Pat), (spL rg p2 l).length ≤ 2 * l.length := fun l => by
        induction l with
        | nil => exact Nat.le_refl _
        | cons y r ih =>
          have e : spL rg p2 (y :: r) = (spW rg p2 y .all "all" ++ spW rg p2 y .none "none") ++ spL rg p2 r := rfl
          have hw2 : ∀ w s, (spW rg p2 y w s).length ≤ 1 := fun w s => by
            unfold spW
            split
            · exact Nat.zero_le _
            · split
              · exact Nat.le_refl _
              · exact Nat.zero_le _
          have h1 := hw2 .all "all"
          have h2 := hw2 .none "none"
          rw [e, List.length_append, List.length_append, List.length_cons]
          omega
      have h1 := this p2.paths
      rw [paths_len] at h1
      omega
    have spm : ∀ d ∈ sortD (spL rg p2 p2.paths), ∃ r s, d = .tup [.tup (natD r), .str s] ∧ (s = "all" ∨ s = "none") := fun d hd => spL_mem (sortD_perm.mem_iff.mp hd)
    generalize sortD (spL rg p2 p2.paths) = spd at spl spm ⊢
    wtm_at "go"
    refine LcD.filt (fun _ => false) id spl (fun d acc L hd hL => ?_) ?_
    · obtain ⟨r1, s1, rfl, hs⟩ := spm d hd
      refine ⟨_, rfl, fun s2 H2 C cl fp => ?_, fun z => nomatch z⟩
      rcases hs with rfl | rfl
      · wtm_at "go"
        first | exact ⟨rfl, rfl⟩ | exact rfl
      · wtm_at "go"
        first | exact ⟨rfl, rfl⟩ | exact rfl
    have ef : ((spd.filter fun _ => false).map id) = [] := by simp
    rw [ef]
    obtain ⟨t1, t2, t3⟩ := turn_ok h1
    obtain ⟨t4, t5, t6⟩ := turn_ok t1
    have t7 : (turnP p).dep < 3 := by omega
    wtm_at "go"
    intro c hc
    refine S_Lights.mk M ⟨Mu.set_same, by cases rg <;> rfl, t4, by omega, by omega, rfl, aFrz.mk Mu.set_same ?_⟩
    simp only [Mu.set_set] at hc ⊢
    rw [Mu.del_set hc]
    wtm_at "go"
    intro c hc
    refine S_Lights.mk M ⟨Mu.set_same, by cases rg <;> rfl, t1, by omega, by omega, rfl, aFrz.mk Mu.set_same ?_⟩
    simp only [Mu.set_set] at hc ⊢
    rw [Mu.del_set hc]
    wtm_at "go"
    intro r1 ds5 u1 u2 u3
    wtm_at "go"
    intro r2 ds6 v1 v2 v3
    obtain ⟨n, hn, hn1, hn2⟩ : ∃ n : Nat, (1 : Int) + r1 = n ∧ 1 ≤ n ∧ n ≤ 60 := ⟨(1 + r1).toNat, by omega, by omega, by omega⟩
    obtain ⟨t, rfl, ht2⟩ : ∃ t : Nat, r2 = t ∧ t ≤ 200 := ⟨r2.toNat, by omega, by omega⟩
    rw [hn]
    wtm_at "go"
    refine CE.sortD hr.units M.NB_sorted ?_
    wtm_at "go"
    refine S_picture.mk M (ltd_lit M) rfl rfl ⟨by omega, t1, hn1, by omega, ?_⟩
    have hll := lamps_len (onP rg n t (turnP p)) n
    have hint : ∀ d ∈ lampsD (onP rg n t (turnP p)) n, ∃ z : Int, d = .int z := fun d hd => by
      obtain ⟨i, _, rfl⟩ := List.mem_map.mp hd
      exact ⟨_, rfl⟩
    wtm_at "go"
    refine LcD.map1 (fun d => .int ((n : Int) - 1 - intOf d)) (by omega) (fun d acc L hd hL => ⟨_, rfl, fun s2 H2 C cl fp => ?_⟩) ?_
    · obtain ⟨z, rfl⟩ := hint d hd
      have hz : D.int ((n : Int) - 1 - z) = .int ((n : Int) - 1 - intOf (.int z)) := rfl
      wtm_at "go"
      first | exact ⟨rfl, rfl⟩ | exact rfl
    refine ⟨_, .inl rfl, fun d hd => ?_, ?_, ?_, ?_⟩
    · obtain ⟨z, _, rfl⟩ := List.mem_map.mp hd
      exact ⟨rfl, by simp [D.py, PyData.depth]⟩
    · intro d hd d' hd'
      obtain ⟨e, he, rfl⟩ := List.mem_map.mp hd
      obtain ⟨e', he', rfl⟩ := List.mem_map.mp hd'
      obtain ⟨z, _, rfl⟩ := List.mem_map.mp he
      obtain ⟨z', _, rfl⟩ := List.mem_map.mp he'
      simp [D.py, PySem.W.alike]
    · refine .inr fun d hd => ?_
      obtain ⟨e, he, rfl⟩ := List.mem_map.mp hd
      obtain ⟨z, _, rfl⟩ := List.mem_map.mp he
      simp [D.py]
    rw [sort_mir hn1 (turn_noC p) t1]
    wtm_at "go"
    refine S_picture.mk M (ltd_lit M) rfl rfl ⟨by omega, t4, hn1, by omega, ?_⟩
    wtm_at "go"
    refine aEq.py lamps_py lamps_py lamps_depth lamps_depth ?_
    rw [lamps_eqv, decide_eq_true rfl]
    wtm_at "go"
    intro c hc
    refine S_Lights.mk M (p := .bin .unl p .none) ⟨Mu.set_same, by cases rg <;> rfl, ⟨h1, trivial⟩, by simp only [Pat.dep]; omega, by simp only [Pat.cnt]; omega, rfl, aFrz.mk Mu.set_same ?_⟩
    simp only [Mu.set_set] at hc ⊢
    rw [Mu.del_set hc]
    wtm_at "go"
    refine ⟨_, _, rg, p, .bin .unl p .none, rfl, ltd_lit M, ltd_lit M, by omega, by omega, h1, by simp only [Pat.dep]; omega, by simp only [Pat.cnt]; omega, ⟨h1, trivial⟩, ?_⟩
    refine toQb (q _) ?_
    have e0 : (momB rg (lcP p (.bin .unl p .none))).find? (Bp rg p (.bin .unl p .none)) = none := by
      rw [List.find?_eq_none]
      intro x _
      have e1 : pic rg x.1 x.2 (.bin .unl p .none) = pic rg x.1 x.2 p := mk_congr fun i _ => by
        show xor (onP rg x.1 x.2 p i) false = _
        rw [Bool.xor_false]
      unfold Bp
      rw [e1]; simp
    unfold prt
    rw [e0]; rfl
end
end
end
end AM
theorem AM.fin {K : PySem.W.Frag} {h : PySem.Heap} {mg : PySem.Str → Option PySem.Value} {R : Prop} (_ : K.In h) (M : AM.Mod K mg) (f : AM.Mod K mg → R) : R := f M
open PySem PySem.W PyProof.Rows
set_option maxRecDepth 100000 in
set_option maxHeartbeats 0 in
theorem PySem.Challenge.cw_lightchains_k11_things_that_hold_holds : PySem.Challenge.rw_lightchains_k11_things_that_hold.Holds := by
  refine AM.early fun said => ?_
  w_on; k_head; (case hw => w_witness2)
  k_fill
  refine AM.law_end (l := PySem.Challenge.rw_lightchains_k11_things_that_hold) (k := 60) (x := "_law_script") rfl rfl ⟨rfl, by decide, by decide⟩ (fun w h Y => PySem.W.kIn_of Y) ?F
  case F =>
    intro w mg fa h KX G hmg
    refine' AM.fin KX ?zzM (fun M => ?zzR)
    case zzM =>
      refine' { NB_isinstance := ?NB_isinstance, NB_int := ?NB_int, NB_bool := ?NB_bool, NB_str := ?NB_str, NB_tuple := ?NB_tuple, NB_len := ?NB_len, NB_all := ?NB_all, NB_max := ?NB_max, NB_min := ?NB_min, NB_sum := ?NB_sum, NB_range := ?NB_range, NB_enumerate := ?NB_enumerate, NB_sorted := ?NB_sorted, NB_abs := ?NB_abs, c_RING := ?c_RING, c_CHAIN := ?c_CHAIN, c_LEAST_PLACE := ?c_LEAST_PLACE, c_GREATEST_PLACE := ?c_GREATEST_PLACE, c_EVERIES := ?c_EVERIES, c_WAYS := ?c_WAYS, c_MOST_PATTERNS := ?c_MOST_PATTERNS, c_DEEPEST := ?c_DEEPEST, c_BARE := ?c_BARE, c_CHECKERED := ?c_CHECKERED, c_DOUBLE := ?c_DOUBLE, c_EACH_MORE := ?c_EACH_MORE, c_ALWAYS_MORE := ?c_ALWAYS_MORE, A_BadShape := ?A_BadShape, x_BadShape := ?x_BadShape, A_BadPattern := ?A_BadPattern, x_BadPattern := ?x_BadPattern, A_BadLength := ?A_BadLength, x_BadLength := ?x_BadLength, A_BadTime := ?A_BadTime, x_BadTime := ?x_BadTime, A_NotComparable := ?A_NotComparable, x_NotComparable := ?x_NotComparable, A_Lights := ?A_Lights, f_Lights_own_shape := ?f_Lights_own_shape, f_Lights_own_pattern := ?f_Lights_own_pattern, D_Lights := ?D_Lights, P_Lights_shape := ?P_Lights_shape, P_Lights_pattern := ?P_Lights_pattern, E_Lights := ?E_Lights, i_Lights := ?i_Lights, A_Moment := ?A_Moment, f_Moment_way_round := ?f_Moment_way_round, f_Moment_is_chain := ?f_Moment_is_chain, f_Moment_many := ?f_Moment_many, f_Moment_now := ?f_Moment_now, D_Moment := ?D_Moment, D_Moment_dot_at := ?D_Moment_dot_at, D_Moment_every_lamp := ?D_Moment_every_lamp, D_Moment_plain := ?D_Moment_plain, D_Moment_lit := ?D_Moment_lit, A_Plainly := ?A_Plainly, f_Plainly_own_shape := ?f_Plainly_own_shape, f_Plainly_own_pattern := ?f_Plainly_own_pattern, D_Plainly := ?D_Plainly, D_is_between := ?D_is_between, D_is_place := ?D_is_place, D_is_one_of := ?D_is_one_of, D_within := ?D_within, D_is_plain := ?D_is_plain, D_is_pattern := ?D_is_pattern, D_all_patterns := ?D_all_patterns, D_divisor := ?D_divisor, D_multiple := ?D_multiple, D_common := ?D_common, D_around := ?D_around, D_picture_of := ?D_picture_of, D_lamps_of := ?D_lamps_of, D_is_number := ?D_is_number, D_need_moment := ?D_need_moment, D_picture := ?D_picture, D_comes_round := ?D_comes_round, D_moments := ?D_moments, D_parting := ?D_parting, D_alike := ?D_alike, D_dark := ?D_dark, D_full := ?D_full, D_moves := ?D_moves, D_paths_of := ?D_paths_of, D_put_at := ?D_put_at, D_spare := ?D_spare, D__law_random := ?D__law_random, D__law_below := ?D__law_below, D__law_pick := ?D__law_pick, D__law_leaf := ?D__law_leaf, D__law_pattern := ?D__law_pattern, D__law_lights := ?D__law_lights, D__law_near := ?D__law_near, D__law_claims := ?D__law_claims, D__law_turned := ?D__law_turned }
      (case D_Lights => refine' AM.dc_mk KX G (fun _ _ _ _ _ _ us hl => match us, hl with | [_, _, _], _ => rfl) ?zz14g ?zz14m ?zz14w ?zz14a ?zz14i ?zz14l ?zz14c ?zz14k; (case zz14g => k_is); (case zz14m => k_is); (case zz14w => k_is); (case zz14a => k_is); (case zz14i => k_is); (case zz14l => k_is); (case zz14c => k_is); (case zz14k => k_is))
      (case D_Moment => refine' AM.dc_mk KX G (fun _ _ _ _ _ _ us hl => match us, hl with | [_, _, _, _], _ => rfl) ?zz15g ?zz15m ?zz15w ?zz15a ?zz15i ?zz15l ?zz15c ?zz15k; (case zz15g => k_is); (case zz15m => k_is); (case zz15w => k_is); (case zz15a => k_is); (case zz15i => k_is); (case zz15l => k_is); (case zz15c => k_is); (case zz15k => k_is))
      (case D_Plainly => refine' AM.dc_mk KX G (fun _ _ _ _ _ _ us hl => match us, hl with | [_, _, _], _ => rfl) ?zz16g ?zz16m ?zz16w ?zz16a ?zz16i ?zz16l ?zz16c ?zz16k; (case zz16g => k_is); (case zz16m => k_is); (case zz16w => k_is); (case zz16a => k_is); (case zz16i => k_is); (case zz16l => k_is); (case zz16c => k_is); (case zz16k => k_is))
      (case NB_isinstance => refine' PySem.W.mg_none_of KX G ?zz17z; (case zz17z => k_is))
      (case NB_int => refine' PySem.W.mg_none_of KX G ?zz18z; (case zz18z => k_is))
      (case NB_bool => refine' PySem.W.mg_none_of KX G ?zz19z; (case zz19z => k_is))
      (case NB_str => refine' PySem.W.mg_none_of KX G ?zz20z; (case zz20z => k_is))
      (case NB_tuple => refine' PySem.W.mg_none_of KX G ?zz21z; (case zz21z => k_is))
      (case NB_len => refine' PySem.W.mg_none_of KX G ?zz22z; (case zz22z => k_is))
      (case NB_all => refine' PySem.W.mg_none_of KX G ?zz23z; (case zz23z => k_is))
      (case NB_max => refine' PySem.W.mg_none_of KX G ?zz24z; (case zz24z => k_is))
      (case NB_min => refine' PySem.W.mg_none_of KX G ?zz25z; (case zz25z => k_is))
      (case NB_sum => refine' PySem.W.mg_none_of KX G ?zz26z; (case zz26z => k_is))
      (case NB_range => refine' PySem.W.mg_none_of KX G ?zz27z; (case zz27z => k_is))
      (case NB_enumerate => refine' PySem.W.mg_none_of KX G ?zz28z; (case zz28z => k_is))
      (case NB_sorted => refine' PySem.W.mg_none_of KX G ?zz29z; (case zz29z => k_is))
      (case NB_abs => refine' PySem.W.mg_none_of KX G ?zz30z; (case zz30z => k_is))
      (case c_RING => refine' AM.gc_str KX G ?zz31a; (case zz31a => k_is))
      (case c_CHAIN => refine' AM.gc_str KX G ?zz32a; (case zz32a => k_is))
      (case c_LEAST_PLACE => refine' AM.gc_int KX G ?zz33a; (case zz33a => k_is))
      (case c_GREATEST_PLACE => refine' AM.gc_int KX G ?zz34a; (case zz34a => k_is))
      (case c_EVERIES => refine' AM.gc_tup KX G ?zz35a ?zz35l ?zz35i ?zz35f; (case zz35a => k_is); (case zz35l => k_is); (case zz35i => decide); (case zz35f => exact .cons ⟨_, rfl⟩ (.cons ⟨_, rfl⟩ (.nil))))
      (case c_WAYS => refine' AM.gc_tup KX G ?zz36a ?zz36l ?zz36i ?zz36f; (case zz36a => k_is); (case zz36l => k_is); (case zz36i => decide); (case zz36f => exact .cons ⟨_, rfl⟩ (.cons ⟨_, rfl⟩ (.nil))))
      (case c_MOST_PATTERNS => refine' AM.gc_int KX G ?zz37a; (case zz37a => k_is))
      (case c_DEEPEST => refine' AM.gc_int KX G ?zz38a; (case zz38a => k_is))
      (case c_BARE => refine' AM.gc_tup KX G ?zz39a ?zz39l ?zz39i ?zz39f; (case zz39a => k_is); (case zz39l => k_is); (case zz39i => decide); (case zz39f => exact .cons ⟨_, rfl⟩ (.cons ⟨_, rfl⟩ (.nil))))
      (case c_CHECKERED => refine' AM.gc_tup KX G ?zz40a ?zz40l ?zz40i ?zz40f; (case zz40a => k_is); (case zz40l => k_is); (case zz40i => decide); (case zz40f => exact .cons ⟨_, rfl⟩ (.cons ⟨_, rfl⟩ (.nil))))
      (case c_DOUBLE => refine' AM.gc_tup KX G ?zz41a ?zz41l ?zz41i ?zz41f; (case zz41a => k_is); (case zz41l => k_is); (case zz41i => decide); (case zz41f => exact .cons ⟨_, rfl⟩ (.cons ⟨_, rfl⟩ (.cons ⟨_, rfl⟩ (.nil)))))
      (case c_EACH_MORE => refine' AM.gc_int KX G ?zz42a; (case zz42a => k_is))
      (case c_ALWAYS_MORE => refine' AM.gc_int KX G ?zz43a; (case zz43a => k_is))
      (case x_BadShape => refine' AM.exc_mk KX G ?zz44g ?zz44q ?zz44k ?zz44b ?zz44t; (case zz44g => k_is); (case zz44q => k_exc); (case zz44k => k_is); (case zz44b => k_is); (case zz44t => k_is))
      (case x_BadPattern => refine' AM.exc_mk KX G ?zz45g ?zz45q ?zz45k ?zz45b ?zz45t; (case zz45g => k_is); (case zz45q => k_exc); (case zz45k => k_is); (case zz45b => k_is); (case zz45t => k_is))
      (case x_BadLength => refine' AM.exc_mk KX G ?zz46g ?zz46q ?zz46k ?zz46b ?zz46t; (case zz46g => k_is); (case zz46q => k_exc); (case zz46k => k_is); (case zz46b => k_is); (case zz46t => k_is))
      (case x_BadTime => refine' AM.exc_mk KX G ?zz47g ?zz47q ?zz47k ?zz47b ?zz47t; (case zz47g => k_is); (case zz47q => k_exc); (case zz47k => k_is); (case zz47b => k_is); (case zz47t => k_is))
      (case x_NotComparable => refine' AM.exc_mk KX G ?zz48g ?zz48q ?zz48k ?zz48b ?zz48t; (case zz48g => k_is); (case zz48q => k_exc); (case zz48k => k_is); (case zz48b => k_is); (case zz48t => k_is))
      (case f_Lights_own_shape => refine' AM.fld_mk (AM.cls_mk ?zz49p ?zz49h ?zz49o ?zz49s) ?zz49n; (case zz49p => k_is); (case zz49h => k_is); (case zz49o => k_is); (case zz49s => k_is); (case zz49n => k_is))
      (case f_Lights_own_pattern => refine' AM.fld_mk (AM.cls_mk ?zz50p ?zz50h ?zz50o ?zz50s) ?zz50n; (case zz50p => k_is); (case zz50h => k_is); (case zz50o => k_is); (case zz50s => k_is); (case zz50n => k_is))
      (case P_Lights_shape => refine' AM.dp_mk (AM.cls_mk ?zz51p ?zz51h ?zz51o ?zz51s) (fun _ _ _ _ _ _ us hl => match us, hl with | [_], _ => rfl) ?zz51a ?zz51g ?zz51t ?zz51r ?zz51l ?zz51c ?zz51k; (case zz51p => k_is); (case zz51h => k_is); (case zz51o => k_is); (case zz51s => k_is); (case zz51a => k_is); (case zz51g => k_is); (case zz51t => k_is); (case zz51r => k_is); (case zz51l => k_is); (case zz51c => k_is); (case zz51k => k_is))
      (case P_Lights_pattern => refine' AM.dp_mk (AM.cls_mk ?zz52p ?zz52h ?zz52o ?zz52s) (fun _ _ _ _ _ _ us hl => match us, hl with | [_], _ => rfl) ?zz52a ?zz52g ?zz52t ?zz52r ?zz52l ?zz52c ?zz52k; (case zz52p => k_is); (case zz52h => k_is); (case zz52o => k_is); (case zz52s => k_is); (case zz52a => k_is); (case zz52g => k_is); (case zz52t => k_is); (case zz52r => k_is); (case zz52l => k_is); (case zz52c => k_is); (case zz52k => k_is))
      (case E_Lights => refine' AM.de_mk (fun _ _ _ _ _ _ us hl => match us, hl with | [_, _], _ => rfl) ?zz53a ?zz53i ?zz53l ?zz53c ?zz53k; (case zz53a => k_is); (case zz53i => k_is); (case zz53l => k_is); (case zz53c => k_is); (case zz53k => k_is))
      (case i_Lights => refine' AM.isc_mk ?zz54p ?zz54h ?zz54o ?zz54s ?zz54a ?zz54b ?zz54c ?zz54d ?zz54e ?zz54f ?zz54g; (case zz54p => k_is); (case zz54h => k_is); (case zz54o => k_is); (case zz54s => k_is); (case zz54a => k_is); (case zz54b => k_is); (case zz54c => k_is); (case zz54d => k_is); (case zz54e => k_is); (case zz54f => k_is); (case zz54g => k_is))
      (case f_Moment_way_round => refine' AM.fld_mk (AM.cls_mk ?zz55p ?zz55h ?zz55o ?zz55s) ?zz55n; (case zz55p => k_is); (case zz55h => k_is); (case zz55o => k_is); (case zz55s => k_is); (case zz55n => k_is))
      (case f_Moment_is_chain => refine' AM.fld_mk (AM.cls_mk ?zz56p ?zz56h ?zz56o ?zz56s) ?zz56n; (case zz56p => k_is); (case zz56h => k_is); (case zz56o => k_is); (case zz56s => k_is); (case zz56n => k_is))
      (case f_Moment_many => refine' AM.fld_mk (AM.cls_mk ?zz57p ?zz57h ?zz57o ?zz57s) ?zz57n; (case zz57p => k_is); (case zz57h => k_is); (case zz57o => k_is); (case zz57s => k_is); (case zz57n => k_is))
      (case f_Moment_now => refine' AM.fld_mk (AM.cls_mk ?zz58p ?zz58h ?zz58o ?zz58s) ?zz58n; (case zz58p => k_is); (case zz58h => k_is); (case zz58o => k_is); (case zz58s => k_is); (case zz58n => k_is))
      (case D_Moment_dot_at => refine' AM.dm_mk (AM.cls_mk ?zz59p ?zz59h ?zz59o ?zz59s) (fun _ _ _ _ _ _ us hl => match us, hl with | [_, _, _], _ => rfl) ?zz59a ?zz59i ?zz59l ?zz59c ?zz59k; (case zz59p => k_is); (case zz59h => k_is); (case zz59o => k_is); (case zz59s => k_is); (case zz59a => k_is); (case zz59i => k_is); (case zz59l => k_is); (case zz59c => k_is); (case zz59k => k_is))
      (case D_Moment_every_lamp => refine' AM.dm_mk (AM.cls_mk ?zz60p ?zz60h ?zz60o ?zz60s) (fun _ _ _ _ _ _ us hl => match us, hl with | [_], _ => rfl) ?zz60a ?zz60i ?zz60l ?zz60c ?zz60k; (case zz60p => k_is); (case zz60h => k_is); (case zz60o => k_is); (case zz60s => k_is); (case zz60a => k_is); (case zz60i => k_is); (case zz60l => k_is); (case zz60c => k_is); (case zz60k => k_is))
      (case D_Moment_plain => refine' AM.dm_mk (AM.cls_mk ?zz61p ?zz61h ?zz61o ?zz61s) (fun _ _ _ _ _ _ us hl => match us, hl with | [_, _], _ => rfl) ?zz61a ?zz61i ?zz61l ?zz61c ?zz61k; (case zz61p => k_is); (case zz61h => k_is); (case zz61o => k_is); (case zz61s => k_is); (case zz61a => k_is); (case zz61i => k_is); (case zz61l => k_is); (case zz61c => k_is); (case zz61k => k_is))
      (case D_Moment_lit => refine' AM.dm_mk (AM.cls_mk ?zz62p ?zz62h ?zz62o ?zz62s) (fun _ _ _ _ _ _ us hl => match us, hl with | [_, _], _ => rfl) ?zz62a ?zz62i ?zz62l ?zz62c ?zz62k; (case zz62p => k_is); (case zz62h => k_is); (case zz62o => k_is); (case zz62s => k_is); (case zz62a => k_is); (case zz62i => k_is); (case zz62l => k_is); (case zz62c => k_is); (case zz62k => k_is))
      (case f_Plainly_own_shape => refine' AM.fld_mk (AM.cls_mk ?zz63p ?zz63h ?zz63o ?zz63s) ?zz63n; (case zz63p => k_is); (case zz63h => k_is); (case zz63o => k_is); (case zz63s => k_is); (case zz63n => k_is))
      (case f_Plainly_own_pattern => refine' AM.fld_mk (AM.cls_mk ?zz64p ?zz64h ?zz64o ?zz64s) ?zz64n; (case zz64p => k_is); (case zz64h => k_is); (case zz64o => k_is); (case zz64s => k_is); (case zz64n => k_is))
      (case D_is_between => refine' AM.df_mk KX G (fun _ _ _ _ _ _ us hl => match us, hl with | [_, _, _], _ => rfl) ?zz65a ?zz65l ?zz65c ?zz65k; (case zz65a => k_is); (case zz65l => k_is); (case zz65c => k_is); (case zz65k => k_is))
      (case D_is_place => refine' AM.df_mk KX G (fun _ _ _ _ _ _ us hl => match us, hl with | [_], _ => rfl) ?zz66a ?zz66l ?zz66c ?zz66k; (case zz66a => k_is); (case zz66l => k_is); (case zz66c => k_is); (case zz66k => k_is))
      (case D_is_one_of => refine' AM.df_mk KX G (fun _ _ _ _ _ _ us hl => match us, hl with | [_, _], _ => rfl) ?zz67a ?zz67l ?zz67c ?zz67k; (case zz67a => k_is); (case zz67l => k_is); (case zz67c => k_is); (case zz67k => k_is))
      (case D_within => refine' AM.df_mk KX G (fun _ _ _ _ _ _ us hl => match us, hl with | [_], _ => rfl) ?zz68a ?zz68l ?zz68c ?zz68k; (case zz68a => k_is); (case zz68l => k_is); (case zz68c => k_is); (case zz68k => k_is))
      (case D_is_plain => refine' AM.df_mk KX G (fun _ _ _ _ _ _ us hl => match us, hl with | [_, _], _ => rfl) ?zz69a ?zz69l ?zz69c ?zz69k; (case zz69a => k_is); (case zz69l => k_is); (case zz69c => k_is); (case zz69k => k_is))
      (case D_is_pattern => refine' AM.df_mk KX G (fun _ _ _ _ _ _ us hl => match us, hl with | [_, _], _ => rfl) ?zz70a ?zz70l ?zz70c ?zz70k; (case zz70a => k_is); (case zz70l => k_is); (case zz70c => k_is); (case zz70k => k_is))
      (case D_all_patterns => refine' AM.df_mk KX G (fun _ _ _ _ _ _ us hl => match us, hl with | [_], _ => rfl) ?zz71a ?zz71l ?zz71c ?zz71k; (case zz71a => k_is); (case zz71l => k_is); (case zz71c => k_is); (case zz71k => k_is))
      (case D_divisor => refine' AM.df_mk KX G (fun _ _ _ _ _ _ us hl => match us, hl with | [_, _], _ => rfl) ?zz72a ?zz72l ?zz72c ?zz72k; (case zz72a => k_is); (case zz72l => k_is); (case zz72c => k_is); (case zz72k => k_is))
      (case D_multiple => refine' AM.df_mk KX G (fun _ _ _ _ _ _ us hl => match us, hl with | [_, _], _ => rfl) ?zz73a ?zz73l ?zz73c ?zz73k; (case zz73a => k_is); (case zz73l => k_is); (case zz73c => k_is); (case zz73k => k_is))
      (case D_common => refine' AM.df_mk KX G (fun _ _ _ _ _ _ us hl => match us, hl with | [_], _ => rfl) ?zz74a ?zz74l ?zz74c ?zz74k; (case zz74a => k_is); (case zz74l => k_is); (case zz74c => k_is); (case zz74k => k_is))
      (case D_around => refine' AM.df_mk KX G (fun _ _ _ _ _ _ us hl => match us, hl with | [_, _], _ => rfl) ?zz75a ?zz75l ?zz75c ?zz75k; (case zz75a => k_is); (case zz75l => k_is); (case zz75c => k_is); (case zz75k => k_is))
      (case D_picture_of => refine' AM.df_mk KX G (fun _ _ _ _ _ _ us hl => match us, hl with | [_, _, _], _ => rfl) ?zz76a ?zz76l ?zz76c ?zz76k; (case zz76a => k_is); (case zz76l => k_is); (case zz76c => k_is); (case zz76k => k_is))
      (case D_lamps_of => refine' AM.df_mk KX G (fun _ _ _ _ _ _ us hl => match us, hl with | [_], _ => rfl) ?zz77a ?zz77l ?zz77c ?zz77k; (case zz77a => k_is); (case zz77l => k_is); (case zz77c => k_is); (case zz77k => k_is))
      (case D_is_number => refine' AM.df_mk KX G (fun _ _ _ _ _ _ us hl => match us, hl with | [_, _], _ => rfl) ?zz78a ?zz78l ?zz78c ?zz78k; (case zz78a => k_is); (case zz78l => k_is); (case zz78c => k_is); (case zz78k => k_is))
      (case D_need_moment => refine' AM.df_mk KX G (fun _ _ _ _ _ _ us hl => match us, hl with | [_, _], _ => rfl) ?zz79a ?zz79l ?zz79c ?zz79k; (case zz79a => k_is); (case zz79l => k_is); (case zz79c => k_is); (case zz79k => k_is))
      (case D_picture => refine' AM.df_mk KX G (fun _ _ _ _ _ _ us hl => match us, hl with | [_, _, _], _ => rfl) ?zz80a ?zz80l ?zz80c ?zz80k; (case zz80a => k_is); (case zz80l => k_is); (case zz80c => k_is); (case zz80k => k_is))
      (case D_comes_round => refine' AM.df_mk KX G (fun _ _ _ _ _ _ us hl => match us, hl with | [_, _], _ => rfl) ?zz81a ?zz81l ?zz81c ?zz81k; (case zz81a => k_is); (case zz81l => k_is); (case zz81c => k_is); (case zz81k => k_is))
      (case D_moments => refine' AM.df_mk KX G (fun _ _ _ _ _ _ us hl => match us, hl with | [_, _], _ => rfl) ?zz82a ?zz82l ?zz82c ?zz82k; (case zz82a => k_is); (case zz82l => k_is); (case zz82c => k_is); (case zz82k => k_is))
      (case D_parting => refine' AM.df_mk KX G (fun _ _ _ _ _ _ us hl => match us, hl with | [_, _], _ => rfl) ?zz83a ?zz83l ?zz83c ?zz83k; (case zz83a => k_is); (case zz83l => k_is); (case zz83c => k_is); (case zz83k => k_is))
      (case D_alike => refine' AM.df_mk KX G (fun _ _ _ _ _ _ us hl => match us, hl with | [_, _], _ => rfl) ?zz84a ?zz84l ?zz84c ?zz84k; (case zz84a => k_is); (case zz84l => k_is); (case zz84c => k_is); (case zz84k => k_is))
      (case D_dark => refine' AM.df_mk KX G (fun _ _ _ _ _ _ us hl => match us, hl with | [_], _ => rfl) ?zz85a ?zz85l ?zz85c ?zz85k; (case zz85a => k_is); (case zz85l => k_is); (case zz85c => k_is); (case zz85k => k_is))
      (case D_full => refine' AM.df_mk KX G (fun _ _ _ _ _ _ us hl => match us, hl with | [_], _ => rfl) ?zz86a ?zz86l ?zz86c ?zz86k; (case zz86a => k_is); (case zz86l => k_is); (case zz86c => k_is); (case zz86k => k_is))
      (case D_moves => refine' AM.df_mk KX G (fun _ _ _ _ _ _ us hl => match us, hl with | [_], _ => rfl) ?zz87a ?zz87l ?zz87c ?zz87k; (case zz87a => k_is); (case zz87l => k_is); (case zz87c => k_is); (case zz87k => k_is))
      (case D_paths_of => refine' AM.df_mk KX G (fun _ _ _ _ _ _ us hl => match us, hl with | [_], _ => rfl) ?zz88a ?zz88l ?zz88c ?zz88k; (case zz88a => k_is); (case zz88l => k_is); (case zz88c => k_is); (case zz88k => k_is))
      (case D_put_at => refine' AM.df_mk KX G (fun _ _ _ _ _ _ us hl => match us, hl with | [_, _, _], _ => rfl) ?zz89a ?zz89l ?zz89c ?zz89k; (case zz89a => k_is); (case zz89l => k_is); (case zz89c => k_is); (case zz89k => k_is))
      (case D_spare => refine' AM.df_mk KX G (fun _ _ _ _ _ _ us hl => match us, hl with | [_], _ => rfl) ?zz90a ?zz90l ?zz90c ?zz90k; (case zz90a => k_is); (case zz90l => k_is); (case zz90c => k_is); (case zz90k => k_is))
      (case D__law_random => refine' AM.df_mk KX G (fun _ _ _ _ _ _ us hl => match us, hl with | [_, _], _ => rfl) ?zz91a ?zz91l ?zz91c ?zz91k; (case zz91a => k_is); (case zz91l => k_is); (case zz91c => k_is); (case zz91k => k_is))
      (case D__law_below => refine' AM.df_mk KX G (fun _ _ _ _ _ _ us hl => match us, hl with | [_, _], _ => rfl) ?zz92a ?zz92l ?zz92c ?zz92k; (case zz92a => k_is); (case zz92l => k_is); (case zz92c => k_is); (case zz92k => k_is))
      (case D__law_pick => refine' AM.df_mk KX G (fun _ _ _ _ _ _ us hl => match us, hl with | [_, _], _ => rfl) ?zz93a ?zz93l ?zz93c ?zz93k; (case zz93a => k_is); (case zz93l => k_is); (case zz93c => k_is); (case zz93k => k_is))
      (case D__law_leaf => refine' AM.df_mk KX G (fun _ _ _ _ _ _ us hl => match us, hl with | [_], _ => rfl) ?zz94a ?zz94l ?zz94c ?zz94k; (case zz94a => k_is); (case zz94l => k_is); (case zz94c => k_is); (case zz94k => k_is))
      (case D__law_pattern => refine' AM.df_mk KX G (fun _ _ _ _ _ _ us hl => match us, hl with | [_, _, _], _ => rfl) ?zz95a ?zz95l ?zz95c ?zz95k; (case zz95a => k_is); (case zz95l => k_is); (case zz95c => k_is); (case zz95k => k_is))
      (case D__law_lights => refine' AM.df_mk KX G (fun _ _ _ _ _ _ us hl => match us, hl with | [_, _, _], _ => rfl) ?zz96a ?zz96l ?zz96c ?zz96k; (case zz96a => k_is); (case zz96l => k_is); (case zz96c => k_is); (case zz96k => k_is))
      (case D__law_near => refine' AM.df_mk KX G (fun _ _ _ _ _ _ us hl => match us, hl with | [_, _], _ => rfl) ?zz97a ?zz97l ?zz97c ?zz97k; (case zz97a => k_is); (case zz97l => k_is); (case zz97c => k_is); (case zz97k => k_is))
      (case D__law_claims => refine' AM.df_mk KX G (fun _ _ _ _ _ _ us hl => match us, hl with | [_, _, _], _ => rfl) ?zz98a ?zz98l ?zz98c ?zz98k; (case zz98a => k_is); (case zz98l => k_is); (case zz98c => k_is); (case zz98k => k_is))
      (case D__law_turned => refine' AM.df_mk KX G (fun _ _ _ _ _ _ us hl => match us, hl with | [_], _ => rfl) ?zz99a ?zz99l ?zz99c ?zz99k; (case zz99a => k_is); (case zz99l => k_is); (case zz99c => k_is); (case zz99k => k_is))
    case zzR =>
     refine' AM.law_mk (st := AM.s_law) KX G hmg (fun _ _ _ _ _ _ u => rfl) (fun base f fd F => AM.ok_law M F) ?zza ?zzl ?zzc ?zzk
     (case zza => k_is); (case zzl => k_is); (case zzc => k_is); (case zzk => k_is)
