import PyProof.Rows.All
import Wide.All
import OpenK.AllK
import Wide.FinOn
import HandS.ForMost
import HandS.Exc
import HandS.TryOnly
import HandS.TryMany
import HandS.ExcOwn
import HandS.WordsExc
import HandS.CallSlots
import HandS.IsInst
import HandS.Star
import HandS.HotCalls
import HandS.ExcIs
import HandS.Property
import HandS.RaiseMore
import HandS.TupAny
import HandS.Small
import HandS.Ends
import HandS.OwnEq
import KE.KExcSuper
import HandS.ExcInit
import HandS.ExcField
import KE.KExcLine
import KE.RegKSuper
import KE.KExcIs
import PySem.Challenge.RW_lightchains_k12_errors_apart
set_option Elab.async false
set_option linter.all false
set_option autoImplicit false
set_option maxRecDepth 100000
set_option maxHeartbeats 1000000
/-! A machine of data over the layer's readings: values are data (tuples, lists, instances that stay) or places of things that change. -/
namespace AM
open PySem L2

inductive D where
  | non | bl (b : Bool) | int (i : Int) | str (s : Str) | ty (n : String) | loc (a : Addr)
  | tup (ds : List D) | lst (ds : List D) | fz (ds : List D) | ins (C : Addr) (fs : List (Str × D)) | exc (a dx : Addr) (fs : List (Str × D))
  deriving Inhabited

/-- what changes: a list, an instance -/
inductive MO where
  | l (ds : List D) | o (C : Addr) (fs : List (Str × D))
abbrev Mu := Addr → Option MO
def Mu.set (μ : Mu) (a : Addr) (m : MO) : Mu := fun b => if b = a then some m else μ b
def Mu.del (μ : Mu) (a : Addr) : Mu := fun b => if b = a then none else μ b
def mu0 : Mu := fun _ => none
@[simp] theorem Mu.set_same {μ : Mu} {a : Addr} {m : MO} : μ.set a m a = some m := if_pos rfl
theorem Mu.set_ne {μ : Mu} {a b : Addr} {m : MO} (h : b ≠ a) : μ.set a m b = μ b := if_neg h
@[simp] theorem Mu.set_set {μ : Mu} {a : Addr} {m m' : MO} : (μ.set a m).set a m' = μ.set a m' := by
  funext b; unfold Mu.set; split <;> rfl
theorem Mu.del_set {μ : Mu} {a : Addr} {m : MO} (h : μ a = none) : (μ.set a m).del a = μ := by
  funext b; unfold Mu.set Mu.del; split
  · rename_i e; rw [e, h]
  · rename_i e; exact if_neg e
theorem Mu.set_eq {μ : Mu} {a : Addr} {m : MO} (h : μ a = some m) : μ.set a m = μ := by
  funext b; unfold Mu.set; split
  · rename_i e; rw [e, h]
  · rfl
theorem Mu.set_comm {μ : Mu} {a b : Addr} {m m' : MO} (h : a ≠ b) : (μ.set a m).set b m' = (μ.set b m').set a m := by
  funext c; unfold Mu.set
  by_cases h1 : c = b
  · subst h1; simp [Ne.symm h]
  · by_cases h2 : c = a
    · subst h2; simp [h1]
    · simp [h1, h2]
theorem Mu.del_same {μ : Mu} {a : Addr} : μ.del a a = none := if_pos rfl
theorem Mu.del_ne {μ : Mu} {a b : Addr} (h : b ≠ a) : μ.del a b = μ b := if_neg h

/-- a list at a that is not among what changes; one that nothing may change -/
def SqF (μ : Mu) (H : Hp) (a : Addr) (xs : List V) : Prop := H a = some (.lst xs) ∧ μ a = none
def SqZ (K : PySem.W.Frag) (H : Hp) (a : Addr) (xs : List V) : Prop := (∃ o, H a = some (.frz o (.lst xs))) ∨
    ∃ (o : Obj) (its : Array Value) (n : Nat), K.lookup a = some o ∧ o.cls = .type "list" ∧ o.dict = none ∧ o.data = .seq its n ∧ its.size ≤ sizeLine ∧ Vals xs its.toList
theorem SqF.sq {K : PySem.W.Frag} {μ : Mu} {H : Hp} {a : Addr} {xs : List V} (h : SqF μ H a xs) : SqL K H a xs := .inl (.inl h.1)
theorem SqZ.sq {K : PySem.W.Frag} {H : Hp} {a : Addr} {xs : List V} (h : SqZ K H a xs) : SqL K H a xs := by
  rcases h with ⟨o, h⟩ | h
  · exact .inl (.inr ⟨o, h⟩)
  · exact .inr h

mutual
inductive Dt (K : PySem.W.Frag) (μ : Mu) (H : Hp) : V → D → Prop
  | non : Dt K μ H .non .non
  | bl (b : Bool) : Dt K μ H (.bl b) (.bl b)
  | int (i : Int) : Dt K μ H (.int i) (.int i)
  | str (x : Str) : Dt K μ H (.str x) (.str x)
  | ty (n : String) : Dt K μ H (.ty n) (.ty n)
  | loc (a : Addr) : Dt K μ H (.ref a) (.loc a)
  | tup {a : Addr} {xs : List V} {ds : List D} : SqT K H a xs → Dts K μ H xs ds → Dt K μ H (.ref a) (.tup ds)
  | lst {a : Addr} {xs : List V} {ds : List D} : SqF μ H a xs → Dts K μ H xs ds → Dt K μ H (.ref a) (.lst ds)
  | fz {a : Addr} {xs : List V} {ds : List D} : SqZ K H a xs → Dts K μ H xs ds → Dt K μ H (.ref a) (.fz ds)
  | ins {a C dx : Addr} {gs : List (Str × V)} {fs : List (Str × D)} : H a = some (.ins C dx gs) → μ a = none → Dfs K μ H gs fs → Dt K μ H (.ref a) (.ins C fs)
  | exc {a dx : Addr} {gs : List (Str × V)} {fs : List (Str × D)} : H dx = some (.xd gs) → Dfs K μ H gs fs → Dt K μ H (.ref a) (.exc a dx fs)
inductive Dts (K : PySem.W.Frag) (μ : Mu) (H : Hp) : List V → List D → Prop
  | nil : Dts K μ H [] []
  | cons {v : V} {vs : List V} {d : D} {ds : List D} : Dt K μ H v d → Dts K μ H vs ds → Dts K μ H (v :: vs) (d :: ds)
inductive Dfs (K : PySem.W.Frag) (μ : Mu) (H : Hp) : List (Str × V) → List (Str × D) → Prop
  | nil : Dfs K μ H [] []
  | cons {f : Str} {v : V} {vs : List (Str × V)} {d : D} {ds : List (Str × D)} : Dt K μ H v d → Dfs K μ H vs ds → Dfs K μ H ((f, v) :: vs) ((f, d) :: ds)
end

section
variable {K : PySem.W.Frag} {μ μ' μ1 : Mu} {H H' H1 : Hp} {v : V} {d : D} {xs : List V} {ds : List D} {gs : List (Str × V)} {fs : List (Str × D)} {a p : Addr}

/-- what nobody changes: an exception's dict, an outside thing -/
def Stk : HO → Prop
  | .xd _ => True
  | .ext _ => True
  | _ => False
/-- what a piece of data leans on is kept -/
structure Keeps (K : PySem.W.Frag) (μ : Mu) (H : Hp) (μ' : Mu) (H' : Hp) : Prop where
  t : ∀ a xs, SqT K H a xs → SqT K H' a xs
  l : ∀ a xs, SqF μ H a xs → SqF μ' H' a xs
  z : ∀ a xs, SqZ K H a xs → SqZ K H' a xs
  i : ∀ a C dx gs, H a = some (.ins C dx gs) → μ a = none → H' a = some (.ins C dx gs) ∧ μ' a = none
  x : ∀ a o, Stk o → H a = some o → H' a = some o
mutual
theorem Dt.keep (k : Keeps K μ H μ' H') : ∀ {v : V} {d : D}, Dt K μ H v d → Dt K μ' H' v d
  | _, _, .non => .non
  | _, _, .bl b => .bl b
  | _, _, .int b => .int b
  | _, _, .str b => .str b
  | _, _, .ty b => .ty b
  | _, _, .loc b => .loc b
  | _, _, .tup h q => .tup (k.t _ _ h) (Dts.keep k q)
  | _, _, .lst h q => .lst (k.l _ _ h) (Dts.keep k q)
  | _, _, .fz h q => .fz (k.z _ _ h) (Dts.keep k q)
  | _, _, .ins h m q => .ins (k.i _ _ _ _ h m).1 (k.i _ _ _ _ h m).2 (Dfs.keep k q)
  | _, _, .exc h q => .exc (k.x _ _ trivial h) (Dfs.keep k q)
theorem Dts.keep (k : Keeps K μ H μ' H') : ∀ {xs : List V} {ds : List D}, Dts K μ H xs ds → Dts K μ' H' xs ds
  | _, _, .nil => .nil
  | _, _, .cons h q => .cons (Dt.keep k h) (Dts.keep k q)
theorem Dfs.keep (k : Keeps K μ H μ' H') : ∀ {xs : List (Str × V)} {ds : List (Str × D)}, Dfs K μ H xs ds → Dfs K μ' H' xs ds
  | _, _, .nil => .nil
  | _, _, .cons h q => .cons (Dt.keep k h) (Dfs.keep k q)
end
theorem Dts.length : ∀ {xs : List V} {ds : List D}, Dts K μ H xs ds → xs.length = ds.length
  | _, _, .nil => rfl
  | _, _, .cons _ q => congrArg (· + 1) (Dts.length q)
theorem Dts.get : ∀ {xs : List V} {ds : List D} {i : Nat} {d : D}, Dts K μ H xs ds → ds[i]? = some d → ∃ v, xs[i]? = some v ∧ Dt K μ H v d
  | _, _, _, _, .nil, e => by simp at e
  | _, _, 0, _, .cons h q, e => by simp at e; subst e; exact ⟨_, rfl, h⟩
  | _, _, i + 1, d, .cons h q, e => by
    obtain ⟨v, h1, h2⟩ := Dts.get (i := i) (d := d) q (by simpa using e)
    exact ⟨v, by simpa using h1, h2⟩
theorem Dts.get' : ∀ {xs : List V} {ds : List D} {i : Nat} {v : V}, Dts K μ H xs ds → xs[i]? = some v → ∃ d, ds[i]? = some d ∧ Dt K μ H v d
  | _, _, _, _, .nil, e => by simp at e
  | _, _, 0, _, .cons h q, e => by simp at e; subst e; exact ⟨_, rfl, h⟩
  | _, _, i + 1, d, .cons h q, e => by
    obtain ⟨v, h1, h2⟩ := Dts.get' (i := i) (v := d) q (by simpa using e)
    exact ⟨v, by simpa using h1, h2⟩
theorem Dts.append : ∀ {xs ys : List V} {ds es : List D}, Dts K μ H xs ds → Dts K μ H ys es → Dts K μ H (xs ++ ys) (ds ++ es)
  | _, _, _, _, .nil, s => s
  | _, _, _, _, .cons r t, s => .cons r (Dts.append t s)
theorem Dts.take : ∀ {xs : List V} {ds : List D} (n : Nat), Dts K μ H xs ds → Dts K μ H (xs.take n) (ds.take n)
  | _, _, 0, _ => .nil
  | _, _, _ + 1, .nil => .nil
  | _, _, n + 1, .cons r t => .cons r (Dts.take n t)
theorem Dts.drop : ∀ {xs : List V} {ds : List D} (n : Nat), Dts K μ H xs ds → Dts K μ H (xs.drop n) (ds.drop n)
  | _, _, 0, r => r
  | _, _, _ + 1, .nil => .nil
  | _, _, n + 1, .cons _ t => Dts.drop n t
theorem Dts.set {v : V} {d : D} (r : Dt K μ H v d) : ∀ {xs : List V} {ds : List D} (i : Nat), Dts K μ H xs ds → Dts K μ H (xs.set i v) (ds.set i d)
  | _, _, _, .nil => .nil
  | _, _, 0, .cons _ t => .cons r t
  | _, _, i + 1, .cons q t => .cons q (Dts.set r i t)
theorem Dts.eraseIdx : ∀ {xs : List V} {ds : List D} (i : Nat), Dts K μ H xs ds → Dts K μ H (xs.eraseIdx i) (ds.eraseIdx i)
  | _, _, _, .nil => .nil
  | _, _, 0, .cons _ t => t
  | _, _, i + 1, .cons q t => .cons q (Dts.eraseIdx i t)
theorem Dts.dropLast {xs : List V} {ds : List D} (h : Dts K μ H xs ds) : Dts K μ H xs.dropLast ds.dropLast := by
  rw [List.dropLast_eq_take, List.dropLast_eq_take, h.length]; exact h.take _
theorem Dts.rep {xs : List V} {ds : List D} (h : Dts K μ H xs ds) : ∀ n, Dts K μ H (List.replicate n xs).flatten (List.replicate n ds).flatten
  | 0 => .nil
  | n + 1 => by rw [List.replicate_succ, List.replicate_succ, List.flatten_cons, List.flatten_cons]; exact h.append (Dts.rep h n)
theorem Dts.ints : ∀ (ns : List Int), Dts K μ H (ns.map V.int) (ns.map D.int)
  | [] => .nil
  | _ :: r => .cons (.int _) (Dts.ints r)
theorem Dts.of_ints : ∀ {ns : List Int} {xs : List V}, Dts K μ H xs (ns.map D.int) → xs = ns.map V.int
  | [], _, .nil => rfl
  | _ :: r, _, .cons h q => by cases h; rw [Dts.of_ints (ns := r) q]; rfl
theorem Dts.of_strs : ∀ {ns : List Str} {xs : List V}, Dts K μ H xs (ns.map D.str) → xs = ns.map V.str
  | [], _, .nil => rfl
  | _ :: r, _, .cons h q => by cases h; rw [Dts.of_strs (ns := r) q]; rfl
theorem Dts.of_bls : ∀ {ns : List Bool} {xs : List V}, Dts K μ H xs (ns.map D.bl) → xs = ns.map V.bl
  | [], _, .nil => rfl
  | _ :: r, _, .cons h q => by cases h; rw [Dts.of_bls (ns := r) q]; rfl
theorem Dts.strs : ∀ (ns : List Str), Dts K μ H (ns.map V.str) (ns.map D.str)
  | [] => .nil
  | _ :: r => .cons (.str _) (Dts.strs r)
def lookF (f : Str) : List (Str × D) → Option D
  | [] => none
  | (g, d) :: r => if f = g then some d else lookF f r
def setF (f : Str) (d : D) : List (Str × D) → List (Str × D)
  | [] => [(f, d)]
  | (g, e) :: r => if g = f then (g, d) :: r else (g, e) :: setF f d r
theorem Dfs.look {f : Str} : ∀ {gs : List (Str × V)} {fs : List (Str × D)} {d : D}, Dfs K μ H gs fs → lookF f fs = some d → ∃ v, gs.lookup f = some v ∧ Dt K μ H v d
  | _, _, d, .nil, e => by cases e
  | _, _, d, .cons (f := g) (v := v) (d := d') h q, e => by
    unfold lookF at e
    by_cases hf : f = g
    · rw [if_pos hf] at e; cases e
      refine ⟨v, ?_, h⟩
      rw [hf]; simp [List.lookup]
    · rw [if_neg hf] at e
      obtain ⟨u, h1, h2⟩ := Dfs.look q e
      refine ⟨u, ?_, h2⟩
      have : (f == g) = false := by simpa using hf
      simp [List.lookup, this, h1]
theorem Dfs.look0 {f : Str} : ∀ {gs : List (Str × V)} {fs : List (Str × D)}, Dfs K μ H gs fs → lookF f fs = none → gs.lookup f = none
  | _, _, .nil, e => rfl
  | _, _, .cons (f := g) (v := v) (d := d') h q, e => by
    unfold lookF at e
    by_cases hf : f = g
    · rw [if_pos hf] at e; cases e
    · rw [if_neg hf] at e
      have : (f == g) = false := by simpa using hf
      simp [List.lookup, this, Dfs.look0 q e]
theorem Dfs.put {f : Str} {v : V} {d : D} (r : Dt K μ H v d) : ∀ {gs : List (Str × V)} {fs : List (Str × D)}, Dfs K μ H gs fs → Dfs K μ H (putF f v gs) (setF f d fs)
  | _, _, .nil => .cons r .nil
  | _, _, .cons (f := g) h q => by
    unfold putF setF
    by_cases hf : g = f
    · rw [if_pos hf, if_pos hf]; exact .cons r q
    · rw [if_neg hf, if_neg hf]; exact .cons h (Dfs.put r q)
theorem Dfs.length : ∀ {xs : List (Str × V)} {ds : List (Str × D)}, Dfs K μ H xs ds → xs.length = ds.length
  | _, _, .nil => rfl
  | _, _, .cons _ q => congrArg (· + 1) (Dfs.length q)

/-- the things that change stand in the heap -/
def MAt (K : PySem.W.Frag) (μ : Mu) (H : Hp) (a : Addr) : MO → Prop
  | .l ds => ∃ xs, H a = some (.lst xs) ∧ Dts K μ H xs ds
  | .o C fs => ∃ dx gs, H a = some (.ins C dx gs) ∧ Dfs K μ H gs fs
def HS (K : PySem.W.Frag) (μ : Mu) (H : Hp) : Prop := ∀ a m, μ a = some m → MAt K μ H a m
theorem HS.none (h : HS K μ H) {a : Addr} (e : H a = none) : μ a = none := by
  cases q : μ a with
  | none => rfl
  | some m =>
    have z := h a m q
    cases m with
    | l ds => obtain ⟨_, z, _⟩ := z; rw [e] at z; cases z
    | o C fs => obtain ⟨_, _, z, _⟩ := z; rw [e] at z; cases z
theorem MAt.keep (k : Keeps K μ H μ' H') (e : H' a = H a) : ∀ {m : MO}, MAt K μ H a m → MAt K μ' H' a m
  | .l ds, ⟨xs, h, q⟩ => ⟨xs, e.trans h, q.keep k⟩
  | .o C fs, ⟨dx, gs, h, q⟩ => ⟨dx, gs, e.trans h, q.keep k⟩

/-- the whole step: data is kept, and what changes stands -/
structure Evo (K : PySem.W.Frag) (μ : Mu) (H : Hp) (μ' : Mu) (H' : Hp) : Prop where
  k : Keeps K μ H μ' H'
  s : HS K μ' H'
theorem Keeps.refl : Keeps K μ H μ H := ⟨fun _ _ h => h, fun _ _ h => h, fun _ _ h => h, fun _ _ _ _ h m => ⟨h, m⟩, fun _ _ _ h => h⟩
theorem Keeps.trans (a : Keeps K μ H μ1 H1) (b : Keeps K μ1 H1 μ' H') : Keeps K μ H μ' H' :=
  ⟨fun c xs h => b.t c xs (a.t c xs h), fun c xs h => b.l c xs (a.l c xs h), fun c xs h => b.z c xs (a.z c xs h), fun c C dx gs h m => b.i c C dx gs (a.i c C dx gs h m).1 (a.i c C dx gs h m).2, fun c o s h => b.x c o s (a.x c o s h)⟩
theorem Evo.refl (h : HS K μ H) : Evo K μ H μ H := ⟨Keeps.refl, h⟩
theorem Evo.trans (a : Evo K μ H μ1 H1) (b : Evo K μ1 H1 μ' H') : Evo K μ H μ' H' := ⟨a.k.trans b.k, b.s⟩
theorem Evo.dt (e : Evo K μ H μ' H') {v : V} {d : D} (h : Dt K μ H v d) : Dt K μ' H' v d := h.keep e.k
theorem Evo.dts (e : Evo K μ H μ' H') {xs : List V} {ds : List D} (h : Dts K μ H xs ds) : Dts K μ' H' xs ds := h.keep e.k

theorem Same.rd {u : HO} (s : Same H H') (h : Rd H a u) : Rd H' a u := by
  rcases h with h | ⟨o, h⟩
  · exact .inl (s _ _ h)
  · exact .inr ⟨o, s _ _ h⟩
theorem keeps_same (s : Same H H') : Keeps K μ H μ H' :=
  ⟨fun a xs h => h.elim (fun h => .inl (Same.rd s h)) .inr, fun a xs h => ⟨s _ _ h.1, h.2⟩, fun a xs h => h.elim (fun ⟨o, h⟩ => .inl ⟨o, s _ _ h⟩) .inr, fun a C dx gs h m => ⟨s _ _ h, m⟩, fun a o _ h => s _ _ h⟩
/-- nothing that stood has changed -/
theorem evo_same (h : HS K μ H) (s : Same H H') : Evo K μ H μ H' := ⟨keeps_same s, fun a m e => by
  have z := h a m e
  cases m with
  | l ds => obtain ⟨xs, z, q⟩ := z; exact ⟨xs, s _ _ z, q.keep (keeps_same s)⟩
  | o C fs => obtain ⟨dx, gs, z, q⟩ := z; exact ⟨dx, gs, s _ _ z, q.keep (keeps_same s)⟩⟩
theorem same_new {p : Addr} {o : HO} (h : H p = none) : Same H (upd H p o) := fun b x e => by
  rw [upd_ne (ne_of_none e h)]; exact e
/-- a new thing that changes -/
theorem keeps_new (s : Same H H') (hp : H p = none) {m : MO} : Keeps K μ H (μ.set p m) H' :=
  ⟨fun a xs h => h.elim (fun h => .inl (Same.rd s h)) .inr, fun a xs ⟨h, q⟩ => ⟨s _ _ h, by rw [Mu.set_ne (ne_of_none h hp)]; exact q⟩, fun a xs h => h.elim (fun ⟨o, h⟩ => .inl ⟨o, s _ _ h⟩) .inr, fun a C dx gs h q => ⟨s _ _ h, by rw [Mu.set_ne (ne_of_none h hp)]; exact q⟩, fun a o _ h => s _ _ h⟩
theorem evo_new (h : HS K μ H) (s : Same H H') (hp : H p = none) {m : MO} (hm : MAt K (μ.set p m) H' p m) : Evo K μ H (μ.set p m) H' :=
  ⟨keeps_new s hp, fun a m' e => by
    by_cases ha : a = p
    · subst ha; rw [Mu.set_same] at e; cases e; exact hm
    · rw [Mu.set_ne ha] at e
      have z := h a m' e
      cases m' with
      | l ds => obtain ⟨xs, z, q⟩ := z; exact ⟨xs, s _ _ z, q.keep (keeps_new s hp)⟩
      | o C fs => obtain ⟨dx, gs, z, q⟩ := z; exact ⟨dx, gs, s _ _ z, q.keep (keeps_new s hp)⟩⟩
/-- a thing that changes has changed -/
theorem keeps_set (h : HS K μ H) {m0 m : MO} (e : μ p = some m0) {o : HO} : Keeps K μ H (μ.set p m) (upd H p o) := by
  have z := h p m0 e
  have nf : ∀ a o' u, H a = some (.frz o' u) → a ≠ p := fun a o' u q r => by
    subst r
    cases m0 with
    | l ds => obtain ⟨_, z, _⟩ := z; rw [q] at z; cases z
    | o C fs => obtain ⟨_, _, z, _⟩ := z; rw [q] at z; cases z
  have nt : ∀ a xs, H a = some (.tup xs) → a ≠ p := fun a xs q r => by
    subst r
    cases m0 with
    | l ds => obtain ⟨_, z, _⟩ := z; rw [q] at z; cases z
    | o C fs => obtain ⟨_, _, z, _⟩ := z; rw [q] at z; cases z
  have nm : ∀ a, μ a = none → a ≠ p := fun a q r => by subst r; rw [q] at e; cases e
  have nx : ∀ a o', Stk o' → H a = some o' → a ≠ p := fun a o' st q r => by
    subst r
    cases m0 with
    | l ds => obtain ⟨_, z, _⟩ := z; rw [z] at q; cases q; exact st
    | o C fs => obtain ⟨_, _, z, _⟩ := z; rw [z] at q; cases q; exact st
  refine ⟨fun a xs q => ?_, fun a xs q => ?_, fun a xs q => ?_, fun a C dx gs q r => ?_, fun a o' st q => by rw [upd_ne (nx a o' st q)]; exact q⟩
  · rcases q with (q | ⟨o', q⟩) | q
    · exact .inl (.inl (by rw [upd_ne (nt _ _ q)]; exact q))
    · exact .inl (.inr ⟨o', by rw [upd_ne (nf _ _ _ q)]; exact q⟩)
    · exact .inr q
  · obtain ⟨q, r⟩ := q
    exact ⟨by rw [upd_ne (nm _ r)]; exact q, by rw [Mu.set_ne (nm _ r)]; exact r⟩
  · rcases q with ⟨o', q⟩ | q
    · exact .inl ⟨o', by rw [upd_ne (nf _ _ _ q)]; exact q⟩
    · exact .inr q
  · exact ⟨by rw [upd_ne (nm _ r)]; exact q, by rw [Mu.set_ne (nm _ r)]; exact r⟩
theorem evo_set (h : HS K μ H) {m0 m : MO} (e : μ p = some m0) {o : HO} (hm : MAt K (μ.set p m) (upd H p o) p m) : Evo K μ H (μ.set p m) (upd H p o) :=
  ⟨keeps_set h e, fun a m' q => by
    by_cases ha : a = p
    · subst ha; rw [Mu.set_same] at q; cases q; exact hm
    · rw [Mu.set_ne ha] at q
      exact (h a m' q).keep (keeps_set h e) (upd_ne ha)⟩
/-- a thing that changes no more -/
theorem keeps_del : Keeps K μ H (μ.del p) H := by
  have z : ∀ a, μ a = none → μ.del p a = none := fun a e => by
    unfold Mu.del; split
    · rfl
    · exact e
  exact ⟨fun a xs q => q, fun a xs q => ⟨q.1, z _ q.2⟩, fun a xs q => q, fun a C dx gs q r => ⟨q, z _ r⟩, fun a o _ q => q⟩
theorem evo_del (h : HS K μ H) : Evo K μ H (μ.del p) H := ⟨keeps_del, fun a m q => by
  by_cases ha : a = p
  · subst ha; rw [Mu.del_same] at q; cases q
  · rw [Mu.del_ne ha] at q
    exact (h a m q).keep keeps_del rfl⟩
theorem frozen_l (h : HS K μ H) (e : μ p = some (.l ds)) : Dt K (μ.del p) H (.ref p) (.lst ds) := by
  obtain ⟨xs, z, q⟩ := h p _ e
  exact .lst ⟨z, Mu.del_same⟩ (q.keep keeps_del)
theorem frozen_o (h : HS K μ H) {C : Addr} (e : μ p = some (.o C fs)) : Dt K (μ.del p) H (.ref p) (.ins C fs) := by
  obtain ⟨dx, gs, z, q⟩ := h p _ e
  exact .ins z Mu.del_same (q.keep keeps_del)
end

/-! ### the data of == -/
mutual
def D.py : D → PyData
  | .bl b => .bool b
  | .int i => .int i
  | .str s => .str s
  | .tup ds => .tuple (D.pys ds)
  | .lst ds => .list (D.pys ds)
  | .non => .none
  | .ty _ => .none
  | .loc _ => .none
  | .fz _ => .none
  | .ins _ _ => .none
  | .exc _ _ _ => .none
def D.pys : List D → List PyData
  | [] => []
  | d :: r => D.py d :: D.pys r
end
mutual
def D.isPy : D → Bool
  | .bl _ => true
  | .int _ => true
  | .str s => PyData.strOk s
  | .tup ds => D.arePy ds
  | .lst ds => D.arePy ds
  | .non => true
  | .ty _ => false
  | .loc _ => false
  | .fz _ => false
  | .ins _ _ => false
  | .exc _ _ _ => false
def D.arePy : List D → Bool
  | [] => true
  | d :: r => D.isPy d && D.arePy r
end
section
variable {K : PySem.W.Frag} {μ : Mu} {H : Hp}
mutual
theorem Dt.dp : ∀ {v : V} {d : D}, Dt K μ H v d → d.isPy = true → Dp K H v d.py
  | _, _, .non, _ => by unfold D.py; exact .non
  | _, _, .bl b, _ => by unfold D.py; exact .bl b
  | _, _, .int b, _ => by unfold D.py; exact .int b
  | _, _, .str b, _ => by unfold D.py; exact .str b
  | _, _, .ty b, h => by unfold D.isPy at h; cases h
  | _, _, .loc b, h => by unfold D.isPy at h; cases h
  | _, _, .fz _ _, h => by unfold D.isPy at h; cases h
  | _, _, .tup q r, h => by unfold D.py; unfold D.isPy at h; exact .tup q (Dts.dp r h)
  | _, _, .lst q r, h => by unfold D.py; unfold D.isPy at h; exact .lst q.sq (Dts.dp r h)
  | _, _, .ins q m r, h => by unfold D.isPy at h; cases h
  | _, _, .exc q r, h => by unfold D.isPy at h; cases h
theorem Dts.dp : ∀ {xs : List V} {ds : List D}, Dts K μ H xs ds → D.arePy ds = true → DpAll K H xs (D.pys ds)
  | _, _, .nil, _ => by unfold D.pys; exact .nil
  | _, _, .cons q r, h => by
    unfold D.pys; unfold D.arePy at h
    rw [Bool.and_eq_true] at h
    exact .cons (Dt.dp q h.1) (Dts.dp r h.2)
end
end
mutual
theorem D.canLay : ∀ d : D, d.isPy = true → d.py.canLay0 = true
  | .bl _, _ => by unfold D.py PyData.canLay0; rfl
  | .int _, _ => by unfold D.py PyData.canLay0; rfl
  | .str s, h => by unfold D.py PyData.canLay0; unfold D.isPy at h; exact h
  | .tup ds, h => by unfold D.py PyData.canLay0; unfold D.isPy at h; exact D.canLays ds h
  | .lst ds, h => by unfold D.py PyData.canLay0; unfold D.isPy at h; exact D.canLays ds h
  | .non, _ => by unfold D.py PyData.canLay0; rfl
  | .ty _, h => by unfold D.isPy at h; cases h
  | .loc _, h => by unfold D.isPy at h; cases h
  | .fz _, h => by unfold D.isPy at h; cases h
  | .ins _ _, h => by unfold D.isPy at h; cases h
  | .exc _ _ _, h => by unfold D.isPy at h; cases h
theorem D.canLays : ∀ ds : List D, D.arePy ds = true → PyData.canLayAll0 (D.pys ds) = true
  | [], _ => by unfold D.pys PyData.canLayAll0; rfl
  | d :: r, h => by
    unfold D.pys PyData.canLayAll0; unfold D.arePy at h
    rw [Bool.and_eq_true] at h ⊢
    exact ⟨D.canLay d h.1, D.canLays r h.2⟩
end
end AM

set_option autoImplicit false
set_option maxRecDepth 100000
set_option maxHeartbeats 1000000
namespace AM
open PySem L2

/-! ### the judgements -/
theorem noN {X : Cx} : L2N.Takes X (fun _ _ _ _ => False) := fun _ _ x => by
  obtain ⟨_, _, _, _, _, _, _, _, _, _, _, _, _, _, _, _, z⟩ := x
  exact z.elim
theorem passN {X : Cx} : Passes (L2N.CX X.prog X.w) X E0 := fun _ _ _ _ _ _ _ h => by
  obtain ⟨_, _, _, _, _, _, _, _, _, _, _, _, z⟩ := h
  exact z.elim
structure Ctx where
  X : Cx
  W : WX
  tk : L2N.Takes X W
  po : PassesOwn (model X.prog X.w) X.A X.env X.xe
abbrev Ctx.K (c : Ctx) : PySem.W.Frag := c.X.K
abbrev Sl := List (Option D)
abbrev XD := Addr → Option (List (Str × D)) → Sl → Mu → Prop
abbrev noX : XD := fun _ _ _ _ => False
structure OkS (K : PySem.W.Frag) (μ : Mu) (H : Hp) (σ : L2.St) (Δ : Sl) : Prop where
  len : σ.length = Δ.length
  get : ∀ (i : Nat) (d : D), Δ[i]? = some (some d) → ∃ v, σ[i]? = some (some v) ∧ Dt K μ H v d
theorem OkS.evo {K : PySem.W.Frag} {μ μ' : Mu} {H H' : Hp} {σ : L2.St} {Δ : Sl} (h : OkS K μ H σ Δ) (e : Evo K μ H μ' H') : OkS K μ' H' σ Δ :=
  ⟨h.len, fun i d q => let ⟨v, a, b⟩ := h.get i d q; ⟨v, a, e.dt b⟩⟩
theorem OkS.set {K : PySem.W.Frag} {μ : Mu} {H : Hp} {σ : L2.St} {Δ : Sl} (h : OkS K μ H σ Δ) (i : Nat) {v : V} {d : D} (r : Dt K μ H v d) : OkS K μ H (σ.set i (some v)) (Δ.set i (some d)) := by
  refine ⟨by simp [h.len], fun j e q => ?_⟩
  by_cases hj : i = j
  · subst hj
    by_cases hl : i < Δ.length
    · rw [List.getElem?_set_self hl] at q
      cases q
      exact ⟨v, List.getElem?_set_self (by rw [h.len]; exact hl), r⟩
    · rw [List.getElem?_eq_none (by simp; omega)] at q; cases q
  · rw [List.getElem?_set_ne hj] at q
    obtain ⟨u, a, b⟩ := h.get j e q
    exact ⟨u, by rw [List.getElem?_set_ne hj]; exact a, b⟩
theorem OkS.unset {K : PySem.W.Frag} {μ : Mu} {H : Hp} {σ : L2.St} {Δ : Sl} (h : OkS K μ H σ Δ) (i : Nat) : OkS K μ H (σ.set i none) (Δ.set i none) := by
  refine ⟨by simp [h.len], fun j e q => ?_⟩
  by_cases hj : i = j
  · subst hj
    by_cases hl : i < Δ.length
    · rw [List.getElem?_set_self hl] at q; cases q
    · rw [List.getElem?_eq_none (by simp; omega)] at q; cases q
  · rw [List.getElem?_set_ne hj] at q
    obtain ⟨u, a, b⟩ := h.get j e q
    exact ⟨u, by rw [List.getElem?_set_ne hj]; exact a, b⟩
/-- knowing less of the slots -/
theorem OkS.weak {K : PySem.W.Frag} {μ : Mu} {H : Hp} {σ : L2.St} {Δ Δ' : Sl} (h : OkS K μ H σ Δ) (hl : Δ'.length = Δ.length) (hw : ∀ (i : Nat) (d : D), Δ'[i]? = some (some d) → Δ[i]? = some (some d)) : OkS K μ H σ Δ' :=
  ⟨h.len.trans hl.symm, fun i d q => h.get i d (hw i d q)⟩
def XAt (K : PySem.W.Frag) (μ : Mu) (H : Hp) (cls : Value) (dict : Option Addr) (C : Addr) : Option (List (Str × D)) → Prop
  | none => cls = .ref C ∧ dict = none
  | some fs => cls = .ref C ∧ ∃ p gs, dict = some p ∧ H p = some (.xd gs) ∧ Dfs K μ H gs fs

def wE (X : Cx) (e : Expr) : TE := fun σ H Q => ∃ t, PE X e t ∧ t σ H Q
def wT (X : Cx) (e : Expr) : TT := fun σ H Q => ∃ t, PT X e t ∧ t σ H Q
def wA (X : Cx) (es : List Expr) : TA := fun σ H Q => ∃ t, PA X es t ∧ t σ H Q
def wS (X : Cx) (st : Stmt) : TS := fun D σ H => ∃ t, PS X st t ∧ t D σ H
def wSs (X : Cx) (st : List Stmt) : TS := fun D σ H => ∃ t, PSs X st t ∧ t D σ H
theorem pe_w {X : Cx} {e : Expr} : PE X e (wE X e) := ⟨fun pins s σ H Q I ⟨_, h, q⟩ => h.run pins s σ H Q I q⟩
theorem pt_w {X : Cx} {e : Expr} : PT X e (wT X e) := ⟨fun pins s σ H Q I ⟨_, h, q⟩ => h.run pins s σ H Q I q⟩
theorem pa_w {X : Cx} {es : List Expr} : PA X es (wA X es) := ⟨fun pos pins s σ H Q I ⟨_, h, q⟩ => h.run pos pins s σ H Q I q⟩
theorem ps_w {X : Cx} {st : Stmt} : PS X st (wS X st) := ⟨fun pins s σ H Q I ⟨_, h, q⟩ => h.run pins s σ H Q I q⟩
theorem pss_w {X : Cx} {st : List Stmt} : PSs X st (wSs X st) := ⟨fun pins s σ H Q I ⟨_, h, q⟩ => h.run pins s σ H Q I q⟩

/-- what is wanted of an exception, at the heap -/
def WantX (c : Ctx) (Δ : Sl) (σ : L2.St) (μ : Mu) (H : Hp) (Ex : XD) : Prop :=
  ∀ cls dict C o μ' H', Evo c.K μ H μ' H' → XAt c.K μ' H' cls dict C o → Ex C o Δ μ' → c.W cls dict σ H'
theorem WantX.evo {c : Ctx} {Δ : Sl} {σ : L2.St} {μ μ' : Mu} {H H' : Hp} {Ex : XD} (h : WantX c Δ σ μ H Ex) (e : Evo c.K μ H μ' H') : WantX c Δ σ μ' H' Ex :=
  fun cls dict C o μ2 H2 e2 x q => h cls dict C o μ2 H2 (e.trans e2) x q
def WantV (c : Ctx) (μ : Mu) (H : Hp) (Q : D → Mu → Prop) (QV : VK) : Prop := ∀ v d μ' H', Evo c.K μ H μ' H' → Dt c.K μ' H' v d → Q d μ' → QV v H'
theorem WantV.evo {c : Ctx} {μ μ' : Mu} {H H' : Hp} {Q : D → Mu → Prop} {QV : VK} (h : WantV c μ H Q QV) (e : Evo c.K μ H μ' H') : WantV c μ' H' Q QV :=
  fun v d μ2 H2 e2 x q => h v d μ2 H2 (e.trans e2) x q
def CE (c : Ctx) (e : Expr) (Δ : Sl) (μ : Mu) (Q : D → Mu → Prop) (Ex : XD) : Prop :=
  ∀ σ H, OkS c.K μ H σ Δ → HS c.K μ H → ∀ QV : VK, WantV c μ H Q QV → WantX c Δ σ μ H Ex → wE c.X e σ H QV
def CT (c : Ctx) (e : Expr) (Δ : Sl) (μ : Mu) (Q : Bool → Mu → Prop) (Ex : XD) : Prop :=
  ∀ σ H, OkS c.K μ H σ Δ → HS c.K μ H → ∀ QV : Bool → Hp → Prop, (∀ b μ' H', Evo c.K μ H μ' H' → Q b μ' → QV b H') → WantX c Δ σ μ H Ex → wT c.X e σ H QV
def CA (c : Ctx) (es : List Expr) (Δ : Sl) (μ : Mu) (Q : List D → Mu → Prop) (Ex : XD) : Prop :=
  ∀ σ H, OkS c.K μ H σ Δ → HS c.K μ H → ∀ QV : List V → Hp → Prop, (∀ vs ds μ' H', Evo c.K μ H μ' H' → Dts c.K μ' H' vs ds → Q ds μ' → QV vs H') → WantX c Δ σ μ H Ex → wA c.X es σ H QV
structure DE where
  nx : Sl → Mu → Prop
  rt : D → Mu → Prop
  bk : Sl → Mu → Prop := fun _ _ => False
  ct : Sl → Mu → Prop := fun _ _ => False
  ex : XD := fun _ _ _ _ => False
structure Sim (c : Ctx) (μ : Mu) (H : Hp) (E : DE) (Ev : Ends) : Prop where
  nx : ∀ σ' Δ' μ' H', Evo c.K μ H μ' H' → OkS c.K μ' H' σ' Δ' → E.nx Δ' μ' → Ev.nx σ' H'
  rt : WantV c μ H E.rt Ev.rt
  bk : ∀ σ' Δ' μ' H', Evo c.K μ H μ' H' → OkS c.K μ' H' σ' Δ' → E.bk Δ' μ' → Ev.bk σ' H'
  ct : ∀ σ' Δ' μ' H', Evo c.K μ H μ' H' → OkS c.K μ' H' σ' Δ' → E.ct Δ' μ' → Ev.ct σ' H'
  ex : ∀ cls dict C o σ' Δ' μ' H', Evo c.K μ H μ' H' → OkS c.K μ' H' σ' Δ' → XAt c.K μ' H' cls dict C o → E.ex C o Δ' μ' → c.W cls dict σ' H'
theorem Sim.evo {c : Ctx} {μ μ' : Mu} {H H' : Hp} {E : DE} {Ev : Ends} (h : Sim c μ H E Ev) (e : Evo c.K μ H μ' H') : Sim c μ' H' E Ev :=
  ⟨fun s d m H2 e2 o q => h.nx s d m H2 (e.trans e2) o q, h.rt.evo e, fun s d m H2 e2 o q => h.bk s d m H2 (e.trans e2) o q, fun s d m H2 e2 o q => h.ct s d m H2 (e.trans e2) o q,
    fun a b C o s d m H2 e2 k x q => h.ex a b C o s d m H2 (e.trans e2) k x q⟩
theorem Sim.want {c : Ctx} {μ : Mu} {H : Hp} {E : DE} {Ev : Ends} {σ : L2.St} {Δ : Sl} (h : Sim c μ H E Ev) (ok : OkS c.K μ H σ Δ) : WantX c Δ σ μ H E.ex :=
  fun a b C o m H2 e x q => h.ex a b C o σ Δ m H2 e (ok.evo e) x q
def CS (c : Ctx) (st : Stmt) (Δ : Sl) (μ : Mu) (E : DE) : Prop := ∀ σ H, OkS c.K μ H σ Δ → HS c.K μ H → ∀ Ev, Sim c μ H E Ev → wS c.X st Ev σ H
def CSs (c : Ctx) (st : List Stmt) (Δ : Sl) (μ : Mu) (E : DE) : Prop := ∀ σ H, OkS c.K μ H σ Δ → HS c.K μ H → ∀ Ev, Sim c μ H E Ev → wSs c.X st Ev σ H

section
variable {c : Ctx} {e a b : Expr} {es : List Expr} {Δ : Sl} {μ : Mu} {Q Q' : D → Mu → Prop} {QB QB' : Bool → Mu → Prop} {QA QA' : List D → Mu → Prop} {Ex Ex' : XD} {pos : Pos} {E : DE} {st : Stmt} {sts : List Stmt}

theorem CE.imp (h : CE c e Δ μ Q Ex) (hq : ∀ d m, Q d m → Q' d m) : CE c e Δ μ Q' Ex := fun σ H ok hs QV hQ hX => h σ H ok hs QV (fun v d m H' e dt q => hQ v d m H' e dt (hq d m q)) hX
theorem CT.imp (h : CT c e Δ μ QB Ex) (hq : ∀ d m, QB d m → QB' d m) : CT c e Δ μ QB' Ex := fun σ H ok hs QV hQ hX => h σ H ok hs QV (fun v m H' e q => hQ v m H' e (hq v m q)) hX
theorem CA.imp (h : CA c es Δ μ QA Ex) (hq : ∀ d m, QA d m → QA' d m) : CA c es Δ μ QA' Ex := fun σ H ok hs QV hQ hX => h σ H ok hs QV (fun v d m H' e dt q => hQ v d m H' e dt (hq d m q)) hX
/-- a value's forgotten place: what is handed on stands as data -/
theorem CE.freeze {p : Addr} (h : CE c e Δ μ (fun d m => (∃ ds, d = .loc p ∧ m p = some (.l ds) ∧ Q (.lst ds) (m.del p)) ∨ Q d m) Ex) : CE c e Δ μ Q Ex := fun σ H ok hs QV hQ hX =>
  h σ H ok hs QV (fun v d m H' ev dt q => by
    rcases q with ⟨ds, rfl, hm, q⟩ | q
    · cases dt
      exact hQ _ _ _ _ (ev.trans (evo_del ev.s)) (frozen_l ev.s hm) q
    · exact hQ v d m H' ev dt q) hX

/-! ### names, constants -/
theorem CE.var {i : Nat} {x : Str} {d : D} (hd : Δ[i]? = some (some d)) (hN : c.X.N[i]? = some x) (hv : Vis c.X.env.scope x) (q : Q d μ) (h1 : (x == ("__debug__" : Str)) = false := by decide) (h2 : (x == ("__classdict__" : Str)) = false := by decide) : CE c (.Name x pos) Δ μ Q Ex := by
  intro σ H ok hs QV hQ hX
  obtain ⟨v, h3, h4⟩ := ok.get i d hd
  exact ⟨_, pe_var hN hv h1 h2, v, h3, hQ v d μ H (Evo.refl hs) h4 q⟩
theorem CE.k {v : V} {d : D} (hp : PE c.X e (tC v)) (hd : ∀ μ H, Dt c.K μ H v d) (q : Q d μ) : CE c e Δ μ Q Ex := fun σ H ok hs QV hQ hX => ⟨_, hp, hQ v d μ H (Evo.refl hs) (hd μ H) q⟩
theorem CE.int {i : Int} {j} (q : Q (.int i) μ) : CE c (.Constant (.int i) j pos) Δ μ Q Ex := CE.k pe_int (fun _ _ => .int i) q
theorem CE.bl {i : Bool} {j} (q : Q (.bl i) μ) : CE c (.Constant (.bool i) j pos) Δ μ Q Ex := CE.k pe_bl (fun _ _ => .bl i) q
theorem CE.str {i : Str} {j} (q : Q (.str i) μ) : CE c (.Constant (.str i) j pos) Δ μ Q Ex := CE.k pe_str (fun _ _ => .str i) q
theorem CE.non {j} (q : Q .non μ) : CE c (.Constant .none j pos) Δ μ Q Ex := CE.k pe_non (fun _ _ => .non) q
theorem CE.glob {x : Str} {v : V} {u : Value} {d : D} (hm : c.X.mg x = some u) (r : RelV v u) (hd : ∀ μ H, Dt c.K μ H v d) (q : Q d μ) (hg : Gl c.X x) (hb : (x == ("__debug__" : Str)) = false := by decide) : CE c (.Name x pos) Δ μ Q Ex := CE.k (pe_glob hg hm r hb) hd q

/-! ### two values -/
theorem CE.bin {op : Operator} {r : R2} {P : D → D → Mu → Prop} (ho : OpR c.X (binaryOp op) r)
    (hr : ∀ x y d1 d2 m H QV, P d1 d2 m → HS c.K m H → Dt c.K m H x d1 → Dt c.K m H y d2 → WantV c m H Q QV → r x y H QV)
    (h : CE c a Δ μ (fun d1 m => CE c b Δ m (fun d2 m' => P d1 d2 m') Ex) Ex) : CE c (.BinOp a op b pos) Δ μ Q Ex := by
  intro σ H ok hs QV hQ hX
  refine ⟨_, pe_op ho pe_w pe_w, ?_⟩
  refine h σ H ok hs _ (fun x d1 m1 H1 e1 t1 q1 => ?_) hX
  refine q1 σ H1 (ok.evo e1) e1.s _ (fun y d2 m2 H2 e2 t2 q2 => ?_) (hX.evo e1)
  exact hr x y d1 d2 m2 H2 QV q2 e2.s (e2.dt t1) t2 (WantV.evo hQ (e1.trans e2))
theorem CE.cmp {op : CmpOp} {r : R2} {P : D → D → Mu → Prop} (ho : OpR c.X (compareOp op) r) (hm : behindInMarks op b = false)
    (hr : ∀ x y d1 d2 m H QV, P d1 d2 m → HS c.K m H → Dt c.K m H x d1 → Dt c.K m H y d2 → WantV c m H Q QV → r x y H QV)
    (h : CE c a Δ μ (fun d1 m => CE c b Δ m (fun d2 m' => P d1 d2 m') Ex) Ex) : CE c (.Compare a [op] [b] pos) Δ μ Q Ex := by
  intro σ H ok hs QV hQ hX
  refine ⟨_, pe_cmpR ho pe_w pe_w hm, ?_⟩
  refine h σ H ok hs _ (fun x d1 m1 H1 e1 t1 q1 => ?_) hX
  refine q1 σ H1 (ok.evo e1) e1.s _ (fun y d2 m2 H2 e2 t2 q2 => ?_) (hX.evo e1)
  exact hr x y d1 d2 m2 H2 QV q2 e2.s (e2.dt t1) t2 (WantV.evo hQ (e1.trans e2))
theorem CT.cmp {op : CmpOp} {r : R2} {P : D → D → Mu → Prop} (ho : OpR c.X (compareOp op) r) (hm : behindInMarks op b = false)
    (hr : ∀ x y d1 d2 m H QV, P d1 d2 m → HS c.K m H → Dt c.K m H x d1 → Dt c.K m H y d2 → WantV c m H (fun d m' => ∃ k, d = .bl k ∧ QB k m') QV → r x y H QV)
    (h : CE c a Δ μ (fun d1 m => CE c b Δ m (fun d2 m' => P d1 d2 m') Ex) Ex) : CT c (.Compare a [op] [b] pos) Δ μ QB Ex := by
  intro σ H ok hs QV hQ hX
  refine ⟨_, pt_cmpR ho pe_w pe_w hm, ?_⟩
  refine h σ H ok hs _ (fun x d1 m1 H1 e1 t1 q1 => ?_) hX
  refine q1 σ H1 (ok.evo e1) e1.s _ (fun y d2 m2 H2 e2 t2 q2 => ?_) (hX.evo e1)
  refine hr x y d1 d2 m2 H2 _ q2 e2.s (e2.dt t1) t2 fun v d m' H' e3 t3 ⟨k, ek, q3⟩ => ?_
  subst ek
  cases t3
  exact ⟨k, rfl, hQ k m' H' ((e1.trans e2).trans e3) q3⟩
/-- what two ints ask -/
abbrev P2I (C : Int → Int → Prop) (g : Int → Int → D) (Q : D → Mu → Prop) : D → D → Mu → Prop := fun d1 d2 m => ∃ i j, d1 = .int i ∧ d2 = .int j ∧ C i j ∧ Q (g i j) m
theorem r_int {C C' : Int → Int → Prop} {f : Int → Int → V} {g : Int → Int → D} (hc : ∀ i j, C i j → C' i j) (hg : ∀ i j m H, Dt c.K m H (f i j) (g i j)) (x y : V) (d1 d2 : D) (m : Mu) (H : Hp) (QV : VK) (p : P2I C g Q d1 d2 m) (hs : HS c.K m H)
    (t1 : Dt c.K m H x d1) (t2 : Dt c.K m H y d2) (hQ : WantV c m H Q QV) : rI C' f x y H QV := by
  obtain ⟨i, j, rfl, rfl, q1, q2⟩ := p
  cases t1; cases t2
  exact ⟨i, j, rfl, rfl, hc i j q1, hQ _ _ m H (Evo.refl hs) (hg i j m H) q2⟩
abbrev P2I0 (g : Int → Int → D) (Q : D → Mu → Prop) : D → D → Mu → Prop := fun d1 d2 m => ∃ i j, d1 = .int i ∧ d2 = .int j ∧ Q (g i j) m
theorem r_int0 {f : Int → Int → V} {g : Int → Int → D} (hg : ∀ i j m H, Dt c.K m H (f i j) (g i j)) (x y : V) (d1 d2 : D) (m : Mu) (H : Hp) (QV : VK) (p : P2I0 g Q d1 d2 m) (hs : HS c.K m H)
    (t1 : Dt c.K m H x d1) (t2 : Dt c.K m H y d2) (hQ : WantV c m H Q QV) : rI0 f x y H QV := by
  obtain ⟨i, j, rfl, rfl, q2⟩ := p
  cases t1; cases t2
  exact ⟨i, j, rfl, rfl, hQ _ _ m H (Evo.refl hs) (hg i j m H) q2⟩
theorem CE.add (h : CE c a Δ μ (fun d1 m => CE c b Δ m (fun d2 m' => P2I0 (fun i j => .int (i + j)) Q d1 d2 m') Ex) Ex) : CE c (.BinOp a .Add b pos) Δ μ Q Ex := CE.bin op_add (r_int0 fun i j _ _ => .int _) h
theorem CE.sub (h : CE c a Δ μ (fun d1 m => CE c b Δ m (fun d2 m' => P2I0 (fun i j => .int (i - j)) Q d1 d2 m') Ex) Ex) : CE c (.BinOp a .Sub b pos) Δ μ Q Ex := CE.bin op_sub (r_int0 fun i j _ _ => .int _) h
theorem CE.mul (h : CE c a Δ μ (fun d1 m => CE c b Δ m (fun d2 m' => P2I CMul (fun i j => .int (i * j)) Q d1 d2 m') Ex) Ex) : CE c (.BinOp a .Mult b pos) Δ μ Q Ex := CE.bin op_mul (r_int (fun _ _ h => h) fun i j _ _ => .int _) h
theorem CE.fdiv (h : CE c a Δ μ (fun d1 m => CE c b Δ m (fun d2 m' => P2I CDiv (fun i j => .int (i / j)) Q d1 d2 m') Ex) Ex) : CE c (.BinOp a .FloorDiv b pos) Δ μ Q Ex := CE.bin op_fdiv (r_int (fun _ _ h => h) fun i j _ _ => .int _) h
theorem CE.mod (h : CE c a Δ μ (fun d1 m => CE c b Δ m (fun d2 m' => P2I (fun _ j => 0 < j) (fun i j => .int (i % j)) Q d1 d2 m') Ex) Ex) : CE c (.BinOp a .Mod b pos) Δ μ Q Ex := CE.bin op_mod (r_int (fun _ _ h => h) fun i j _ _ => .int _) h
theorem CE.pow (h : CE c a Δ μ (fun d1 m => CE c b Δ m (fun d2 m' => P2I CPow (fun i j => .int (i ^ j.toNat)) Q d1 d2 m') Ex) Ex) : CE c (.BinOp a .Pow b pos) Δ μ Q Ex := CE.bin op_pow (r_int (fun _ _ h => h) fun i j _ _ => .int _) h
theorem CE.shl (h : CE c a Δ μ (fun d1 m => CE c b Δ m (fun d2 m' => P2I CPow (fun i j => .int (i * 2 ^ j.toNat)) Q d1 d2 m') Ex) Ex) : CE c (.BinOp a .LShift b pos) Δ μ Q Ex := CE.bin op_shl (r_int (fun _ _ h => h) fun i j _ _ => .int _) h
theorem CE.shr (h : CE c a Δ μ (fun d1 m => CE c b Δ m (fun d2 m' => P2I (fun _ j => 0 ≤ j) (fun i j => .int (i / 2 ^ j.toNat)) Q d1 d2 m') Ex) Ex) : CE c (.BinOp a .RShift b pos) Δ μ Q Ex := CE.bin op_shr (r_int (fun _ _ h => h) fun i j _ _ => .int _) h
theorem CE.band (h : CE c a Δ μ (fun d1 m => CE c b Δ m (fun d2 m' => P2I0 (fun i j => .int (Builtin.bitAnd i j)) Q d1 d2 m') Ex) Ex) : CE c (.BinOp a .BitAnd b pos) Δ μ Q Ex := CE.bin op_and (r_int0 fun i j _ _ => .int _) h
theorem CE.bor (h : CE c a Δ μ (fun d1 m => CE c b Δ m (fun d2 m' => P2I0 (fun i j => .int (Builtin.bitOr i j)) Q d1 d2 m') Ex) Ex) : CE c (.BinOp a .BitOr b pos) Δ μ Q Ex := CE.bin op_or (r_int0 fun i j _ _ => .int _) h
theorem CE.bxor (h : CE c a Δ μ (fun d1 m => CE c b Δ m (fun d2 m' => P2I0 (fun i j => .int (Builtin.bitXor i j)) Q d1 d2 m') Ex) Ex) : CE c (.BinOp a .BitXor b pos) Δ μ Q Ex := CE.bin op_xor (r_int0 fun i j _ _ => .int _) h
/-! order of ints -/
theorem CE.lt (h : CE c a Δ μ (fun d1 m => CE c b Δ m (fun d2 m' => P2I0 (fun i j => .bl (decide (i < j))) Q d1 d2 m') Ex) Ex) : CE c (.Compare a [.Lt] [b] pos) Δ μ Q Ex := CE.cmp op_lt (nomark _) (r_int0 fun i j _ _ => .bl _) h
theorem CE.le (h : CE c a Δ μ (fun d1 m => CE c b Δ m (fun d2 m' => P2I0 (fun i j => .bl (decide (i ≤ j))) Q d1 d2 m') Ex) Ex) : CE c (.Compare a [.LtE] [b] pos) Δ μ Q Ex := CE.cmp op_le (nomark _) (r_int0 fun i j _ _ => .bl _) h
theorem CE.gt (h : CE c a Δ μ (fun d1 m => CE c b Δ m (fun d2 m' => P2I0 (fun i j => .bl (decide (j < i))) Q d1 d2 m') Ex) Ex) : CE c (.Compare a [.Gt] [b] pos) Δ μ Q Ex := CE.cmp op_gt (nomark _) (r_int0 fun i j _ _ => .bl _) h
theorem CE.ge (h : CE c a Δ μ (fun d1 m => CE c b Δ m (fun d2 m' => P2I0 (fun i j => .bl (decide (j ≤ i))) Q d1 d2 m') Ex) Ex) : CE c (.Compare a [.GtE] [b] pos) Δ μ Q Ex := CE.cmp op_ge (nomark _) (r_int0 fun i j _ _ => .bl _) h
abbrev P2B (g : Int → Int → Bool) (QB : Bool → Mu → Prop) : D → D → Mu → Prop := fun d1 d2 m => ∃ i j, d1 = .int i ∧ d2 = .int j ∧ QB (g i j) m
theorem r_intB {f : Int → Int → V} {g : Int → Int → Bool} (hf : ∀ i j, f i j = .bl (g i j)) (x y : V) (d1 d2 : D) (m : Mu) (H : Hp) (QV : VK) (p : P2B g QB d1 d2 m) (hs : HS c.K m H)
    (t1 : Dt c.K m H x d1) (t2 : Dt c.K m H y d2) (hQ : WantV c m H (fun d m' => ∃ k, d = .bl k ∧ QB k m') QV) : rI0 f x y H QV := by
  obtain ⟨i, j, rfl, rfl, q2⟩ := p
  cases t1; cases t2
  refine ⟨i, j, rfl, rfl, ?_⟩
  rw [hf]
  exact hQ _ _ m H (Evo.refl hs) (.bl _) ⟨_, rfl, q2⟩
theorem CT.lt (h : CE c a Δ μ (fun d1 m => CE c b Δ m (fun d2 m' => P2B (fun i j => decide (i < j)) QB d1 d2 m') Ex) Ex) : CT c (.Compare a [.Lt] [b] pos) Δ μ QB Ex := CT.cmp op_lt (nomark _) (r_intB fun i j => rfl) h
theorem CT.le (h : CE c a Δ μ (fun d1 m => CE c b Δ m (fun d2 m' => P2B (fun i j => decide (i ≤ j)) QB d1 d2 m') Ex) Ex) : CT c (.Compare a [.LtE] [b] pos) Δ μ QB Ex := CT.cmp op_le (nomark _) (r_intB fun i j => rfl) h
theorem CT.gt (h : CE c a Δ μ (fun d1 m => CE c b Δ m (fun d2 m' => P2B (fun i j => decide (j < i)) QB d1 d2 m') Ex) Ex) : CT c (.Compare a [.Gt] [b] pos) Δ μ QB Ex := CT.cmp op_gt (nomark _) (r_intB fun i j => rfl) h
theorem CT.ge (h : CE c a Δ μ (fun d1 m => CE c b Δ m (fun d2 m' => P2B (fun i j => decide (j ≤ i)) QB d1 d2 m') Ex) Ex) : CT c (.Compare a [.GtE] [b] pos) Δ μ QB Ex := CT.cmp op_ge (nomark _) (r_intB fun i j => rfl) h

/-! ### == -/
/-- two scalars of one kind; all other data -/
inductive EqD : D → D → Bool → Prop
  | int (i j : Int) : EqD (.int i) (.int j) (decide (i = j))
  | str (i j : Str) : EqD (.str i) (.str j) (decide (i = j))
  | bl (i j : Bool) : EqD (.bl i) (.bl j) (decide (i = j))
  | py (d e : D) : d.isPy = true → e.isPy = true → d.py.depth ≤ 64 → e.py.depth ≤ 64 → EqD d e (PyData.eqv d.py e.py)
def rEqA (K : PySem.W.Frag) : R2 := fun x y H Q => rEq x y H Q ∨ rEqD K x y H Q
def rNeA (K : PySem.W.Frag) : R2 := fun x y H Q => rNe x y H Q ∨ rNeD K x y H Q
theorem op_eqA (hu : c.X.A.units + 64 < cLine) : OpR c.X (compareOp .Eq) (rEqA c.K) := op_eq.or (op_eqD hu)
theorem op_neA (hu : c.X.A.units + 64 < cLine) : OpR c.X (compareOp .NotEq) (rNeA c.K) := op_ne.or (op_neD hu)
theorem dec_i {i j : Int} : decide (V.int i = V.int j) = decide (i = j) := by
  by_cases h : i = j
  · subst h; simp
  · rw [decide_eq_false h, decide_eq_false fun z => h (V.int.inj z)]
theorem dec_s {i j : Str} : decide (V.str i = V.str j) = decide (i = j) := by
  by_cases h : i = j
  · subst h; simp
  · rw [decide_eq_false h, decide_eq_false fun z => h (V.str.inj z)]
theorem dec_b {i j : Bool} : decide (V.bl i = V.bl j) = decide (i = j) := by
  by_cases h : i = j
  · subst h; simp
  · rw [decide_eq_false h, decide_eq_false fun z => h (V.bl.inj z)]
theorem shaped_of {d : D} (h : d.isPy = true) (h2 : d.py.depth ≤ 64) : SeqAt.shaped d.py = true := by
  unfold SeqAt.shaped
  rw [D.canLay d h, decide_eq_true h2]; rfl
theorem r_eq {x y : V} {d1 d2 : D} {m : Mu} {H : Hp} {QV : VK} {k : Bool} (p : EqD d1 d2 k) (t1 : Dt c.K m H x d1) (t2 : Dt c.K m H y d2) (q : QV (.bl k) H) : rEqA c.K x y H QV := by
  cases p with
  | int i j => cases t1; cases t2; exact .inl ⟨rfl, by rw [dec_i]; exact q⟩
  | str i j => cases t1; cases t2; exact .inl ⟨rfl, by rw [dec_s]; exact q⟩
  | bl i j => cases t1; cases t2; exact .inl ⟨rfl, by rw [dec_b]; exact q⟩
  | py d e h1 h2 h3 h4 => exact .inr ⟨_, _, t1.dp h1, t2.dp h2, shaped_of h1 h3, shaped_of h2 h4, q⟩
theorem r_ne {x y : V} {d1 d2 : D} {m : Mu} {H : Hp} {QV : VK} {k : Bool} (p : EqD d1 d2 k) (t1 : Dt c.K m H x d1) (t2 : Dt c.K m H y d2) (q : QV (.bl (!k)) H) : rNeA c.K x y H QV := by
  cases p with
  | int i j => cases t1; cases t2; exact .inl ⟨rfl, by rw [dec_i]; exact q⟩
  | str i j => cases t1; cases t2; exact .inl ⟨rfl, by rw [dec_s]; exact q⟩
  | bl i j => cases t1; cases t2; exact .inl ⟨rfl, by rw [dec_b]; exact q⟩
  | py d e h1 h2 h3 h4 => exact .inr ⟨_, _, t1.dp h1, t2.dp h2, shaped_of h1 h3, shaped_of h2 h4, q⟩
theorem CE.eq (hu : c.X.A.units + 64 < cLine) (h : CE c a Δ μ (fun d1 m => CE c b Δ m (fun d2 m' => ∃ k, EqD d1 d2 k ∧ Q (.bl k) m') Ex) Ex) : CE c (.Compare a [.Eq] [b] pos) Δ μ Q Ex :=
  CE.cmp (op_eqA hu) (nomark _) (fun x y d1 d2 m H QV ⟨k, p, q⟩ hs t1 t2 hQ => r_eq p t1 t2 (hQ _ _ m H (Evo.refl hs) (.bl _) q)) h
theorem CE.ne (hu : c.X.A.units + 64 < cLine) (h : CE c a Δ μ (fun d1 m => CE c b Δ m (fun d2 m' => ∃ k, EqD d1 d2 k ∧ Q (.bl (!k)) m') Ex) Ex) : CE c (.Compare a [.NotEq] [b] pos) Δ μ Q Ex :=
  CE.cmp (op_neA hu) (nomark _) (fun x y d1 d2 m H QV ⟨k, p, q⟩ hs t1 t2 hQ => r_ne p t1 t2 (hQ _ _ m H (Evo.refl hs) (.bl _) q)) h
theorem CT.eq (hu : c.X.A.units + 64 < cLine) (h : CE c a Δ μ (fun d1 m => CE c b Δ m (fun d2 m' => ∃ k, EqD d1 d2 k ∧ QB k m') Ex) Ex) : CT c (.Compare a [.Eq] [b] pos) Δ μ QB Ex :=
  CT.cmp (op_eqA hu) (nomark _) (fun x y d1 d2 m H QV ⟨k, p, q⟩ hs t1 t2 hQ => r_eq p t1 t2 (hQ _ _ m H (Evo.refl hs) (.bl _) ⟨_, rfl, q⟩)) h
theorem CT.ne (hu : c.X.A.units + 64 < cLine) (h : CE c a Δ μ (fun d1 m => CE c b Δ m (fun d2 m' => ∃ k, EqD d1 d2 k ∧ QB (!k) m') Ex) Ex) : CT c (.Compare a [.NotEq] [b] pos) Δ μ QB Ex :=
  CT.cmp (op_neA hu) (nomark _) (fun x y d1 d2 m H QV ⟨k, p, q⟩ hs t1 t2 hQ => r_ne p t1 t2 (hQ _ _ m H (Evo.refl hs) (.bl _) ⟨_, rfl, q⟩)) h
/-! ### is None -/
def D.isNon : D → Bool
  | .non => true | _ => false
theorem dt_non {x : V} {d : D} {m : Mu} {H : Hp} (t : Dt c.K m H x d) : decide (x = V.non) = d.isNon := by
  cases t <;> first | rfl | exact decide_eq_false (fun z => nomatch z)
theorem CE.isN (h : CE c a Δ μ (fun d1 m => Q (.bl d1.isNon) m) Ex) {j p} : CE c (.Compare a [.Is] [.Constant .none j p] pos) Δ μ Q Ex := by
  intro σ H ok hs QV hQ hX
  refine ⟨_, pe_cmp (pc_isN pe_w), h σ H ok hs _ (fun x d1 m1 H1 e1 t1 q1 => ?_) hX⟩
  show QV (.bl (decide (x = .non))) H1
  rw [dt_non t1]; exact hQ _ _ _ _ e1 (.bl _) q1
theorem CT.isN (h : CE c a Δ μ (fun d1 m => QB d1.isNon m) Ex) {j p} : CT c (.Compare a [.Is] [.Constant .none j p] pos) Δ μ QB Ex := by
  intro σ H ok hs QV hQ hX
  refine ⟨_, pt_cmp (pc_isN pe_w), h σ H ok hs _ (fun x d1 m1 H1 e1 t1 q1 => ?_) hX⟩
  exact ⟨d1.isNon, congrArg V.bl (dt_non t1), hQ _ _ _ e1 q1⟩
theorem CT.notN (h : CE c a Δ μ (fun d1 m => QB (!d1.isNon) m) Ex) {j p} : CT c (.Compare a [.IsNot] [.Constant .none j p] pos) Δ μ QB Ex := by
  intro σ H ok hs QV hQ hX
  refine ⟨_, pt_cmp (pc_notN pe_w), h σ H ok hs _ (fun x d1 m1 H1 e1 t1 q1 => ?_) hX⟩
  exact ⟨!d1.isNon, by rw [dt_non t1], hQ _ _ _ e1 q1⟩
theorem CE.notN (h : CE c a Δ μ (fun d1 m => Q (.bl (!d1.isNon)) m) Ex) {j p} : CE c (.Compare a [.IsNot] [.Constant .none j p] pos) Δ μ Q Ex := by
  intro σ H ok hs QV hQ hX
  refine ⟨_, pe_cmp (pc_notN pe_w), h σ H ok hs _ (fun x d1 m1 H1 e1 t1 q1 => ?_) hX⟩
  show QV (.bl (!decide (x = .non))) H1
  rw [dt_non t1]; exact hQ _ _ _ _ e1 (.bl _) q1

/-! ### chains of two comparisons of ints -/
theorem CE.chain {op op' : CmpOp} {f g : Int → Int → Bool} {d : Expr} (ho : OpR c.X (compareOp op) (rI0 fun i j => .bl (f i j))) (ho' : OpR c.X (compareOp op') (rI0 fun i j => .bl (g i j)))
    (hp : ∀ ta tb tc, PE c.X a ta → PE c.X b tb → PE c.X d tc → PE c.X (.Compare a [op, op'] [b, d] pos) (tChain (rI0 fun i j => .bl (f i j)) (rI0 fun i j => .bl (g i j)) ta tb tc))
    (h : CE c a Δ μ (fun d1 m => CE c b Δ m (fun d2 m' => ∃ i j, d1 = .int i ∧ d2 = .int j ∧ if f i j = true then CE c d Δ m' (fun d3 m2 => ∃ k, d3 = .int k ∧ Q (.bl (g j k)) m2) Ex else Q (.bl false) m') Ex) Ex) :
    CE c (.Compare a [op, op'] [b, d] pos) Δ μ Q Ex := by
  intro σ H ok hs QV hQ hX
  refine ⟨_, hp _ _ _ pe_w pe_w pe_w, ?_⟩
  refine h σ H ok hs _ (fun x d1 m1 H1 e1 t1 q1 => ?_) hX
  refine q1 σ H1 (ok.evo e1) e1.s _ (fun y d2 m2 H2 e2 t2 ⟨i, j, z1, z2, q2⟩ => ?_) (hX.evo e1)
  subst z1; subst z2
  cases t1; cases t2
  refine ⟨i, j, rfl, rfl, f i j, rfl, ?_⟩
  cases hf : f i j with
  | false =>
    rw [hf] at q2
    rw [if_neg (by decide)] at q2
    show (if false = true then _ else _)
    rw [if_neg (by decide)]
    exact hQ _ _ _ _ (e1.trans e2) (.bl _) q2
  | true =>
    rw [hf, if_pos rfl] at q2
    show (if true = true then _ else _)
    rw [if_pos rfl]
    refine q2 σ H2 (ok.evo (e1.trans e2)) e2.s _ (fun z d3 m3 H3 e3 t3 ⟨k, z3, q3⟩ => ?_) (hX.evo (e1.trans e2))
    subst z3
    cases t3
    exact ⟨j, k, rfl, rfl, hQ _ _ _ _ ((e1.trans e2).trans e3) (.bl _) q3⟩
theorem CE.tru_of (h : CE c e Δ μ (fun d m => ∃ k, d = .bl k ∧ QB k m) Ex) (he : ∀ whole, isTrue e c.X.env whole = (do let v ← whole; standAt e.pos; holding [v] (truthy v)) := by intro _; rfl) : CT c e Δ μ QB Ex := by
  intro σ H ok hs QV hQ hX
  refine ⟨_, pt_val pe_w he, h σ H ok hs _ (fun x d1 m1 H1 e1 t1 ⟨k, z, q1⟩ => ?_) hX⟩
  subst z; cases t1
  exact ⟨k, rfl, hQ _ _ _ e1 q1⟩

/-! ### and, or, not, if -/
theorem CE.and {rest : List Expr} (h : CE c a Δ μ (fun d m => ∃ k, d = .bl k ∧ if k = true then CE c (.BoolOp .And (b :: rest) pos) Δ m Q Ex else Q (.bl false) m) Ex) : CE c (.BoolOp .And (a :: b :: rest) pos) Δ μ Q Ex := by
  intro σ H ok hs QV hQ hX
  refine ⟨_, pe_and pe_w pe_w, h σ H ok hs _ (fun x d1 m1 H1 e1 t1 ⟨k, z, q1⟩ => ?_) hX⟩
  subst z; cases t1
  refine ⟨k, rfl, ?_⟩
  cases k with
  | true => rw [if_pos rfl] at q1 ⊢; exact q1 σ H1 (ok.evo e1) e1.s _ (WantV.evo hQ e1) (hX.evo e1)
  | false => rw [if_neg (by decide)] at q1 ⊢; exact hQ _ _ _ _ e1 (.bl _) q1
theorem CE.or {rest : List Expr} (h : CE c a Δ μ (fun d m => ∃ k, d = .bl k ∧ if k = true then Q (.bl true) m else CE c (.BoolOp .Or (b :: rest) pos) Δ m Q Ex) Ex) : CE c (.BoolOp .Or (a :: b :: rest) pos) Δ μ Q Ex := by
  intro σ H ok hs QV hQ hX
  refine ⟨_, pe_or pe_w pe_w, h σ H ok hs _ (fun x d1 m1 H1 e1 t1 ⟨k, z, q1⟩ => ?_) hX⟩
  subst z; cases t1
  refine ⟨k, rfl, ?_⟩
  cases k with
  | false => rw [if_neg (by decide)] at q1 ⊢; exact q1 σ H1 (ok.evo e1) e1.s _ (WantV.evo hQ e1) (hX.evo e1)
  | true => rw [if_pos rfl] at q1 ⊢; exact hQ _ _ _ _ e1 (.bl _) q1
theorem CE.one {op} (h : CE c a Δ μ Q Ex) : CE c (.BoolOp op [a] pos) Δ μ Q Ex := fun σ H ok hs QV hQ hX => ⟨_, pe_one pe_w, h σ H ok hs QV hQ hX⟩
theorem CE.not (h : CE c a Δ μ (fun d m => ∃ k, d = .bl k ∧ Q (.bl (!k)) m) Ex) : CE c (.UnaryOp .Not a pos) Δ μ Q Ex := by
  intro σ H ok hs QV hQ hX
  refine ⟨_, pe_not pe_w, h σ H ok hs _ (fun x d1 m1 H1 e1 t1 ⟨k, z, q1⟩ => ?_) hX⟩
  subst z; cases t1
  exact ⟨k, rfl, hQ _ _ _ _ e1 (.bl _) q1⟩
theorem CE.ifE {t : Expr} (h : CT c t Δ μ (fun k m => if k = true then CE c a Δ m Q Ex else CE c b Δ m Q Ex) Ex) : CE c (.IfExp t a b pos) Δ μ Q Ex := by
  intro σ H ok hs QV hQ hX
  refine ⟨_, pe_ifExp pt_w pe_w pe_w, h σ H ok hs _ (fun k m1 H1 e1 q1 => ?_) hX⟩
  cases k with
  | true => rw [if_pos rfl] at q1 ⊢; exact q1 σ H1 (ok.evo e1) e1.s _ (WantV.evo hQ e1) (hX.evo e1)
  | false => rw [if_neg (by decide)] at q1 ⊢; exact q1 σ H1 (ok.evo e1) e1.s _ (WantV.evo hQ e1) (hX.evo e1)
/-- a chain of and, or as a test: whatever its whole is -/
def CW (c : Ctx) (e : Expr) (Δ : Sl) (μ : Mu) (Q : Bool → Mu → Prop) (Ex : XD) : Prop :=
  ∀ σ H, OkS c.K μ H σ Δ → HS c.K μ H → ∀ QV : Bool → Hp → Prop, (∀ b μ' H', Evo c.K μ H μ' H' → Q b μ' → QV b H') → WantX c Δ σ μ H Ex → ∃ t, PW c.X e t ∧ t σ H QV
def wW (X : Cx) (e : Expr) : TT := fun σ H Q => ∃ t, PW X e t ∧ t σ H Q
theorem pw_w {X : Cx} {e : Expr} : PW X e (wW X e) := ⟨fun wh pins s σ H Q I ⟨_, h, q⟩ => h.run wh pins s σ H Q I q⟩
theorem CT.w (h : CW c e Δ μ QB Ex) : CT c e Δ μ QB Ex := fun σ H ok hs QV hQ hX => let ⟨t, p, q⟩ := h σ H ok hs QV hQ hX; ⟨t, p.pt, q⟩
theorem CW.and1 (h : CT c a Δ μ QB Ex) : CW c (.BoolOp .And [a] pos) Δ μ QB Ex := fun σ H ok hs QV hQ hX => ⟨_, pw_and1 pt_w, h σ H ok hs QV hQ hX⟩
theorem CW.or1 (h : CT c a Δ μ QB Ex) : CW c (.BoolOp .Or [a] pos) Δ μ QB Ex := fun σ H ok hs QV hQ hX => ⟨_, pw_or1 pt_w, h σ H ok hs QV hQ hX⟩
theorem CW.and {rest : List Expr} (h : CT c a Δ μ (fun k m => if k = true then CW c (.BoolOp .And (b :: rest) pos) Δ m QB Ex else QB false m) Ex) : CW c (.BoolOp .And (a :: b :: rest) pos) Δ μ QB Ex := by
  intro σ H ok hs QV hQ hX
  refine ⟨_, pw_and pt_w pw_w, h σ H ok hs _ (fun k m1 H1 e1 q1 => ?_) hX⟩
  cases k with
  | true => rw [if_pos rfl] at q1 ⊢; exact q1 σ H1 (ok.evo e1) e1.s _ (fun b m H' e q => hQ b m H' (e1.trans e) q) (hX.evo e1)
  | false => rw [if_neg (by decide)] at q1 ⊢; exact hQ _ _ _ e1 q1
theorem CW.or {rest : List Expr} (h : CT c a Δ μ (fun k m => if k = true then QB true m else CW c (.BoolOp .Or (b :: rest) pos) Δ m QB Ex) Ex) : CW c (.BoolOp .Or (a :: b :: rest) pos) Δ μ QB Ex := by
  intro σ H ok hs QV hQ hX
  refine ⟨_, pw_or pt_w pw_w, h σ H ok hs _ (fun k m1 H1 e1 q1 => ?_) hX⟩
  cases k with
  | false => rw [if_neg (by decide)] at q1 ⊢; exact q1 σ H1 (ok.evo e1) e1.s _ (fun b m H' e q => hQ b m H' (e1.trans e) q) (hX.evo e1)
  | true => rw [if_pos rfl] at q1 ⊢; exact hQ _ _ _ e1 q1
theorem CT.not (h : CT c a Δ μ (fun k m => QB (!k) m) Ex) : CT c (.UnaryOp .Not a pos) Δ μ QB Ex := fun σ H ok hs QV hQ hX => ⟨_, pt_not pt_w, h σ H ok hs _ (fun k m H' e q => hQ _ _ _ e q) hX⟩

/-! ### arguments, displays -/
theorem CA.nil (q : QA [] μ) : CA c [] Δ μ QA Ex := fun σ H ok hs QV hQ hX => ⟨_, pa_nil, hQ _ _ _ _ (Evo.refl hs) .nil q⟩
theorem CA.cons (h : CE c a Δ μ (fun d m => CA c es Δ m (fun ds m' => QA (d :: ds) m') Ex) Ex) (hst : starEach (a :: es) c.X.env = (false, eval a c.X.env) :: starEach es c.X.env := by rfl) : CA c (a :: es) Δ μ QA Ex := by
  intro σ H ok hs QV hQ hX
  refine ⟨_, pa_cons pe_w pa_w hst, h σ H ok hs _ (fun x d1 m1 H1 e1 t1 q1 => ?_) hX⟩
  refine q1 σ H1 (ok.evo e1) e1.s _ (fun xs ds m2 H2 e2 t2 q2 => ?_) (hX.evo e1)
  exact hQ _ _ _ _ (e1.trans e2) (.cons (e2.dt t1) t2) q2
theorem CA.star {p : Pos} (h : CE c a Δ μ (fun d m => ∃ xs, (d = .tup xs ∨ d = .lst xs ∨ ∃ p, d = .loc p ∧ m p = some (.l xs)) ∧ CA c es Δ m (fun ds m' => QA (xs ++ ds) m') Ex) Ex)
    (hst : starEach (.Starred a p :: es) c.X.env = (true, eval a c.X.env) :: starEach es c.X.env := by rfl) : CA c (.Starred a p :: es) Δ μ QA Ex := by
  intro σ H ok hs QV hQ hX
  refine ⟨_, StX.pa_star pe_w pa_w hst, h σ H ok hs _ (fun x d1 m1 H1 e1 t1 q1 => ?_) hX⟩
  obtain ⟨xs, hd, q1⟩ := q1
  have fin : ∀ {A : Addr} {us : List V}, Dts c.K m1 H1 us xs → wA c.X es σ H1 (fun vs H2 => QV (us ++ vs) H2) := fun {A us} tt =>
    q1 σ H1 (ok.evo e1) e1.s _ (fun ys ds m2 H2 e2 t2 q2 => hQ _ _ _ _ (e1.trans e2) ((e2.dts tt).append t2) q2) (hX.evo e1)
  rcases hd with rfl | rfl | ⟨p, rfl, hm⟩
  · cases t1 with
    | tup h1 h2 => exact ⟨_, _, rfl, .inl h1, fin (A := 0) h2⟩
  · cases t1 with
    | lst h1 h2 => exact ⟨_, _, rfl, .inr h1.sq, fin (A := 0) h2⟩
  · cases t1
    obtain ⟨us, h1, h2⟩ := e1.s p _ hm
    exact ⟨_, _, rfl, .inr (.inl (.inl h1)), fin (A := 0) h2⟩
theorem CE.tup {k} (h : CA c es Δ μ (fun ds m => ds.length ≤ 1000 ∧ Q (.tup ds) m) Ex) : CE c (.Tuple es k pos) Δ μ Q Ex := by
  intro σ H ok hs QV hQ hX
  refine ⟨_, pe_tup pa_w, h σ H ok hs _ (fun xs ds m1 H1 e1 t1 q1 => ?_) hX⟩
  refine ⟨by rw [t1.length]; exact Nat.le_of_lt (small1000 q1.1), fun p hp => ?_⟩
  have s1 := same_new (o := .tup xs) hp
  exact hQ _ _ _ _ (e1.trans (evo_same e1.s s1)) (.tup (SqT.of upd_same) (t1.keep (keeps_same s1))) q1.2
theorem CE.lst (h : CA c es Δ μ (fun ds m => ds.length ≤ 1000 ∧ Q (.lst ds) m) Ex) : CE c (.List es pos) Δ μ Q Ex := by
  intro σ H ok hs QV hQ hX
  refine ⟨_, pe_lst pa_w, h σ H ok hs _ (fun xs ds m1 H1 e1 t1 q1 => ?_) hX⟩
  refine ⟨by rw [t1.length]; exact Nat.le_of_lt (small1000 q1.1), fun p hp => ?_⟩
  have s1 := same_new (o := .lst xs) hp
  exact hQ _ _ _ _ (e1.trans (evo_same e1.s s1)) (.lst ⟨upd_same, e1.s.none hp⟩ (t1.keep (keeps_same s1))) q1.2
/-- .. that will change -/
theorem CE.newl (h : CA c es Δ μ (fun ds m => ds.length ≤ 1000 ∧ ∀ p, m p = none → Q (.loc p) (m.set p (.l ds))) Ex) : CE c (.List es pos) Δ μ Q Ex := by
  intro σ H ok hs QV hQ hX
  refine ⟨_, pe_lst pa_w, h σ H ok hs _ (fun xs ds m1 H1 e1 t1 q1 => ?_) hX⟩
  refine ⟨by rw [t1.length]; exact Nat.le_of_lt (small1000 q1.1), fun p hp => ?_⟩
  have s1 := same_new (o := .lst xs) hp
  exact hQ _ _ _ _ (e1.trans (evo_new (m := .l ds) e1.s s1 hp ⟨xs, upd_same, t1.keep (keeps_new s1 hp)⟩)) (.loc p) (q1.2 p (e1.s.none hp))
end
end AM

set_option autoImplicit false
set_option maxRecDepth 100000
set_option maxHeartbeats 1000000
namespace AM
open PySem L2 PySem.Spec PyProof.Rows
section
variable {c : Ctx} {e a b : Expr} {es : List Expr} {Δ : Sl} {μ : Mu} {Q Q' : D → Mu → Prop} {QB QB' : Bool → Mu → Prop} {QA QA' : List D → Mu → Prop} {Ex Ex' : XD} {pos : Pos} {E E' : DE} {st : Stmt} {sts : List Stmt}

/-! ### blocks -/
theorem CSs.nil (q : E.nx Δ μ) : CSs c [] Δ μ E := fun σ H ok hs Ev S => ⟨_, pss_nil, S.nx _ _ _ _ (Evo.refl hs) ok q⟩
theorem CSs.cons (h : CS c st Δ μ { E with nx := fun Δ' m => CSs c sts Δ' m E }) : CSs c (st :: sts) Δ μ E := by
  intro σ H ok hs Ev S
  refine ⟨_, pss_cons ps_w pss_w, ?_⟩
  refine h σ H ok hs { Ev with nx := wSs c.X sts Ev } ⟨fun σ' Δ' m H' e o q => q σ' H' o e.s Ev (S.evo e), S.rt, S.bk, S.ct, S.ex⟩
theorem CSs.one (h : CS c st Δ μ E) : CSs c [st] Δ μ E := by
  intro σ H ok hs Ev S
  exact ⟨_, pss_one ps_w, h σ H ok hs Ev S⟩
theorem CSs.imp (h : CSs c sts Δ μ E) (hn : ∀ Δ m, E.nx Δ m → E'.nx Δ m) (hr : ∀ d m, E.rt d m → E'.rt d m) (hb : ∀ Δ m, E.bk Δ m → E'.bk Δ m) (hc : ∀ Δ m, E.ct Δ m → E'.ct Δ m) (hx : ∀ C o Δ m, E.ex C o Δ m → E'.ex C o Δ m) : CSs c sts Δ μ E' :=
  fun σ H ok hs Ev S => h σ H ok hs Ev ⟨fun σ' Δ' m H' e o q => S.nx σ' Δ' m H' e o (hn _ _ q), fun v d m H' e t q => S.rt v d m H' e t (hr _ _ q), fun σ' Δ' m H' e o q => S.bk σ' Δ' m H' e o (hb _ _ q), fun σ' Δ' m H' e o q => S.ct σ' Δ' m H' e o (hc _ _ q),
    fun x y C o σ' Δ' m H' e k z q => S.ex x y C o σ' Δ' m H' e k z (hx _ _ _ _ q)⟩
theorem CS.pass (q : E.nx Δ μ) : CS c (.Pass pos) Δ μ E := fun σ H ok hs Ev S => ⟨_, ps_pass, S.nx _ _ _ _ (Evo.refl hs) ok q⟩
theorem CS.brk (q : E.bk Δ μ) : CS c (.Break pos) Δ μ E := fun σ H ok hs Ev S => ⟨_, ps_break, S.bk _ _ _ _ (Evo.refl hs) ok q⟩
theorem CS.cont (q : E.ct Δ μ) : CS c (.Continue pos) Δ μ E := fun σ H ok hs Ev S => ⟨_, ps_continue, S.ct _ _ _ _ (Evo.refl hs) ok q⟩
theorem CS.ret (h : CE c e Δ μ E.rt E.ex) : CS c (.Return (some e) pos) Δ μ E := fun σ H ok hs Ev S => ⟨_, ps_ret pe_w, h σ H ok hs _ S.rt (S.want ok)⟩
theorem CS.retN (q : E.rt .non μ) : CS c (.Return none pos) Δ μ E := fun σ H ok hs Ev S => ⟨_, ps_retN, S.rt _ _ _ _ (Evo.refl hs) .non q⟩
theorem CS.ite {s1 s2 : List Stmt} (h : CT c e Δ μ (fun k m => if k = true then CSs c s1 Δ m E else CSs c s2 Δ m E) E.ex) : CS c (.If e s1 s2 pos) Δ μ E := by
  intro σ H ok hs Ev S
  refine ⟨_, ps_if pt_w pss_w pss_w, h σ H ok hs _ (fun k m H' ev q => ?_) (S.want ok)⟩
  cases k with
  | true => rw [if_pos rfl] at q ⊢; exact q σ H' (ok.evo ev) ev.s Ev (S.evo ev)
  | false => rw [if_neg (by decide)] at q ⊢; exact q σ H' (ok.evo ev) ev.s Ev (S.evo ev)
theorem CS.expr (h : CE c e Δ μ (fun _ m => E.nx Δ m) E.ex) (hsw : swapsWith e none pos.line c.X.env = pure false := by rfl) : CS c (.Expr e pos) Δ μ E := by
  intro σ H ok hs Ev S
  exact ⟨_, ps_expr pe_w hsw, h σ H ok hs _ (fun v d m H' ev dt q => S.nx _ _ _ _ ev (ok.evo ev) q) (S.want ok)⟩
theorem CS.set {i : Nat} {x : Str} {p : Pos} (hi : c.X.N[i]? = some x) (hx : Loc c.X.env.scope x) (h : CE c e Δ μ (fun d m => E.nx (Δ.set i (some d)) m) E.ex) (hN : c.X.N.Nodup)
    (hf : c.X.fn x = true ∨ c.X.env.scope.names.lookup x = some .local) (hsw : swapsWith e (some (.Name x p)) pos.line c.X.env = pure false := by rfl) : CS c (.Assign [.Name x p] e pos) Δ μ E := by
  intro σ H ok hs Ev S
  exact ⟨_, ps_set hN hi hx pe_w hsw hf, h σ H ok hs _ (fun v d m H' ev dt q => S.nx _ _ _ _ ev ((ok.evo ev).set i dt) q) (S.want ok)⟩

/-! ### targets -/
abbrev TGD := D → Sl → Option Sl
structure CG (c : Ctx) (tg : Expr) (g : TGD) : Prop where
  ex : ∃ t, PG c.X tg t ∧ ∀ v d σ H Δ Δ' μ (Q : L2.St → Hp → Prop), OkS c.K μ H σ Δ → Dt c.K μ H v d → g d Δ = some Δ' → (∀ σ', OkS c.K μ H σ' Δ' → Q σ' H) → t v σ H Q
def tgN (i : Nat) : TGD := fun d Δ => some (Δ.set i (some d))
def tgP (i j : Nat) : TGD := fun d Δ => match d with
  | .tup [x, y] => some ((Δ.set i (some x)).set j (some y))
  | _ => none
theorem CG.name {i : Nat} {x : Str} {p : Pos} (hi : c.X.N[i]? = some x) (hx : Loc c.X.env.scope x) (hN : c.X.N.Nodup) (hf : c.X.fn x = true ∨ c.X.env.scope.names.lookup x = some .local) : CG c (.Name x p) (tgN i) :=
  ⟨_, pg_name hN hi hx hf, fun v d σ H Δ Δ' μ Q ok dt e h => by
    cases e
    exact h _ (ok.set i dt)⟩
theorem CG.pair {i j : Nat} {x y : Str} {p q r : Pos} {k} (hc : c.X.calm = true) (hi : c.X.N[i]? = some x) (hx : Loc c.X.env.scope x) (hj : c.X.N[j]? = some y) (hy : Loc c.X.env.scope y) (hN : c.X.N.Nodup)
    (hf : c.X.fn x = true ∨ c.X.env.scope.names.lookup x = some .local) (hf' : c.X.fn y = true ∨ c.X.env.scope.names.lookup y = some .local) : CG c (.Tuple [.Name x p, .Name y q] k r) (tgP i j) := by
  refine ⟨_, pg_tup hc (pgs_cons (pg_name hN hi hx hf) (pgs_cons (pg_name hN hj hy hf') pgs_nil)), fun v d σ H Δ Δ' μ Q ok dt e h => ?_⟩
  unfold tgP at e
  split at e
  · rename_i x1 y1
    cases e
    cases dt with
    | tup h1 h2 =>
      cases h2 with
      | cons a1 a2 =>
        cases a2 with
        | cons b1 b2 =>
          cases b2
          exact ⟨_, _, rfl, h1, rfl, _, _, rfl, _, _, rfl, rfl, h _ ((ok.set i a1).set j b1)⟩
  · cases e
/-- target = e -/
theorem CS.asg {tg : Expr} {g : TGD} (hg : CG c tg g) (h : CE c e Δ μ (fun d m => ∃ Δ', g d Δ = some Δ' ∧ E.nx Δ' m) E.ex) (hs1 : swapsWithSole [tg] e pos.line c.X.env = pure false := by rfl) (hw : swappedStores [tg] e c.X.env = pure none := by rfl)
    (h1 : (assignEach [tg] c.X.env).map (·.2) = [assign tg c.X.env] := by rfl) : CS c (.Assign [tg] e pos) Δ μ E := by
  intro σ H ok hs Ev S
  obtain ⟨t, pg, ht⟩ := hg.ex
  refine ⟨_, ps_asg pe_w pg hs1 hw h1, h σ H ok hs _ (fun v d m H' ev dt ⟨Δ', e1, q⟩ => ?_) (S.want ok)⟩
  exact ht v d σ H' Δ Δ' m Ev.nx (ok.evo ev) dt e1 fun σ' ok' => S.nx _ _ _ _ ev ok' q
/-- a, b = x, y -/
theorem CS.par {i j : Nat} {x y : Str} {px py pt : Pos} {kt k2 pt2} (hc : c.X.calm = true) (hN : c.X.N.Nodup) (hi : c.X.N[i]? = some x) (hj : c.X.N[j]? = some y) (hij : i ≠ j)
    (hx : c.X.env.scope.names.lookup x = some .local) (hy : c.X.env.scope.names.lookup y = some .local) (h : CA c [a, b] Δ μ (fun ds m => ∃ d1 d2, ds = [d1, d2] ∧ E.nx ((Δ.set i (some d1)).set j (some d2)) m) E.ex)
    (hw : swappedStores [.Tuple [.Name x px, .Name y py] kt pt] (.Tuple [a, b] k2 pt2) c.X.env = pure (some [x, y]))
    (hs1 : swapsWithSole [.Tuple [.Name x px, .Name y py] kt pt] (.Tuple [a, b] k2 pt2) pos.line c.X.env = pure false := by rfl) :
    CS c (.Assign [.Tuple [.Name x px, .Name y py] kt pt] (.Tuple [a, b] k2 pt2) pos) Δ μ E := by
  intro σ H ok hs Ev S
  refine ⟨_, ps_par hc hN hi hj hij hx hy pa_w hw hs1, h σ H ok hs _ (fun vs ds m H' ev dt ⟨d1, d2, e1, q⟩ => ?_) (S.want ok)⟩
  subst e1
  cases dt with
  | cons t1 r =>
    cases r with
    | cons t2 r =>
      cases r
      exact ⟨_, _, rfl, S.nx _ _ _ _ ev (((ok.evo ev).set i t1).set j t2) q⟩
/-- o[i] = e, o a list that changes -/
theorem CS.setIx {o i : Expr} {p : Pos} (h : CE c e Δ μ (fun d m => CE c o Δ m (fun d1 m1 => CE c i Δ m1 (fun d2 m2 => ∃ l ds j n, d1 = .loc l ∧ m2 l = some (.l ds) ∧ d2 = .int j ∧ ixN ds.length j = some n ∧ E.nx Δ (m2.set l (.l (ds.set n d)))) E.ex) E.ex) E.ex)
    (ha : ∀ v, assign (.Subscript o i p) c.X.env v = (do
      let ov ← holding [v] (eval o c.X.env)
      let iv ← holding [v, ov] (eval i c.X.env)
      standAt p
      holding [v, ov, iv] (setItem ov iv v)
      release [v, ov, iv] []) := by intro _; rfl)
    (hs1 : swapsWithSole [.Subscript o i p] e pos.line c.X.env = pure false := by rfl) (hw : swappedStores [.Subscript o i p] e c.X.env = pure none := by rfl)
    (h1 : (assignEach [.Subscript o i p] c.X.env).map (·.2) = [assign (.Subscript o i p) c.X.env] := by rfl) : CS c (.Assign [.Subscript o i p] e pos) Δ μ E := by
  intro σ H ok hs Ev S
  refine ⟨_, ps_asg pe_w (pg_sub pe_w pe_w set_list ha) hs1 hw h1, h σ H ok hs _ (fun v d m H1 e1 t1 q => ?_) (S.want ok)⟩
  refine q σ H1 (ok.evo e1) e1.s _ (fun v2 d2 m2 H2 e2 t2 q2 => ?_) ((S.want ok).evo e1)
  refine q2 σ H2 (ok.evo (e1.trans e2)) e2.s _ (fun v3 d3 m3 H3 e3 t3 q3 => ?_) ((S.want ok).evo (e1.trans e2))
  obtain ⟨l, ds, j, n, z1, hm, z2, hn, q⟩ := q3
  subst z1; subst z2
  cases t2; cases t3
  obtain ⟨xs, hx, hd⟩ := e3.s l _ hm
  have hv : Dt c.K m3 H3 v d := (e2.trans e3).dt t1
  have k := keeps_set (m := .l (ds.set n d)) (o := .lst (xs.set n v)) e3.s hm
  have ev := evo_set (m := .l (ds.set n d)) (o := .lst (xs.set n v)) e3.s hm ⟨_, upd_same, (hd.set hv n).keep k⟩
  have eF := ((e1.trans e2).trans e3).trans ev
  exact ⟨l, xs, j, n, rfl, rfl, hx, by rw [hd.length]; exact hn, S.nx _ _ _ _ eF (ok.evo eF) q⟩

/-! ### attributes -/
/-- what may be asked of an instance -/
def InsAt (m : Mu) (d : D) (C : Addr) (fs : List (Str × D)) : Prop := d = .ins C fs ∨ ∃ p, d = .loc p ∧ m p = some (.o C fs)
theorem InsAt.at {K : PySem.W.Frag} {m : Mu} {H : Hp} {d : D} {C : Addr} {fs : List (Str × D)} {v : V} (h : InsAt m d C fs) (hs : HS K m H) (t : Dt K m H v d) : ∃ p dx gs, v = .ref p ∧ H p = some (.ins C dx gs) ∧ Dfs K m H gs fs := by
  rcases h with rfl | ⟨p, rfl, hm⟩
  · cases t with
    | ins h1 h2 h3 => exact ⟨_, _, _, rfl, h1, h3⟩
  · cases t
    obtain ⟨dx, gs, h1, h2⟩ := hs p _ hm
    exact ⟨p, dx, gs, rfl, h1, h2⟩
theorem CE.fld {f : Str} (h : CE c e Δ μ (fun d m => ∃ C fs v, InsAt m d C fs ∧ Cls c.K C ∧ NoAttr c.K C f ∧ lookF f fs = some v ∧ Q v m) Ex) (hb : attributeBase e f c.X.env (eval e c.X.env) = eval e c.X.env := by rfl) : CE c (.Attribute e f pos) Δ μ Q Ex := by
  intro σ H ok hs QV hQ hX
  refine ⟨_, pe_fld pe_w hb, h σ H ok hs _ (fun x d m H' ev t ⟨C, fs, v, hi, hc, hn, hl, q⟩ => ?_) hX⟩
  obtain ⟨p, dx, gs, z, h1, h2⟩ := hi.at ev.s t
  obtain ⟨u, h3, h4⟩ := h2.look hl
  exact ⟨p, C, dx, gs, u, z, h1, hc, hn, h3, hQ _ _ _ _ ev h4 q⟩
theorem CS.fld {o : Expr} {f : Str} {p : Pos} (h : CE c e Δ μ (fun d m => CE c o Δ m (fun d1 m1 => ∃ C fs a, d1 = .loc a ∧ m1 a = some (.o C fs) ∧ Cls c.K C ∧ NoAttr c.K C f ∧ fs.length < 1000 ∧ E.nx Δ (m1.set a (.o C (setF f d fs)))) E.ex) E.ex)
    (hsw : swapsWith e (some (.Attribute o f p)) pos.line c.X.env = pure false := by rfl) : CS c (.Assign [.Attribute o f p] e pos) Δ μ E := by
  intro σ H ok hs Ev S
  refine ⟨_, ps_fld pe_w pe_w hsw, h σ H ok hs _ (fun v d m H1 e1 t1 q => ?_) (S.want ok)⟩
  refine q σ H1 (ok.evo e1) e1.s _ (fun v2 d2 m2 H2 e2 t2 q2 => ?_) ((S.want ok).evo e1)
  obtain ⟨C, fs, a, z, hm, hc, hn, hl, q⟩ := q2
  subst z
  cases t2
  obtain ⟨dx, gs, h1, h2⟩ := e2.s a _ hm
  have k := keeps_set (m := .o C (setF f d fs)) (o := .ins C dx (putF f v gs)) e2.s hm
  have ev := evo_set (m := .o C (setF f d fs)) (o := .ins C dx (putF f v gs)) e2.s hm ⟨_, _, upd_same, (Dfs.put (e2.dt t1) h2).keep k⟩
  have eF := (e1.trans e2).trans ev
  exact ⟨a, C, dx, gs, rfl, h1, hc, hn, by rw [h2.length]; exact hl, S.nx _ _ _ _ eF (ok.evo eF) q⟩
/-- o.f += e of ints -/
theorem CS.fldAdd {o : Expr} {f : Str} {p : Pos} (h : CE c o Δ μ (fun d1 m => ∃ C fs a i, d1 = .loc a ∧ m a = some (.o C fs) ∧ Cls c.K C ∧ NoAttr c.K C f ∧ lookF f fs = some (.int i) ∧ fs.length < 1000 ∧
      CE c e Δ m (fun d2 m1 => ∃ j, d2 = .int j ∧ m1 a = some (.o C fs) ∧ E.nx Δ (m1.set a (.o C (setF f (.int (i + j)) fs)))) E.ex) E.ex) : CS c (.AugAssign (.Attribute o f p) .Add e pos) Δ μ E := by
  intro σ H ok hs Ev S
  refine ⟨_, ps_fldaug pe_w pe_w in_add, h σ H ok hs _ (fun v d m H1 e1 t1 q => ?_) (S.want ok)⟩
  obtain ⟨C, fs, a, i, z, hm, hc, hn, hk, hl, q⟩ := q
  subst z
  cases t1
  obtain ⟨dx, gs, h1, h2⟩ := e1.s a _ hm
  obtain ⟨u, h3, h4⟩ := h2.look hk
  cases h4
  refine ⟨a, C, dx, gs, _, rfl, h1, hc, hn, h3, ?_⟩
  refine q σ H1 (ok.evo e1) e1.s _ (fun v2 d2 m2 H2 e2 t2 q2 => ?_) ((S.want ok).evo e1)
  obtain ⟨j, z, hm2, q⟩ := q2
  subst z
  cases t2
  obtain ⟨dx2, gs2, h5, h6⟩ := e2.s a _ hm2
  have k := keeps_set (m := .o C (setF f (.int (i + j)) fs)) (o := .ins C dx2 (putF f (.int (i + j)) gs2)) e2.s hm2
  have ev := evo_set (m := .o C (setF f (.int (i + j)) fs)) (o := .ins C dx2 (putF f (.int (i + j)) gs2)) e2.s hm2 ⟨_, _, upd_same, (Dfs.put (.int (i + j)) h6).keep k⟩
  have eF := (e1.trans e2).trans ev
  exact ⟨i, j, rfl, rfl, dx2, gs2, h5, by rw [h6.length]; exact hl, S.nx _ _ _ _ eF (ok.evo eF) q⟩

/-! ### what defs promise -/
abbrev SpD := List D → Mu → (D → Mu → Prop) → (Addr → Option (List (Str × D)) → Mu → Prop) → Prop
def toSp (K : PySem.W.Frag) (s : SpD) : Sp := fun vs H QV EV => ∃ ds μ Q Ex, Dts K μ H vs ds ∧ HS K μ H ∧ s ds μ Q Ex ∧ (∀ v d μ' H', Evo K μ H μ' H' → Dt K μ' H' v d → Q d μ' → QV v H') ∧
  ∀ cls dict C o μ' H', Evo K μ H μ' H' → XAt K μ' H' cls dict C o → Ex C o μ' → EV cls dict H'
end

section
variable {P : Program} {w : World} {K : PySem.W.Frag} {mg : Str → Option Value} {base : Heap}
/-- the context of a def's body -/
def dctx (P : Program) (w : World) (K : PySem.W.Frag) (mg : Str → Option Value) (base : Heap) (N : List Str) (qual : Str) (sc : Scope) (f : Addr) (cdv : Value) (A : Around) (outer : List Env) (s : Shared) (H : Hp) (E : XK) : Ctx :=
  ⟨cxOf (L2N.CX P w) P w K mg base N qual sc f cdv A outer s H E, fun cls d _ H' => E cls d H', L2N.takes_of rfl rfl rfl rfl, passes_of rfl⟩
/-- the same where nothing may leave it -/
def nctx (P : Program) (w : World) (K : PySem.W.Frag) (mg : Str → Option Value) (base : Heap) (N : List Str) (qual : Str) (sc : Scope) (f : Addr) (cdv : Value) (A : Around) (outer : List Env) (s : Shared) (H : Hp) (E : XK) : Ctx :=
  ⟨(cxOf CX0 P w K mg base N qual sc f cdv A outer s H E).nox, fun _ _ _ _ => False, AM.noN, PassesOwn.never⟩
def startD (N : List Str) (ds : List D) : Sl := ds.map some ++ List.replicate (N.length - ds.length) none
theorem ok_start {μ : Mu} {H : Hp} {N : List Str} : ∀ {vs : List V} {ds : List D}, Dts K μ H vs ds → OkS K μ H (L2.start N vs) (startD N ds) := by
  intro vs ds h
  unfold L2.start startD
  refine ⟨by simp [h.length], fun i d q => ?_⟩
  by_cases hi : i < ds.length
  · rw [List.getElem?_append_left (by simpa using hi), List.getElem?_map] at q
    cases e : ds[i]? with
    | none => rw [e] at q; cases q
    | some d' =>
      rw [e] at q
      cases q
      obtain ⟨v, h1, h2⟩ := h.get e
      refine ⟨v, ?_, h2⟩
      have hl := h.length
      rw [List.getElem?_append_left (by simp; omega), List.getElem?_map, h1]; rfl
  · rw [List.getElem?_append_right (by simp; omega)] at q
    rw [List.getElem?_replicate] at q
    split at q <;> cases q
abbrev FnD (P : Program) (w : World) (K : PySem.W.Frag) (mg : Str → Option Value) (base : Heap) (CX : CXT) (k : Nat) (f : Addr) (fd : FuncData) (ps : List Str) (s : SpD) : Prop := FnOk P w K mg base CX k f fd ps (toSp K s)
theorem okD {x qual : Str} {st : Stmt} {f : Addr} {fd : FuncData} {N ps : List Str} {k : Nat} {s : SpD} (F : Fun K x qual st f fd) (S : FnScope N ps (defScope st)) (len : ∀ ds m Q E, s ds m Q E → ds.length = ps.length)
    (body : ∀ (cdv : Value) (A : Around) (outer : List Env) (s0 : Shared) (H : Hp) (E : XK), Room k (A.deeper (envOfC qual (defScope st) s0.heap.objs.size f cdv)) → ∀ ds m Q Ex, s ds m Q Ex →
      CSs (dctx P w K mg base N qual (defScope st) f cdv A outer s0 H E) (defBody st) (startD N ds) m { nx := fun _ m => Q .non m, rt := Q, ex := fun C o _ m => Ex C o m }) : FnD P w K mg base (L2N.CX P w) (k + 1) f fd ps s := by
  obtain ⟨oc, od, kV, doc, pm, an, cdv0, ct, osl, rfl, lk, hcd⟩ := F.ex
  refine fn_of lk hcd S (fun vs H Q E ⟨ds, m, _, _, h1, _, h2, _⟩ => h1.length.trans (len _ _ _ _ h2)) (fun A outer s0 H vs QV E hr ⟨ds, m, Q, Ex, h1, h2, h3, h4, h5⟩ => ?_)
  exact body _ A outer s0 H E hr ds m Q Ex h3 (L2.start N vs) H (ok_start h1) h2 { nx := fun _ H' => QV .non H', rt := QV }
    ⟨fun _ _ m' H' e _ q => h4 _ _ m' H' e .non q, h4, fun _ _ _ _ _ _ z => z.elim, fun _ _ _ _ _ _ z => z.elim, fun x y C o _ _ m' H' e _ z q => h5 x y C o m' H' e z q⟩
theorem okN {x qual : Str} {st : Stmt} {f : Addr} {fd : FuncData} {N ps : List Str} {k : Nat} {s : SpD} (F : Fun K x qual st f fd) (S : FnScope N ps (defScope st)) (len : ∀ ds m Q E, s ds m Q E → ds.length = ps.length)
    (body : ∀ (cdv : Value) (A : Around) (outer : List Env) (s0 : Shared) (H : Hp) (E : XK), Room k (A.deeper (envOfC qual (defScope st) s0.heap.objs.size f cdv)) → ∀ ds m Q Ex, s ds m Q Ex →
      CSs (nctx P w K mg base N qual (defScope st) f cdv A outer s0 H E) (defBody st) (startD N ds) m { nx := fun _ m => Q .non m, rt := Q }) : FnD P w K mg base CX0 (k + 1) f fd ps s := by
  refine F.ok S (fun vs H Q E ⟨ds, m, _, _, h1, _, h2, _⟩ => h1.length.trans (len _ _ _ _ h2)) (fun cdv A outer s0 H vs QV E hr ⟨ds, m, Q, Ex, h1, h2, h3, h4, h5⟩ => ?_)
  exact body cdv A outer s0 H E hr ds m Q Ex h3 (L2.start N vs) H (ok_start h1) h2 { nx := fun _ H' => QV .non H', rt := QV }
    ⟨fun _ _ m' H' e _ q => h4 _ _ m' H' e .non q, h4, fun _ _ _ _ _ _ z => z.elim, fun _ _ _ _ _ _ z => z.elim, fun x y C o _ _ m' H' e _ z q => q.elim⟩
end

section
variable {c : Ctx} {e a b : Expr} {es : List Expr} {Δ : Sl} {μ : Mu} {Q Q' : D → Mu → Prop} {QB QB' : Bool → Mu → Prop} {QA QA' : List D → Mu → Prop} {Ex Ex' : XD} {pos p apos : Pos} {E E' : DE} {st : Stmt} {sts : List Stmt}
variable {k : Nat} {f C : Addr} {fd : FuncData} {ps : List Str} {s : SpD} {x m : Str} {CXc : CXT}
/-- how a callee's exceptions reach a wish -/
def CXOk (c : Ctx) (CXc : CXT) : Prop := ∀ σ, PassesAt CXc c.X σ (WE c.W σ)
theorem cxL : CXOk c (L2N.CX c.X.prog c.X.w) := fun σ => L2N.passAt c.tk σ
theorem cx0 : CXOk c CX0 := fun _ _ _ _ _ _ _ h => h.elim
/-- a def of the module under the name x: what callers want of it -/
structure Fn (c : Ctx) (x : Str) (k : Nat) (s : SpD) : Prop where
  ex : ∃ (CXc : CXT) (f : Addr) (fd : FuncData) (ps : List Str), CXOk c CXc ∧ FnD c.X.prog c.X.w c.K c.X.mg c.X.base CXc k f fd ps s ∧ c.X.mg x = some (.ref f) ∧ PySem.W.keepIn c.K (.ref f) = true ∧ Binds c.K fd ps []
theorem toSp_of {K : PySem.W.Frag} {ds : List D} {m : Mu} {H : Hp} {vs : List V} {QV : VK} {EV : XK} {Ex : Addr → Option (List (Str × D)) → Mu → Prop} (t : Dts K m H vs ds) (hs : HS K m H) (h : s ds m Q Ex) (h1 : ∀ v d μ' H', Evo K m H μ' H' → Dt K μ' H' v d → Q d μ' → QV v H')
    (h2 : ∀ cls dict C o μ' H', Evo K m H μ' H' → XAt K μ' H' cls dict C o → Ex C o μ' → EV cls dict H') : toSp K s vs H QV EV := ⟨ds, m, Q, Ex, t, hs, h, h1, h2⟩
theorem CE.call (F : Fn c x k s) (hr : Room k c.X.A) (h : CA c (e :: es) Δ μ (fun ds m => s ds m Q (fun C o m' => Ex C o Δ m')) Ex) (hg : Gl c.X x := by rfl) (hdb : (x == ("__debug__" : Str)) = false := by decide)
    (he : starEach (e :: es) c.X.env = (false, eval e c.X.env) :: starEach es c.X.env := by rfl) (hpl : (backTo pos (starEach es c.X.env)).any (·.1) = false := by rfl) : CE c (.Call (.Name x p) (e :: es) [] pos) Δ μ Q Ex := by
  intro σ H ok hs QV hQ hX
  obtain ⟨CXc, f, fd, ps, hx, G, hm, hk, hb⟩ := F.ex
  refine ⟨_, pe_callS G hr hg hm hk hb hx pa_w hdb he hpl, h σ H ok hs _ (fun vs ds m H' ev t q => ?_) hX⟩
  exact toSp_of t ev.s q (WantV.evo hQ ev) (hX.evo ev)
theorem run_fnS0 {pins : List (Addr × Obj)} {σ : L2.St} {H : Hp} {s0 : Shared} {QV : VK} (G : FnD c.X.prog c.X.w c.K c.X.mg c.X.base CXc k f fd ps s) (hr : Room k c.X.A) (hb : Binds c.K fd ps []) (hx : CXOk c CXc) (I : Inv c.X pins σ H s0) (h : toSp c.K s [] H QV (WE c.W σ)) :
    wpAny (model c.X.prog c.X.w) c.X.A (call (.ref f) []) (EP c.X pins σ QV) c.X.xe s0 := run_fnS (E := WE c.W) G hr hb (hx σ) I .nil h
theorem CE.call0 (F : Fn c x k s) (hr : Room k c.X.A) (h : s [] μ Q (fun C o m' => Ex C o Δ m')) (hg : Gl c.X x := by rfl) (hdb : (x == ("__debug__" : Str)) = false := by decide) : CE c (.Call (.Name x p) [] [] pos) Δ μ Q Ex := by
  intro σ H ok hs QV hQ hX
  obtain ⟨CXc, f, fd, ps, hx, G, hm, hk, hb⟩ := F.ex
  refine ⟨fun σ H QV => toSp c.K s [] H QV (WE c.W σ), ⟨fun pins s0 σ H QV I h => ?_⟩, toSp_of .nil hs h hQ hX⟩
  refine wpAny_Call_Name_kw (ld_glob I hg hm ?_ hdb)
  exact PySem.W.callWith_K0 I.kIn hk (run_fnS0 G hr hb hx I h)
/-- a method of the class at C -/
structure Mth (c : Ctx) (C : Addr) (m : Str) (k : Nat) (s : SpD) : Prop where
  ex : ∃ (CXc : CXT) (f : Addr) (fd : FuncData) (ps : List Str), CXOk c CXc ∧ FnD c.X.prog c.X.w c.K c.X.mg c.X.base CXc k f fd ps s ∧ Meth c.K C m f ∧ Binds c.K fd ps []
  cl : Cls c.K C
theorem CE.meth {o : Expr} {pl : Sem Bool} (F : Mth c C m k s) (hr : Room k c.X.A) (h : CE c o Δ μ (fun d m1 => ∃ fs, InsAt m1 d C fs ∧ lookF m fs = none ∧ CA c (e :: es) Δ m1 (fun ds m' => s (d :: ds) m' Q (fun C o m' => Ex C o Δ m')) Ex) Ex)
    (hst : starEach (e :: es) c.X.env = (false, eval e c.X.env) :: starEach es c.X.env := by rfl) (hpl : (backTo pos (starEach es c.X.env)).any (·.1) = false := by rfl)
    (ht : eval (.Call (.Attribute o m apos) (e :: es) [] pos) c.X.env = (do
      let ov ← eval o c.X.env
      standAt apos.atName
      let (f, first) ← holding [ov] (getMethod ov m pl)
      callWith pos f first (backTo pos (starEach (e :: es) c.X.env)) (backToKw pos (keywordEach [] c.X.env))) := by rfl) : CE c (.Call (.Attribute o m apos) (e :: es) [] pos) Δ μ Q Ex := by
  intro σ H ok hs QV hQ hX
  obtain ⟨CXc, f, fd, ps, hx, G, hm, hb⟩ := F.ex
  refine ⟨fun σ H QV => wE c.X o σ H fun x H1 => ∃ a dx fs, x = .ref a ∧ H1 a = some (.ins C dx fs) ∧ fs.lookup m = none ∧ wA c.X (e :: es) σ H1 fun vs H2 => toSp c.K s (x :: vs) H2 QV (WE c.W σ), ⟨fun pins s0 σ H QV I h => ?_⟩, ?_⟩
  · refine PySem.W.methodCall_KW (pl := pl) (thn (pe_w.run pins s0 σ H _ I h) fun u s1 ⟨x, H1, I1, rx, a, dx, fs, ex, ea, l, q⟩ => ?_) ht
    subst ex
    obtain rfl : u = Value.ref a := rx
    refine getmeth_ok I1 ea F.cl hm l ?_
    refine PySem.W.callWith_K (first := [.ref a]) (h₀ := c.X.base) I.ok.mod.kin hm.kp (thn (pa_w.run pos pins s1 σ H1 _ I1 q) fun us s2 ⟨vs, H2, I2, r, q2⟩ => ⟨I2.kIn, ?_⟩) hst hpl
    exact run_fnS (us := .ref a :: us) (vs := .ref a :: vs) (E := WE c.W) G hr hb (hx σ) I2 (.cons rfl r) q2
  · refine h σ H ok hs _ (fun v d m1 H1 ev t ⟨fs, hi, hl, q⟩ => ?_) hX
    obtain ⟨p, dx, gs, z, h1, h2⟩ := hi.at ev.s t
    subst z
    refine ⟨p, dx, gs, rfl, h1, h2.look0 hl, q σ H1 (ok.evo ev) ev.s _ (fun vs ds m2 H2 e2 t2 q2 => ?_) (hX.evo ev)⟩
    exact toSp_of (.cons (e2.dt t) t2) e2.s q2 (WantV.evo hQ (ev.trans e2)) (hX.evo (ev.trans e2))
theorem CE.meth0 {o : Expr} {pl : Sem Bool} (F : Mth c C m k s) (hr : Room k c.X.A) (h : CE c o Δ μ (fun d m1 => ∃ fs, InsAt m1 d C fs ∧ lookF m fs = none ∧ s [d] m1 Q (fun C o m' => Ex C o Δ m')) Ex)
    (ht : eval (.Call (.Attribute o m apos) [] [] pos) c.X.env = (do
      let ov ← eval o c.X.env
      standAt apos.atName
      let (f, first) ← holding [ov] (getMethod ov m pl)
      callWith pos f first (backTo pos (starEach [] c.X.env)) (backToKw pos (keywordEach [] c.X.env))) := by rfl) : CE c (.Call (.Attribute o m apos) [] [] pos) Δ μ Q Ex := by
  intro σ H ok hs QV hQ hX
  obtain ⟨CXc, f, fd, ps, hx, G, hm, hb⟩ := F.ex
  refine ⟨fun σ H QV => wE c.X o σ H fun x H1 => ∃ a dx fs, x = .ref a ∧ H1 a = some (.ins C dx fs) ∧ fs.lookup m = none ∧ toSp c.K s [x] H1 QV (WE c.W σ), ⟨fun pins s0 σ H QV I h => ?_⟩, ?_⟩
  · refine PySem.W.methodCall_KW (pl := pl) (thn (pe_w.run pins s0 σ H _ I h) fun u s1 ⟨x, H1, I1, rx, a, dx, fs, ex, ea, l, q⟩ => ?_) ht
    subst ex
    obtain rfl : u = Value.ref a := rx
    refine getmeth_ok I1 ea F.cl hm l ?_
    exact PySem.W.callWith_K0 (first := [.ref a]) I1.kIn hm.kp (run_fnS (us := [.ref a]) (vs := [.ref a]) (E := WE c.W) G hr hb (hx σ) I1 (.cons rfl .nil) q)
  · refine h σ H ok hs _ (fun v d m1 H1 ev t ⟨fs, hi, hl, q⟩ => ?_) hX
    obtain ⟨p, dx, gs, z, h1, h2⟩ := hi.at ev.s t
    subst z
    exact ⟨p, dx, gs, rfl, h1, h2.look0 hl, toSp_of (.cons t .nil) ev.s q (WantV.evo hQ ev) (hX.evo ev)⟩
/-- a property -/
theorem CE.prop {g : Str} (hp : ∃ pa fa fd ps, PropOf c.K C g pa fa ∧ FnD c.X.prog c.X.w c.K c.X.mg c.X.base (L2N.CX c.X.prog c.X.w) k fa fd ps s ∧ Binds c.K fd ps []) (hcl : Cls c.K C) (hr : Room (k + 1) c.X.A)
    (h : CE c e Δ μ (fun d m1 => ∃ fs, InsAt m1 d C fs ∧ s [d] m1 Q (fun _ _ _ => False)) Ex) (hab : attributeBase e g c.X.env (eval e c.X.env) = eval e c.X.env := by rfl) : CE c (.Attribute e g pos) Δ μ Q Ex := by
  intro σ H ok hs QV hQ hX
  obtain ⟨pa, fa, fd, ps, hpr, G, hb⟩ := hp
  refine ⟨_, pe_prop pe_w hcl hpr G hr hb .nil (AM.passN (X := c.X.nox)) hab, h σ H ok hs _ (fun v d m1 H1 ev t ⟨fs, hi, q⟩ => ?_) hX⟩
  obtain ⟨p, dx, gs, z, h1, h2⟩ := hi.at ev.s t
  subst z
  exact ⟨p, dx, gs, rfl, h1, toSp_of (.cons t .nil) ev.s q (WantV.evo hQ ev) (fun _ _ _ _ _ _ _ _ z => z.elim)⟩
/-- C(..) -/
structure Cns (c : Ctx) (x : Str) (C : Addr) (k : Nat) (s : SpD) : Prop where
  ex : ∃ (CXc : CXT) (f : Addr) (fd : FuncData) (ps : List Str), CXOk c CXc ∧ FnD c.X.prog c.X.w c.K c.X.mg c.X.base CXc k f fd ps s ∧ Mk c.K C f ∧ c.X.mg x = some (.ref C) ∧ Binds c.K fd ps []
theorem CE.make (F : Cns c x C k s) (hr : Room (k + 1) c.X.A)
    (h : CA c (e :: es) Δ μ (fun ds m1 => ∀ p, m1 p = none → s (.loc p :: ds) (m1.set p (.o C [])) (fun d m2 => d = .non ∧ Q (.loc p) m2) (fun C o m' => Ex C o Δ m')) Ex) (hg : Gl c.X x := by rfl) (hdb : (x == ("__debug__" : Str)) = false := by decide)
    (he : starEach (e :: es) c.X.env = (false, eval e c.X.env) :: starEach es c.X.env := by rfl) (hpl : (backTo pos (starEach es c.X.env)).any (·.1) = false := by rfl) : CE c (.Call (.Name x p) (e :: es) [] pos) Δ μ Q Ex := by
  intro σ H ok hs QV hQ hX
  obtain ⟨CXc, f, fd, ps, hx, G, M, hm, hb⟩ := F.ex
  refine ⟨fun σ H QV => wA c.X (e :: es) σ H fun vs H1 => ∀ x dx, H1 x = none → H1 dx = none → dx ≠ x → toSp c.K s (.ref x :: vs) (upd (upd H1 dx (.own x)) x (.ins C dx [])) (fun v H2 => v = .non ∧ QV (.ref x) H2) (WE c.W σ), ⟨fun pins s0 σ H QV I h => ?_⟩, ?_⟩
  · refine wpAny_Call_Name_kw (ld_glob I hg hm ?_ hdb)
    refine PySem.W.callWith_K (h₀ := c.X.base) I.ok.mod.kin M.kp (thn (pa_w.run pos pins s0 σ H _ I h) fun us s1 ⟨vs, H1, I1, r, q⟩ => ⟨I1.kIn, ?_⟩) he hpl
    have hq := q (s1.heap.objs.size + 1) s1.heap.objs.size (I1.hok.fresh (Nat.le_succ _)) (I1.hok.fresh (Nat.le_refl _)) (Nat.ne_of_lt (Nat.lt_succ_self _))
    have I2 := Inv.made (C := C) I1
    have r2 : Vals (V.ref (s1.heap.objs.size + 1) :: vs) (Value.ref (s1.heap.objs.size + 1) :: us) := .cons rfl r
    have hl : (Value.ref (s1.heap.objs.size + 1) :: us ++ []).length = ps.length := by
      have e := r2.length
      rw [G.len _ _ _ _ hq] at e
      rw [List.append_nil]
      exact e.symm
    have hbb := hb _ (Value.ref (s1.heap.objs.size + 1) :: us) I2.kIn hl
    rw [List.append_nil] at hbb
    refine wpAny_call (make_map (f := f) I1.kIn M.makes M.init (beq_iff_eq.mp M.fn) (codeAny_mono (G.run _ c.X.stack _ _ ⟨Value.ref (s1.heap.objs.size + 1) :: us, []⟩ (Value.ref (s1.heap.objs.size + 1) :: us) _ _ (WE c.W σ) (hr.make C us [])
      (I2.env0.make C us []) hbb r2 hq) fun r s' hq' => ?_))
    cases r with
    | error e => exact hx σ pins _ _ e s' I2 hq'
    | ok fl =>
      cases fl with
      | ret u =>
        obtain ⟨v, H', I3, rv, ev, q3⟩ := I2.after hq'
        subst ev
        exact ⟨rv, ⟨V.ref (s1.heap.objs.size + 1), H', I3, rfl, q3⟩⟩
      | next => exact False.elim hq'
      | brk => exact False.elim hq'
      | cont => exact False.elim hq'
  · refine h σ H ok hs _ (fun vs ds m1 H1 ev t q => ?_) hX
    intro p dx hp hdx hne
    have e1 : Evo c.K m1 H1 m1 (upd H1 dx (.own p)) := evo_same ev.s (same_new hdx)
    have hp1 : (upd H1 dx (.own p)) p = none := by rw [upd_ne (Ne.symm hne)]; exact hp
    have e2 : Evo c.K m1 (upd H1 dx (.own p)) (m1.set p (.o C [])) (upd (upd H1 dx (.own p)) p (.ins C dx [])) := evo_new (m := .o C []) e1.s (same_new hp1) hp1 ⟨dx, [], upd_same, .nil⟩
    have e3 := e1.trans e2
    refine toSp_of (.cons (.loc p) (e3.dts t)) e3.s (q p (ev.s.none hp)) (fun v d m2 H2 e4 t2 ⟨z, q2⟩ => ?_) (hX.evo (ev.trans e3))
    subst z
    cases t2
    exact ⟨rfl, hQ _ _ _ _ ((ev.trans e3).trans e4) (.loc p) q2⟩
theorem CE.freezeO (h : CE c e Δ μ (fun d m => ∃ p C fs, d = .loc p ∧ m p = some (.o C fs) ∧ Q (.ins C fs) (m.del p)) Ex) : CE c e Δ μ Q Ex := fun σ H ok hs QV hQ hX =>
  h σ H ok hs QV (fun v d m H' ev dt ⟨p, C, fs, z, hm, q⟩ => by
    subst z
    cases dt
    exact hQ _ _ _ _ (ev.trans (evo_del ev.s)) (frozen_o ev.s hm) q) hX
end
end AM

set_option autoImplicit false
set_option maxRecDepth 100000
set_option maxHeartbeats 1000000
namespace AM
open PySem L2 PySem.Spec PyProof.Rows
section
variable {c : Ctx} {e a b : Expr} {es : List Expr} {Δ : Sl} {μ : Mu} {Q Q' : D → Mu → Prop} {QB QB' : Bool → Mu → Prop} {QA QA' : List D → Mu → Prop} {Ex Ex' : XD} {pos p apos : Pos} {E E' : DE} {st : Stmt} {sts : List Stmt}

theorem bv_abs : bootBuiltins "abs" = some (.builtin "abs") := by decide +kernel
theorem bv_max : bootBuiltins "max" = some (.builtin "max") := by decide +kernel
theorem bv_min : bootBuiltins "min" = some (.builtin "min") := by decide +kernel
theorem bv_sum : bootBuiltins "sum" = some (.builtin "sum") := by decide +kernel
theorem bv_all : bootBuiltins "all" = some (.builtin "all") := by decide +kernel
theorem bv_isinstance : bootBuiltins "isinstance" = some (.builtin "isinstance") := by decide +kernel
theorem bv_int : bootBuiltins "int" = some (.type "int") := by decide +kernel
theorem bv_str : bootBuiltins "str" = some (.type "str") := by decide +kernel
theorem bv_list : bootBuiltins "list" = some (.type "list") := by decide +kernel
theorem bv_tuple : bootBuiltins "tuple" = some (.type "tuple") := by decide +kernel
theorem bv_bool : bootBuiltins "bool" = some (.type "bool") := by decide +kernel
theorem bv_dict : bootBuiltins "dict" = some (.type "dict") := by decide +kernel
/-! ### built-in calls by values -/
def PC1 (c : Ctx) (r : List V → Hp → VK → Prop) (ds : List D) (m : Mu) (Q : D → Mu → Prop) : Prop :=
  ∀ vs H QV, HS c.K m H → Dts c.K m H vs ds → WantV c m H Q QV → r vs H QV
theorem CE.cb {id : String} {r : List V → Hp → VK → Prop} {x : Str} (hc : CallR c.X (.builtin id) r) (hm : c.X.mg x = none) (hv : bootBuiltins x = some (.builtin id)) (h : CA c (e :: es) Δ μ (fun ds m => PC1 c r ds m Q) Ex) (hg : Gl c.X x := by rfl)
    (hn : x ≠ "__name__" := by decide) (hdb : (x == ("__debug__" : Str)) = false := by decide)
    (he : starEach (e :: es) c.X.env = (false, eval e c.X.env) :: starEach es c.X.env := by rfl) (hpl : (backTo pos (starEach es c.X.env)).any (·.1) = false := by rfl) : CE c (.Call (.Name x p) (e :: es) [] pos) Δ μ Q Ex := by
  intro σ H ok hs QV hQ hX
  refine ⟨_, pe_callB hc hg hm hv pa_w hn hdb he hpl, h σ H ok hs _ (fun vs ds m H' ev t q => ?_) hX⟩
  exact q vs H' QV ev.s t (WantV.evo hQ ev)
theorem CE.ct {T : String} {r : List V → Hp → VK → Prop} {x : Str} (hc : CallR c.X (.type T) r) (hm : c.X.mg x = none) (hv : bootBuiltins x = some (.type T)) (h : CA c (e :: es) Δ μ (fun ds m => PC1 c r ds m Q) Ex) (hg : Gl c.X x := by rfl)
    (hn : x ≠ "__name__" := by decide) (hdb : (x == ("__debug__" : Str)) = false := by decide)
    (he : starEach (e :: es) c.X.env = (false, eval e c.X.env) :: starEach es c.X.env := by rfl) (hpl : (backTo pos (starEach es c.X.env)).any (·.1) = false := by rfl) : CE c (.Call (.Name x p) (e :: es) [] pos) Δ μ Q Ex := by
  intro σ H ok hs QV hQ hX
  refine ⟨_, pe_callTy hc hg hm hv pa_w hn hdb he hpl, h σ H ok hs _ (fun vs ds m H' ev t q => ?_) hX⟩
  exact q vs H' QV ev.s t (WantV.evo hQ ev)

/-- the items of what has items: a list, a tuple, a list that changes -/
def SeqD (m : Mu) (d : D) (ds : List D) : Prop := d = .tup ds ∨ d = .lst ds ∨ ∃ l, d = .loc l ∧ m l = some (.l ds)
theorem SeqD.at {K : PySem.W.Frag} {m : Mu} {H : Hp} {d : D} {ds : List D} {v : V} (h : SeqD m d ds) (hs : HS K m H) (t : Dt K m H v d) : ∃ q xs, v = .ref q ∧ (SqL K H q xs ∨ SqT K H q xs) ∧ Dts K m H xs ds := by
  rcases h with rfl | rfl | ⟨l, rfl, hm⟩
  · cases t with
    | tup h1 h2 => exact ⟨_, _, rfl, .inr h1, h2⟩
  · cases t with
    | lst h1 h2 => exact ⟨_, _, rfl, .inl h1.sq, h2⟩
  · cases t
    obtain ⟨xs, h1, h2⟩ := hs l _ hm
    exact ⟨l, xs, rfl, .inl (.inl (.inl h1)), h2⟩
/-- a list, changing or not -/
def LstD (m : Mu) (d : D) (ds : List D) : Prop := d = .lst ds ∨ ∃ l, d = .loc l ∧ m l = some (.l ds)
theorem LstD.at {K : PySem.W.Frag} {m : Mu} {H : Hp} {d : D} {ds : List D} {v : V} (h : LstD m d ds) (hs : HS K m H) (t : Dt K m H v d) : ∃ q xs, v = .ref q ∧ SqL K H q xs ∧ Dts K m H xs ds := by
  rcases h with rfl | ⟨l, rfl, hm⟩
  · cases t with
    | lst h1 h2 => exact ⟨_, _, rfl, h1.sq, h2⟩
  · cases t
    obtain ⟨xs, h1, h2⟩ := hs l _ hm
    exact ⟨l, xs, rfl, .inl (.inl h1), h2⟩
theorem LstD.seq {m : Mu} {d : D} {ds : List D} (h : LstD m d ds) : SeqD m d ds := h.elim (fun h => .inr (.inl h)) fun h => .inr (.inr h)
theorem CE.len (hm : c.X.mg "len" = none) (h : CE c e Δ μ (fun d m => ∃ ds, SeqD m d ds ∧ Q (.int ds.length) m) Ex) (hg : Gl c.X "len" := by rfl)
    (he : starEach [e] c.X.env = (false, eval e c.X.env) :: starEach [] c.X.env := by rfl) (hpl : (backTo pos (starEach [] c.X.env)).any (·.1) = false := by rfl) : CE c (.Call (.Name "len" p) [e] [] pos) Δ μ Q Ex :=
  CE.cb (call_len_seq) hm PySem.boot_len (CA.cons (h.imp fun d m ⟨ds, hs, q⟩ => CA.nil fun vs H QV hH t hQ => by
    cases t with
    | cons t1 r =>
      cases r
      obtain ⟨l, xs, z, hq, h2⟩ := hs.at hH t1
      subst z
      refine ⟨l, xs, rfl, hq, ?_⟩
      rw [h2.length]
      exact hQ _ _ _ _ (Evo.refl hH) (.int _) q) he) hg (by decide) (by decide) he hpl
theorem CE.abs (hm : c.X.mg "abs" = none) (h : CE c e Δ μ (fun d m => ∃ i, d = .int i ∧ Q (.int (if i < 0 then -i else i)) m) Ex) (hg : Gl c.X "abs" := by rfl)
    (he : starEach [e] c.X.env = (false, eval e c.X.env) :: starEach [] c.X.env := by rfl) (hpl : (backTo pos (starEach [] c.X.env)).any (·.1) = false := by rfl) : CE c (.Call (.Name "abs" p) [e] [] pos) Δ μ Q Ex :=
  CE.cb (call_abs) hm bv_abs (CA.cons (h.imp fun d m ⟨i, z, q⟩ => CA.nil fun vs H QV hH t hQ => by
    subst z
    cases t with
    | cons t1 r => cases r; cases t1; exact ⟨i, rfl, hQ _ _ _ _ (Evo.refl hH) (.int _) q⟩) he) hg (by decide) (by decide) he hpl
theorem CE.intI (hm : c.X.mg "int" = none) (h : CE c e Δ μ (fun d m => (∃ i, d = .int i ∧ Q (.int i) m) ∨ (∃ k, d = .bl k ∧ Q (.int (if k then 1 else 0)) m)) Ex) (hg : Gl c.X "int" := by rfl)
    (he : starEach [e] c.X.env = (false, eval e c.X.env) :: starEach [] c.X.env := by rfl) (hpl : (backTo pos (starEach [] c.X.env)).any (·.1) = false := by rfl) : CE c (.Call (.Name "int" p) [e] [] pos) Δ μ Q Ex :=
  CE.ct (call_int1) hm bv_int (CA.cons (h.imp fun d m h => CA.nil fun vs H QV hH t hQ => by
    rcases h with ⟨i, z, q⟩ | ⟨i, z, q⟩
    · subst z
      cases t with
      | cons t1 r => cases r; cases t1; exact .inl ⟨i, rfl, hQ _ _ _ _ (Evo.refl hH) (.int _) q⟩
    · subst z
      cases t with
      | cons t1 r => cases r; cases t1; exact .inr ⟨i, rfl, hQ _ _ _ _ (Evo.refl hH) (.int _) q⟩) he) hg (by decide) (by decide) he hpl
theorem CE.intS (hm : c.X.mg "int" = none) (h : CE c e Δ μ (fun d m => ∃ i n, d = .str i ∧ PySem.intText? i = some n ∧ i.length ≤ 640 ∧ Q (.int n) m) Ex) (hg : Gl c.X "int" := by rfl)
    (he : starEach [e] c.X.env = (false, eval e c.X.env) :: starEach [] c.X.env := by rfl) (hpl : (backTo pos (starEach [] c.X.env)).any (·.1) = false := by rfl) : CE c (.Call (.Name "int" p) [e] [] pos) Δ μ Q Ex :=
  CE.ct (call_int_str) hm bv_int (CA.cons (h.imp fun d m ⟨i, n, z, h1, h2, q⟩ => CA.nil fun vs H QV hH t hQ => by
    subst z
    cases t with
    | cons t1 r => cases r; cases t1; exact ⟨i, n, rfl, h1, h2, hQ _ _ _ _ (Evo.refl hH) (.int _) q⟩) he) hg (by decide) (by decide) he hpl
def rStr : List V → Hp → VK → Prop := fun xs H Q => (∃ i, xs = [.int i] ∧ i.natAbs.log2 < 1920 ∧ Q (.str (toString i)) H) ∨ (∃ a, xs = [.str a] ∧ Q (.str a) H)
theorem CE.strA (hm : c.X.mg "str" = none) (h : CE c e Δ μ (fun d m => (∃ i, d = .int i ∧ i.natAbs.log2 < 1920 ∧ Q (.str (toString i)) m) ∨ (∃ s, d = .str s ∧ Q (.str s) m)) Ex) (hg : Gl c.X "str" := by rfl)
    (he : starEach [e] c.X.env = (false, eval e c.X.env) :: starEach [] c.X.env := by rfl) (hpl : (backTo pos (starEach [] c.X.env)).any (·.1) = false := by rfl) : CE c (.Call (.Name "str" p) [e] [] pos) Δ μ Q Ex :=
  CE.ct (r := rStr) (call_str_int.or SkE.call_str_str) hm bv_str (CA.cons (h.imp fun d m h => CA.nil fun vs H QV hH t hQ => by
    rcases h with ⟨i, z, hl, q⟩ | ⟨i, z, q⟩
    · subst z
      cases t with
      | cons t1 r => cases r; cases t1; exact .inl ⟨i, rfl, hl, hQ _ _ _ _ (Evo.refl hH) (.str _) q⟩
    · subst z
      cases t with
      | cons t1 r => cases r; cases t1; exact .inr ⟨i, rfl, hQ _ _ _ _ (Evo.refl hH) (.str _) q⟩) he) hg (by decide) (by decide) he hpl
theorem CE.max2 (hcalm : c.X.calm = true) (hm : c.X.mg "max" = none) (h : CA c [a, b] Δ μ (fun ds m => ∃ i j, ds = [.int i, .int j] ∧ Q (.int (if j > i then j else i)) m) Ex) (hg : Gl c.X "max" := by rfl)
    (he : starEach [a, b] c.X.env = (false, eval a c.X.env) :: starEach [b] c.X.env := by rfl) (hpl : (backTo pos (starEach [b] c.X.env)).any (·.1) = false := by rfl) : CE c (.Call (.Name "max" p) [a, b] [] pos) Δ μ Q Ex :=
  CE.cb (call_max2 hcalm) hm bv_max (h.imp fun d m ⟨i, j, z, q⟩ vs H QV hH t hQ => by
    subst z
    cases t with
    | cons t1 r => cases r with
      | cons t2 r => cases r; cases t1; cases t2; exact ⟨i, j, rfl, hQ _ _ _ _ (Evo.refl hH) (.int _) q⟩) hg (by decide) (by decide) he hpl
theorem CE.min2 (hcalm : c.X.calm = true) (hm : c.X.mg "min" = none) (h : CA c [a, b] Δ μ (fun ds m => ∃ i j, ds = [.int i, .int j] ∧ Q (.int (if j < i then j else i)) m) Ex) (hg : Gl c.X "min" := by rfl)
    (he : starEach [a, b] c.X.env = (false, eval a c.X.env) :: starEach [b] c.X.env := by rfl) (hpl : (backTo pos (starEach [b] c.X.env)).any (·.1) = false := by rfl) : CE c (.Call (.Name "min" p) [a, b] [] pos) Δ μ Q Ex :=
  CE.cb (call_min2 hcalm) hm bv_min (h.imp fun d m ⟨i, j, z, q⟩ vs H QV hH t hQ => by
    subst z
    cases t with
    | cons t1 r => cases r with
      | cons t2 r => cases r; cases t1; cases t2; exact ⟨i, j, rfl, hQ _ _ _ _ (Evo.refl hH) (.int _) q⟩) hg (by decide) (by decide) he hpl
theorem CE.sum (hcalm : c.X.calm = true) (hm : c.X.mg "sum" = none) (h : CE c e Δ μ (fun d m => ∃ ns : List Int, LstD m d (ns.map .int) ∧ Q (.int ns.sum) m) Ex) (hg : Gl c.X "sum" := by rfl)
    (he : starEach [e] c.X.env = (false, eval e c.X.env) :: starEach [] c.X.env := by rfl) (hpl : (backTo pos (starEach [] c.X.env)).any (·.1) = false := by rfl) : CE c (.Call (.Name "sum" p) [e] [] pos) Δ μ Q Ex :=
  CE.cb (cr_sum hcalm) hm bv_sum (CA.cons (h.imp fun d m ⟨ns, hs, q⟩ => CA.nil fun vs H QV hH t hQ => by
    cases t with
    | cons t1 r =>
      cases r
      obtain ⟨l, xs, z, hq, h2⟩ := hs.at hH t1
      subst z
      have e := h2.of_ints
      subst e
      exact ⟨l, ns, rfl, hq, hQ _ _ _ _ (Evo.refl hH) (.int _) q⟩) he) hg (by decide) (by decide) he hpl
theorem CE.maxL (hcalm : c.X.calm = true) (hm : c.X.mg "max" = none) (h : CE c e Δ μ (fun d m => ∃ ns : List Int, LstD m d (ns.map .int) ∧ 0 < ns.length ∧ ∀ i, i ∈ ns → (∀ y, y ∈ ns → y ≤ i) → Q (.int i) m) Ex) (hg : Gl c.X "max" := by rfl)
    (he : starEach [e] c.X.env = (false, eval e c.X.env) :: starEach [] c.X.env := by rfl) (hpl : (backTo pos (starEach [] c.X.env)).any (·.1) = false := by rfl) : CE c (.Call (.Name "max" p) [e] [] pos) Δ μ Q Ex :=
  CE.cb (cr_max hcalm) hm bv_max (CA.cons (h.imp fun d m ⟨ns, hs, hl, q⟩ => CA.nil fun vs H QV hH t hQ => by
    cases t with
    | cons t1 r =>
      cases r
      obtain ⟨l, xs, z, hq, h2⟩ := hs.at hH t1
      subst z
      have e := h2.of_ints
      subst e
      exact ⟨l, ns, rfl, hq, hl, fun i h1 h2 => hQ _ _ _ _ (Evo.refl hH) (.int _) (q i h1 h2)⟩) he) hg (by decide) (by decide) he hpl
theorem CE.all (hcalm : c.X.calm = true) (hm : c.X.mg "all" = none) (h : CE c e Δ μ (fun d m => ∃ ns : List Bool, LstD m d (ns.map .bl) ∧ Q (.bl (ns.all id)) m) Ex) (hg : Gl c.X "all" := by rfl)
    (he : starEach [e] c.X.env = (false, eval e c.X.env) :: starEach [] c.X.env := by rfl) (hpl : (backTo pos (starEach [] c.X.env)).any (·.1) = false := by rfl) : CE c (.Call (.Name "all" p) [e] [] pos) Δ μ Q Ex :=
  CE.cb (cr_all hcalm) hm bv_all (CA.cons (h.imp fun d m ⟨ns, hs, q⟩ => CA.nil fun vs H QV hH t hQ => by
    cases t with
    | cons t1 r =>
      cases r
      obtain ⟨l, xs, z, hq, h2⟩ := hs.at hH t1
      subst z
      have e := h2.of_bls
      subst e
      exact ⟨l, ns, rfl, hq, hQ _ _ _ _ (Evo.refl hH) (.bl _) q⟩) he) hg (by decide) (by decide) he hpl
/-- list(xs), as data -/
theorem CE.listOf (hm : c.X.mg "list" = none) (h : CE c e Δ μ (fun d m => ∃ ds, SeqD m d ds ∧ Q (.lst ds) m) Ex) (hg : Gl c.X "list" := by rfl)
    (he : starEach [e] c.X.env = (false, eval e c.X.env) :: starEach [] c.X.env := by rfl) (hpl : (backTo pos (starEach [] c.X.env)).any (·.1) = false := by rfl) : CE c (.Call (.Name "list" p) [e] [] pos) Δ μ Q Ex :=
  CE.ct (call_list_of) hm bv_list (CA.cons (h.imp fun d m ⟨ds, hs, q⟩ => CA.nil fun vs H QV hH t hQ => by
    cases t with
    | cons t1 r =>
      cases r
      obtain ⟨l, xs, z, hq, h2⟩ := hs.at hH t1
      subst z
      refine ⟨l, xs, rfl, hq, fun n hn => ?_⟩
      have s1 := same_new (o := .lst xs) hn
      exact hQ _ _ _ _ (evo_same hH s1) (.lst ⟨upd_same, hH.none hn⟩ (h2.keep (keeps_same s1))) q) he) hg (by decide) (by decide) he hpl
/-- tuple(xs) -/
theorem CE.tupleOf (hm : c.X.mg "tuple" = none) (h : CE c e Δ μ (fun d m => ∃ ds, SeqD m d ds ∧ Q (.tup ds) m) Ex) (hg : Gl c.X "tuple" := by rfl)
    (he : starEach [e] c.X.env = (false, eval e c.X.env) :: starEach [] c.X.env := by rfl) (hpl : (backTo pos (starEach [] c.X.env)).any (·.1) = false := by rfl) : CE c (.Call (.Name "tuple" p) [e] [] pos) Δ μ Q Ex :=
  CE.ct (call_tuple_of) hm bv_tuple (CA.cons (h.imp fun d m ⟨ds, hs, q⟩ => CA.nil fun vs H QV hH t hQ => by
    cases t with
    | cons t1 r =>
      cases r
      obtain ⟨l, xs, z, hq, h2⟩ := hs.at hH t1
      subst z
      rcases hq with hq | hq
      · refine ⟨l, xs, rfl, .inl ⟨hq, fun n hn => ?_⟩⟩
        have s1 := same_new (o := .tup xs) hn
        exact hQ _ _ _ _ (evo_same hH s1) (.tup (SqT.of upd_same) (h2.keep (keeps_same s1))) q
      · exact ⟨l, xs, rfl, .inr ⟨hq, hQ _ _ _ _ (Evo.refl hH) (.tup hq h2) q⟩⟩) he) hg (by decide) (by decide) he hpl

/-! ### isinstance of data -/
def D.tyN : D → Option String
  | .non => some "NoneType" | .bl _ => some "bool" | .int _ => some "int" | .str _ => some "str" | .tup _ => some "tuple" | .lst _ => some "list" | _ => none
theorem tyx {K : PySem.W.Frag} {m : Mu} {H : Hp} {v : V} {d : D} {n : String} (t : Dt K m H v d) (h : d.tyN = some n) : TyX K H v (.type n) := by
  cases t with
  | non => cases h; exact .base .non
  | bl b => cases h; exact .base (.bl b)
  | int b => cases h; exact .base (.int b)
  | str b => cases h; exact .base (.str b)
  | ty _ => cases h
  | loc _ => cases h
  | ins _ _ _ => cases h
  | exc _ _ => cases h
  | fz _ _ => cases h
  | tup h1 _ =>
    cases h
    rcases h1 with (h1 | ⟨o, h1⟩) | ⟨o, its, n, h1, h2, _⟩
    · exact .base (.tup h1)
    · exact .fTuple h1
    · exact .kTuple h1 h2
  | lst h1 _ =>
    cases h
    exact .base (.lst h1.1)
def isT (n T : String) : Bool := n == T || (n == "bool" && T == "int")
theorem kitB_is {n T : String} (hn : n ∈ ["NoneType", "bool", "int", "str", "tuple", "list"]) (hT : T ∈ ["bool", "int", "str", "tuple", "list", "dict"]) : kitB n T = some (isT n T) := by
  have z : ∀ n ∈ ["NoneType", "bool", "int", "str", "tuple", "list"], ∀ T ∈ ["bool", "int", "str", "tuple", "list", "dict"], kitB n T = some (isT n T) := by decide +kernel
  exact z n hn T hT
theorem tyN_mem {d : D} {n : String} (h : d.tyN = some n) : n ∈ ["NoneType", "bool", "int", "str", "tuple", "list"] := by
  cases d <;> cases h <;> decide
/-- isinstance(e, T), T a built-in class -/
theorem CE.isi {T : Str} {TS : String} {p2 : Pos} (hm : c.X.mg "isinstance" = none) (hmT : c.X.mg T = none) (hvT : bootBuiltins T = some (.type TS)) (hT : TS ∈ ["bool", "int", "str", "tuple", "list", "dict"])
    (h : CE c e Δ μ (fun d m => ∃ n, d.tyN = some n ∧ Q (.bl (isT n TS)) m) Ex) (hg : Gl c.X "isinstance" := by rfl) (hgT : Gl c.X T := by rfl) (hnT : T ≠ "__name__" := by decide) (hdT : (T == ("__debug__" : Str)) = false := by decide)
    (he : starEach [e, .Name T p2] c.X.env = (false, eval e c.X.env) :: starEach [.Name T p2] c.X.env := by rfl) (he2 : starEach [.Name T p2] c.X.env = (false, eval (.Name T p2) c.X.env) :: starEach [] c.X.env := by rfl)
    (hpl : (backTo pos (starEach [.Name T p2] c.X.env)).any (·.1) = false := by rfl) : CE c (.Call (.Name "isinstance" p) [e, .Name T p2] [] pos) Δ μ Q Ex :=
  CE.cb (call_isi) hm bv_isinstance (CA.cons (h.imp fun d m ⟨n, hn, q⟩ => CA.cons (CE.k (v := .ty TS) (d := .ty TS) (pe_bltn hgT hmT hvT rfl hnT hdT) (fun _ _ => .ty _) (CA.nil fun vs H QV hH t hQ => by
    cases t with
    | cons t1 r =>
      cases r with
      | cons t2 r =>
        cases r; cases t2
        exact ⟨_, _, _, _, _, rfl, .ty _, tyx t1 hn, kit_ty (kitB_is (tyN_mem hn) hT), hQ _ _ _ _ (Evo.refl hH) (.bl _) q⟩)) he2) he) hg (by decide) (by decide) he hpl
/-- isinstance(e, C), C an own class -/
theorem CE.isiC {x : Str} {C : Addr} {p2 : Pos} (hm : c.X.mg "isinstance" = none) (hmC : c.X.mg x = some (.ref C))
    (h : CE c e Δ μ (fun d m => ∃ t k, (∀ v H, HS c.K m H → Dt c.K m H v d → TyX c.K H v t) ∧ PySem.W.kitOne c.K t (.ref C) = some k ∧ Q (.bl k) m) Ex) (hg : Gl c.X "isinstance" := by rfl) (hgC : Gl c.X x := by rfl) (hdT : (x == ("__debug__" : Str)) = false := by decide)
    (he : starEach [e, .Name x p2] c.X.env = (false, eval e c.X.env) :: starEach [.Name x p2] c.X.env := by rfl) (he2 : starEach [.Name x p2] c.X.env = (false, eval (.Name x p2) c.X.env) :: starEach [] c.X.env := by rfl)
    (hpl : (backTo pos (starEach [.Name x p2] c.X.env)).any (·.1) = false := by rfl) : CE c (.Call (.Name "isinstance" p) [e, .Name x p2] [] pos) Δ μ Q Ex :=
  CE.cb (call_isi) hm bv_isinstance (CA.cons (h.imp fun d m ⟨t, k, hn, hk, q⟩ => CA.cons (CE.k (v := .ref C) (d := .loc C) (pe_glob hgC hmC rfl hdT) (fun _ _ => .loc _) (CA.nil fun vs H QV hH t hQ => by
    cases t with
    | cons t1 r =>
      cases r with
      | cons t2 r =>
        cases r; cases t2
        exact ⟨_, _, _, _, _, rfl, .own C, hn _ _ hH t1, hk, hQ _ _ _ _ (Evo.refl hH) (.bl _) q⟩)) he2) he) hg (by decide) (by decide) he hpl

/-! ### in -/
def D.flat : D → Bool
  | .non => true | .bl _ => true | .int _ => true | .str _ => true | _ => false
def eqFD : D → D → Bool
  | .int i, .int j => i == j
  | .str i, .str j => i == j
  | .bl i, .bl j => i == j
  | .non, .non => true
  | .bl b, .int j => (if b then 1 else 0) == j
  | .int j, .bl b => j == (if b then 1 else 0)
  | _, _ => false
def inD (d : D) (ds : List D) : Bool := ds.any fun y => eqFD y d
end
end AM

set_option autoImplicit false
set_option maxRecDepth 100000
set_option maxHeartbeats 1000000
namespace AM
open PySem L2 PySem.Spec PyProof.Rows
section
variable {K : PySem.W.Frag} {m : Mu} {H : Hp}
theorem flat_of {v : V} {d : D} (t : Dt K m H v d) (h : d.flat = true) : flatV v = true := by
  cases t <;> first | rfl | cases h
theorem eqV_of {v u : V} {d e : D} (t : Dt K m H v d) (r : Dt K m H u e) (h : d.flat = true) (h' : e.flat = true) : eqV v u = eqFD d e := by
  cases t <;> first | (cases r <;> first | rfl | cases h') | cases h
theorem flats_of : ∀ {xs : List V} {ds : List D}, Dts K m H xs ds → ds.all D.flat = true → xs.all flatV = true
  | _, _, .nil, _ => rfl
  | _, _, .cons t r, h => by
    rw [List.all_cons, Bool.and_eq_true] at h ⊢
    exact ⟨flat_of t h.1, flats_of r h.2⟩
theorem inV_of {v : V} {d : D} (t : Dt K m H v d) (hd : d.flat = true) : ∀ {xs : List V} {ds : List D}, Dts K m H xs ds → ds.all D.flat = true → inV v xs = inD d ds
  | _, _, .nil, _ => rfl
  | _, _, .cons t1 r, h => by
    rw [List.all_cons, Bool.and_eq_true] at h
    have ih := inV_of t hd r h.2
    unfold inV inD at ih ⊢
    rw [List.any_cons, List.any_cons, ih, eqV_of t1 t h.1 hd]
theorem dts_at {xs : List V} {ds : List D} {j : Int} {d : D} (t : Dts K m H xs ds) (h : atI ds j = some d) : ∃ v, atI xs j = some v ∧ Dt K m H v d := by
  unfold atI at h ⊢
  rw [t.length]
  cases e : ixN ds.length j with
  | none => rw [e] at h; cases h
  | some n =>
    rw [e] at h
    exact t.get h
def cutD (xs : List D) (lo hi : Option Int) : List D := (xs.drop (HT.sIx xs.length 0 lo)).take (HT.sIx xs.length xs.length hi - HT.sIx xs.length 0 lo)
theorem cut_of {xs : List V} {ds : List D} (t : Dts K m H xs ds) (lo hi : Option Int) : Dts K m H (cutV xs lo hi) (cutD ds lo hi) := by
  unfold cutV cutD
  rw [t.length]
  exact (t.drop _).take _
end
section
variable {c : Ctx} {e a b : Expr} {es : List Expr} {Δ : Sl} {μ : Mu} {Q Q' : D → Mu → Prop} {QB QB' : Bool → Mu → Prop} {QA QA' : List D → Mu → Prop} {Ex Ex' : XD} {pos p apos : Pos} {E E' : DE} {st : Stmt} {sts : List Stmt}
/-! ### in -/
abbrev PIn (neg : Bool) (Q : D → Mu → Prop) : D → D → Mu → Prop := fun d1 d2 m => ∃ ds, SeqD m d2 ds ∧ d1.flat = true ∧ ds.all D.flat = true ∧ Q (.bl (if neg then !inD d1 ds else inD d1 ds)) m
theorem r_in {neg : Bool} (x y : V) (d1 d2 : D) (m : Mu) (H : Hp) (QV : VK) (pp : PIn neg Q d1 d2 m) (hs : HS c.K m H) (t1 : Dt c.K m H x d1) (t2 : Dt c.K m H y d2) (hQ : WantV c m H Q QV) : rIn c.K neg x y H QV := by
  obtain ⟨ds, hd, h1, h2, q⟩ := pp
  obtain ⟨l, xs, z, hq, h3⟩ := hd.at hs t2
  subst z
  refine ⟨l, xs, rfl, hq, flat_of t1 h1, flats_of h3 h2, ?_⟩
  rw [inV_of t1 h1 h3 h2]
  exact hQ _ _ _ _ (Evo.refl hs) (.bl _) q
theorem CE.inq (h : CE c a Δ μ (fun d1 m => CE c b Δ m (fun d2 m' => PIn false Q d1 d2 m') Ex) Ex) (hm : behindInMarks .In b = false := by rfl) : CE c (.Compare a [.In] [b] pos) Δ μ Q Ex := CE.cmp op_in_seq hm r_in h
theorem CE.notin (h : CE c a Δ μ (fun d1 m => CE c b Δ m (fun d2 m' => PIn true Q d1 d2 m') Ex) Ex) (hm : behindInMarks .NotIn b = false := by rfl) : CE c (.Compare a [.NotIn] [b] pos) Δ μ Q Ex := CE.cmp op_notIn_seq hm r_in h
theorem CT.inq (h : CE c a Δ μ (fun d1 m => CE c b Δ m (fun d2 m' => PIn false (fun d m' => ∃ k, d = .bl k ∧ QB k m') d1 d2 m') Ex) Ex) (hm : behindInMarks .In b = false := by rfl) : CT c (.Compare a [.In] [b] pos) Δ μ QB Ex := CT.cmp op_in_seq hm r_in h
theorem CT.notin (h : CE c a Δ μ (fun d1 m => CE c b Δ m (fun d2 m' => PIn true (fun d m' => ∃ k, d = .bl k ∧ QB k m') d1 d2 m') Ex) Ex) (hm : behindInMarks .NotIn b = false := by rfl) : CT c (.Compare a [.NotIn] [b] pos) Δ μ QB Ex := CT.cmp op_notIn_seq hm r_in h

/-! ### places, slices -/
theorem CE.ix (h : CE c a Δ μ (fun d1 m => CE c b Δ m (fun d2 m' => ∃ ds j v, SeqD m' d1 ds ∧ d2 = .int j ∧ atI ds j = some v ∧ Q v m') Ex) Ex) (hp : PlainIx b := by exact fun _ _ => rfl) : CE c (.Subscript a b pos) Δ μ Q Ex := by
  intro σ H ok hs QV hQ hX
  refine ⟨_, pe_ix ix_seq pe_w pe_w hp, ?_⟩
  refine h σ H ok hs _ (fun x d1 m1 H1 e1 t1 q1 => ?_) hX
  refine q1 σ H1 (ok.evo e1) e1.s _ (fun y d2 m2 H2 e2 t2 ⟨ds, j, v, hd, z, hv, q⟩ => ?_) (hX.evo e1)
  subst z
  cases t2
  obtain ⟨l, xs, z, hq, h3⟩ := hd.at e2.s (e2.dt t1)
  subst z
  obtain ⟨u, h4, h5⟩ := dts_at h3 hv
  have fin := hQ _ _ _ _ (e1.trans e2) h5 q
  rcases hq with hq | hq
  · exact .inl ⟨l, xs, j, u, rfl, rfl, hq, h4, fin⟩
  · exact .inr (.inl ⟨l, xs, j, u, rfl, rfl, hq, h4, fin⟩)
def CO (c : Ctx) (e : Option Expr) (Δ : Sl) (μ : Mu) (Q : Option Int → Mu → Prop) (Ex : XD) : Prop :=
  ∀ σ H, OkS c.K μ H σ Δ → HS c.K μ H → ∀ QV : Option Int → Hp → Prop, (∀ o μ' H', Evo c.K μ H μ' H' → Q o μ' → QV o H') → WantX c Δ σ μ H Ex → ∃ t, PO c.X e t ∧ t σ H QV
theorem CO.none {QO : Option Int → Mu → Prop} (q : QO none μ) : CO c none Δ μ QO Ex := fun σ H ok hs QV hQ hX => ⟨_, po_none, hQ _ _ _ (Evo.refl hs) q⟩
theorem CO.some {QO : Option Int → Mu → Prop} (h : CE c e Δ μ (fun d m => ∃ i, d = .int i ∧ QO (some i) m) Ex) : CO c (some e) Δ μ QO Ex := fun σ H ok hs QV hQ hX => ⟨_, po_some pe_w, h σ H ok hs _ (fun v d m H' ev t ⟨i, z, q⟩ => by
  subst z; cases t
  exact ⟨i, rfl, hQ _ _ _ ev q⟩) hX⟩
def wO (X : Cx) (e : Option Expr) : TO := fun σ H Q => ∃ t, PO X e t ∧ t σ H Q
theorem po_w {X : Cx} {e : Option Expr} : PO X e (wO X e) := ⟨fun pins s σ H Q I ⟨_, h, q⟩ => h.run pins s σ H Q I q⟩
def rSlX (K : PySem.W.Frag) : V → Option Int → Option Int → Hp → VK → Prop := fun x lo hi H Q => rSlL K x lo hi H Q ∨ rSlA K x lo hi H Q
theorem CE.sl {lo hi : Option Expr} {p2 : Pos} (h : CE c a Δ μ (fun d m => CO c lo Δ m (fun l m1 => CO c hi Δ m1 (fun u m2 => (∃ ds, LstD m2 d ds ∧ Q (.lst (cutD ds l u)) m2) ∨ ∃ ds, d = .tup ds ∧ Q (.tup (cutD ds l u)) m2) Ex) Ex) Ex) : CE c (.Subscript a (.Slice lo hi none p2) pos) Δ μ Q Ex := by
  intro σ H ok hs QV hQ hX
  refine ⟨_, pe_slice (r := rSlX c.K) (sl_list.or sl_tupA) pe_w po_w po_w, ?_⟩
  refine h σ H ok hs _ (fun x d m1 H1 e1 t1 q1 => ?_) hX
  refine q1 σ H1 (ok.evo e1) e1.s _ (fun l m2 H2 e2 q2 => ?_) (hX.evo e1)
  refine q2 σ H2 (ok.evo (e1.trans e2)) e2.s _ (fun u m3 H3 e3 q3 => ?_) (hX.evo (e1.trans e2))
  have e := (e1.trans e2).trans e3
  rcases q3 with ⟨ds, hd, q⟩ | ⟨ds, z, q⟩
  · obtain ⟨r, xs, z, hq, h3⟩ := hd.at e3.s ((e2.trans e3).dt t1)
    subst z
    refine .inl ⟨r, xs, rfl, hq, fun n hn => ?_⟩
    have s1 := same_new (o := .lst (cutV xs l u)) hn
    exact hQ _ _ _ _ (e.trans (evo_same e3.s s1)) (.lst ⟨upd_same, e3.s.none hn⟩ ((cut_of h3 l u).keep (keeps_same s1))) q
  · subst z
    cases (e2.trans e3).dt t1 with
    | tup hq h3 =>
      rename_i r xs
      refine .inr ⟨r, xs, rfl, hq, fun hw => ?_, fun hw n hn => ?_⟩
      · have ec : cutD ds l u = ds := by
          unfold cutD
          rw [← h3.length, hw.1, hw.2, List.drop_zero, h3.length]
          exact List.take_length
        rw [ec] at q
        exact hQ _ _ _ _ e (.tup hq h3) q
      · have s1 := same_new (o := .tup (cutV xs l u)) hn
        exact hQ _ _ _ _ (e.trans (evo_same e3.s s1)) (.tup (SqT.of upd_same) ((cut_of h3 l u).keep (keeps_same s1))) q

/-! ### + and * of lists and tuples -/
theorem LstD.lst {K : PySem.W.Frag} {m : Mu} {H : Hp} {d : D} {ds : List D} {v : V} (h : LstD m d ds) (hs : HS K m H) (t : Dt K m H v d) : ∃ q xs, v = .ref q ∧ H q = some (.lst xs) ∧ Dts K m H xs ds := by
  rcases h with rfl | ⟨l, rfl, hm⟩
  · cases t with
    | lst h1 h2 => exact ⟨_, _, rfl, h1.1, h2⟩
  · cases t
    obtain ⟨xs, h1, h2⟩ := hs l _ hm
    exact ⟨l, xs, rfl, h1, h2⟩
theorem big {n : Nat} (h : n ≤ 1000000) : n ≤ sizeLine := Nat.le_trans h (by decide)
theorem bigl {n : Nat} (h : n ≤ 1000000) : n < sizeLine := Nat.lt_of_le_of_lt h (by decide)
theorem CE.catL (h : CE c a Δ μ (fun d1 m => CE c b Δ m (fun d2 m' => ∃ ds es, LstD m' d1 ds ∧ LstD m' d2 es ∧ ds.length + es.length ≤ 1000000 ∧ Q (.lst (ds ++ es)) m') Ex) Ex) : CE c (.BinOp a .Add b pos) Δ μ Q Ex :=
  CE.bin op_cat (fun x y d1 d2 m H QV ⟨ds, es, h1, h2, hl, q⟩ hs t1 t2 hQ => by
    obtain ⟨l, xs, z, h3, h4⟩ := h1.lst hs t1
    obtain ⟨r, ys, z2, h5, h6⟩ := h2.lst hs t2
    subst z; subst z2
    refine ⟨l, r, xs, ys, rfl, rfl, h3, h5, by rw [h4.length, h6.length]; exact big hl, fun n hn => ?_⟩
    have s1 := same_new (o := .lst (xs ++ ys)) hn
    exact hQ _ _ _ _ (evo_same hs s1) (.lst ⟨upd_same, hs.none hn⟩ ((h4.append h6).keep (keeps_same s1))) q) h
theorem CE.repL (h : CE c a Δ μ (fun d1 m => CE c b Δ m (fun d2 m' => ∃ ds k, LstD m' d1 ds ∧ d2 = .int k ∧ -(2 ^ 63) ≤ k ∧ k < 2 ^ 63 ∧ ds.length * k.toNat ≤ 1000000 ∧ Q (.lst (List.replicate k.toNat ds).flatten) m') Ex) Ex) : CE c (.BinOp a .Mult b pos) Δ μ Q Ex :=
  CE.bin op_rep (fun x y d1 d2 m H QV ⟨ds, k, h1, z2, k1, k2, hl, q⟩ hs t1 t2 hQ => by
    obtain ⟨l, xs, z, h3, h4⟩ := h1.lst hs t1
    subst z; subst z2
    cases t2
    refine ⟨l, k, xs, rfl, rfl, h3, k1, k2, by rw [h4.length]; exact big hl, fun n hn => ?_⟩
    have s1 := same_new (o := .lst (List.replicate k.toNat xs).flatten) hn
    exact hQ _ _ _ _ (evo_same hs s1) (.lst ⟨upd_same, hs.none hn⟩ ((h4.rep _).keep (keeps_same s1))) q) h
theorem CE.catT (h : CE c a Δ μ (fun d1 m => CE c b Δ m (fun d2 m' => ∃ ds es, d1 = .tup ds ∧ d2 = .tup es ∧ ds.length + es.length ≤ 1000000 ∧ Q (.tup (ds ++ es)) m') Ex) Ex) : CE c (.BinOp a .Add b pos) Δ μ Q Ex :=
  CE.bin op_catA (fun x y d1 d2 m H QV ⟨ds, es, h1, h2, hl, q⟩ hs t1 t2 hQ => by
    subst h1; subst h2
    cases t1 with
    | tup h3 h4 =>
      cases t2 with
      | tup h5 h6 =>
        rename_i l xs r ys
        refine ⟨l, r, xs, ys, rfl, rfl, h3, h5, by rw [h4.length, h6.length]; exact big hl, fun z => ?_, fun _ z => ?_, fun _ _ n hn => ?_⟩
        · subst z
          cases h4
          exact hQ _ _ _ _ (Evo.refl hs) (.tup h5 h6) q
        · subst z
          cases h6
          rw [List.append_nil] at q
          exact hQ _ _ _ _ (Evo.refl hs) (.tup h3 h4) q
        · have s1 := same_new (o := .tup (xs ++ ys)) hn
          exact hQ _ _ _ _ (evo_same hs s1) (.tup (SqT.of upd_same) ((h4.append h6).keep (keeps_same s1))) q) h

/-! ### methods of lists and texts -/
def PM (c : Ctx) (r : V → List V → Hp → VK → Prop) (d : D) (ds : List D) (m : Mu) (Q : D → Mu → Prop) : Prop :=
  ∀ v vs H QV, HS c.K m H → Dt c.K m H v d → Dts c.K m H vs ds → WantV c m H Q QV → r v vs H QV
theorem tyV_list {l : Addr} {ds : List D} {m : Mu} {H : Hp} (hs : HS c.K m H) (hm : m l = some (.l ds)) : tyV c.K "list" (.ref l) H := by
  obtain ⟨xs, h1, _⟩ := hs l _ hm
  exact .inl ⟨rfl, xs, .inl (.inl h1)⟩
theorem CE.bmL {id : String} {r : V → List V → Hp → VK → Prop} {o : Expr} {name : Str} (slot : Slot "list" name id) (hty : typeOf (.builtin id) = pure (.type "method_descriptor")) (hmt : MtR c.X id r)
    (h : CE c o Δ μ (fun d m => ∃ l ds, d = .loc l ∧ m l = some (.l ds) ∧ CA c (e :: es) Δ m (fun vs m' => PM c r d vs m' Q) Ex) Ex)
    (hp : ∀ to ta, PE c.X o to → PA c.X (e :: es) ta → PE c.X (.Call (.Attribute o name apos) (e :: es) [] pos) (tBM c.K "list" r to ta)) : CE c (.Call (.Attribute o name apos) (e :: es) [] pos) Δ μ Q Ex := by
  intro σ H ok hs QV hQ hX
  refine ⟨_, hp _ _ pe_w pa_w, h σ H ok hs _ (fun v d m1 H1 e1 t1 ⟨l, ds, z, hm, q⟩ => ?_) hX⟩
  subst z
  cases t1
  refine ⟨tyV_list e1.s hm, q σ H1 (ok.evo e1) e1.s _ (fun vs us m2 H2 e2 t2 q2 => ?_) (hX.evo e1)⟩
  exact q2 _ vs H2 QV e2.s (.loc l) t2 (WantV.evo hQ (e1.trans e2))
theorem CE.bmL0 {id : String} {r : V → List V → Hp → VK → Prop} {o : Expr} {name : Str} (slot : Slot "list" name id) (hty : typeOf (.builtin id) = pure (.type "method_descriptor")) (hmt : MtR c.X id r)
    (h : CE c o Δ μ (fun d m => ∃ l ds, d = .loc l ∧ m l = some (.l ds) ∧ PM c r d [] m Q) Ex)
    (hp : ∀ to, PE c.X o to → PE c.X (.Call (.Attribute o name apos) [] [] pos) (tBM0 c.K "list" r to)) : CE c (.Call (.Attribute o name apos) [] [] pos) Δ μ Q Ex := by
  intro σ H ok hs QV hQ hX
  refine ⟨_, hp _ pe_w, h σ H ok hs _ (fun v d m1 H1 e1 t1 ⟨l, ds, z, hm, q⟩ => ?_) hX⟩
  subst z
  cases t1
  exact ⟨tyV_list e1.s hm, q _ [] H1 QV e1.s (.loc l) .nil (WantV.evo hQ e1)⟩
theorem pm_append {l : Addr} {ds : List D} {d : D} {m : Mu} (hm : m l = some (.l ds)) (hl : ds.length ≤ 1000000) (q : Q .non (m.set l (.l (ds ++ [d])))) : PM c rAppend (.loc l) [d] m Q := by
  intro v vs H QV hs t1 t2 hQ
  cases t1
  cases t2 with
  | cons t2 r =>
    cases r
    obtain ⟨xs, h1, h2⟩ := hs l _ hm
    have k := keeps_set (m := .l (ds ++ [d])) (o := .lst (xs ++ [‹V›])) hs hm
    exact ⟨l, xs, _, rfl, rfl, h1, by rw [h2.length]; exact bigl hl, hQ _ _ _ _ (evo_set (m := .l (ds ++ [d])) hs hm ⟨_, upd_same, (h2.append (.cons t2 .nil)).keep k⟩) .non q⟩
theorem pm_extend {l : Addr} {ds es : List D} {d : D} {m : Mu} (hm : m l = some (.l ds)) (hd : LstD m d es) (hl : ds.length + es.length ≤ 1000000) (q : Q .non (m.set l (.l (ds ++ es)))) : PM c rExtend (.loc l) [d] m Q := by
  intro v vs H QV hs t1 t2 hQ
  cases t1
  cases t2 with
  | cons t2 r =>
    cases r
    obtain ⟨xs, h1, h2⟩ := hs l _ hm
    obtain ⟨b, ys, z, h3, h4⟩ := hd.lst hs t2
    subst z
    have k := keeps_set (m := .l (ds ++ es)) (o := .lst (xs ++ ys)) hs hm
    exact ⟨l, b, xs, ys, rfl, rfl, h1, h3, by rw [h2.length, h4.length]; exact big hl, hQ _ _ _ _ (evo_set (m := .l (ds ++ es)) hs hm ⟨_, upd_same, (h2.append h4).keep k⟩) .non q⟩
theorem pm_pop {l : Addr} {ds : List D} {d : D} {m : Mu} (hm : m l = some (.l ds)) (hd : ds[ds.length - 1]? = some d) (q : Q d (m.set l (.l ds.dropLast))) : PM c rPop (.loc l) [] m Q := by
  intro v vs H QV hs t1 t2 hQ
  cases t1
  cases t2
  obtain ⟨xs, h1, h2⟩ := hs l _ hm
  obtain ⟨u, h3, h4⟩ := h2.get hd
  have k := keeps_set (m := .l ds.dropLast) (o := .lst xs.dropLast) hs hm
  exact ⟨l, xs, u, rfl, rfl, h1, by rw [h2.length]; exact h3, hQ _ _ _ _ (evo_set (m := .l ds.dropLast) hs hm ⟨_, upd_same, h2.dropLast.keep k⟩) (h4.keep k) q⟩
theorem pm_popAt {l : Addr} {ds : List D} {d : D} {i : Int} {n : Nat} {m : Mu} (hm : m l = some (.l ds)) (hi : -(2 ^ 63) ≤ i) (hi' : i < 2 ^ 63) (hn : seqIndex? i ds.length = some n) (hd : ds[n]? = some d) (q : Q d (m.set l (.l (ds.eraseIdx n)))) : PM c rPopAt (.loc l) [.int i] m Q := by
  intro v vs H QV hs t1 t2 hQ
  cases t1
  cases t2 with
  | cons t2 r =>
    cases r; cases t2
    obtain ⟨xs, h1, h2⟩ := hs l _ hm
    obtain ⟨u, h3, h4⟩ := h2.get hd
    have k := keeps_set (m := .l (ds.eraseIdx n)) (o := .lst (xs.eraseIdx n)) hs hm
    exact ⟨l, xs, i, n, u, rfl, rfl, h1, hi, hi', by rw [h2.length]; exact hn, h3, hQ _ _ _ _ (evo_set (m := .l (ds.eraseIdx n)) hs hm ⟨_, upd_same, (h2.eraseIdx n).keep k⟩) (h4.keep k) q⟩
theorem CE.join {o : Expr} (h : CE c o Δ μ (fun d m => ∃ sep, d = .str sep ∧ CE c e Δ m (fun d2 m' => ∃ ys : List Str, LstD m' d2 (ys.map .str) ∧ (ys.map (·.length)).sum + ys.length * sep.length ≤ 1000000 ∧ Q (.str (Txt.join sep ys)) m') Ex) Ex)
    (hs : starEach [e] c.X.env = [(false, eval e c.X.env)] := by rfl) (hbase : attributeBase o "join" c.X.env (eval o c.X.env) = eval o c.X.env := by rfl) (hline : (apos.endLine == pos.line) = true := by rfl) : CE c (.Call (.Attribute o "join" apos) [e] [] pos) Δ μ Q Ex := by
  intro σ H ok hss QV hQ hX
  refine ⟨_, pe_join pe_w pe_w hs hbase hline, h σ H ok hss _ (fun v d m1 H1 e1 t1 ⟨sep, z, q⟩ => ?_) hX⟩
  subst z
  cases t1
  refine ⟨⟨_, rfl⟩, q σ H1 (ok.evo e1) e1.s _ (fun v2 d2 m2 H2 e2 t2 ⟨ys, hd, hl, q2⟩ => ?_) (hX.evo e1)⟩
  obtain ⟨l, xs, z, hq, h3⟩ := hd.at e2.s t2
  subst z
  have e := h3.of_strs
  subst e
  exact ⟨sep, l, ys, rfl, rfl, .inl hq, Nat.le_trans hl (by decide), hQ _ _ _ _ (e1.trans e2) (.str _) q2⟩
theorem CE.split {o : Expr} (h : CE c o Δ μ (fun d m => ∃ s, d = .str s ∧ CE c e Δ m (fun d2 m' => ∃ sep, d2 = .str sep ∧ (sep.length == 0) = false ∧ s.length + 2 ≤ 1000000 ∧ Q (.lst ((Txt.split s sep).map .str)) m') Ex) Ex)
    (hs : starEach [e] c.X.env = [(false, eval e c.X.env)] := by rfl) (hbase : attributeBase o "split" c.X.env (eval o c.X.env) = eval o c.X.env := by rfl) (hline : (apos.endLine == pos.line) = true := by rfl) : CE c (.Call (.Attribute o "split" apos) [e] [] pos) Δ μ Q Ex := by
  intro σ H ok hss QV hQ hX
  refine ⟨_, pe_split pe_w pe_w hs hbase hline, h σ H ok hss _ (fun v d m1 H1 e1 t1 ⟨s, z, q⟩ => ?_) hX⟩
  subst z
  cases t1
  refine ⟨⟨_, rfl⟩, q σ H1 (ok.evo e1) e1.s _ (fun v2 d2 m2 H2 e2 t2 ⟨sep, z, h1, h2, q2⟩ => ?_) (hX.evo e1)⟩
  subst z
  cases t2
  refine ⟨s, sep, rfl, rfl, h1, big h2, fun n hn => ?_⟩
  have s1 := same_new (o := .lst ((Txt.split s sep).map V.str)) hn
  exact hQ _ _ _ _ ((e1.trans e2).trans (evo_same e2.s s1)) (.lst ⟨upd_same, e2.s.none hn⟩ (Dts.strs _)) q2
end

/-! ### what is walked -/
structure Walks (K : PySem.W.Frag) (J : It) (ds : List D) (μ0 : Mu) (H0 : Hp) : Prop where
  go : ∀ μ H i, Evo K μ0 H0 μ H → i < ds.length → J.go i H
  yld : ∀ μ H i x H', Evo K μ0 H0 μ H → i < ds.length → J.yld i H x H' → ∃ d, ds[i]? = some d ∧ Dt K μ H' x d ∧ Evo K μ H μ H'
  stop : ∀ μ H, Evo K μ0 H0 μ H → J.stop ds.length H
def CI (c : Ctx) (tg e : Expr) (Δ : Sl) (μ : Mu) (Q : List D → Mu → Prop) (Ex : XD) : Prop :=
  ∀ σ H, OkS c.K μ H σ Δ → HS c.K μ H → ∀ R : It → Hp → Prop, (∀ J ds μ' H', Evo c.K μ H μ' H' → Walks c.K J ds μ' H' → Q ds μ' → R J H') → WantX c Δ σ μ H Ex → ∃ w, PI c.X tg e w ∧ w σ H R
def wI (X : Cx) (tg e : Expr) : TI := fun σ H R => ∃ w, PI X tg e w ∧ w σ H R
theorem pi_w {X : Cx} {tg e : Expr} : PI X tg e (wI X tg e) := ⟨fun pins s σ H Q I ⟨_, h, q⟩ => h.run pins s σ H Q I q⟩
section
variable {c : Ctx} {e a b tg : Expr} {es : List Expr} {Δ : Sl} {μ : Mu} {Q Q' : D → Mu → Prop} {QB QB' : Bool → Mu → Prop} {QA QA' : List D → Mu → Prop} {Ex Ex' : XD} {pos p apos : Pos} {E E' : DE} {st : Stmt} {sts : List Stmt}
/-- a list that stays -/
def StayL (d : D) (ds : List D) : Prop := d = .lst ds ∨ d = .fz ds
theorem StayL.at {K : PySem.W.Frag} {m : Mu} {H : Hp} {d : D} {ds : List D} {v : V} (h : StayL d ds) (t : Dt K m H v d) : ∃ q xs, v = .ref q ∧ SqL K H q xs ∧ Dts K m H xs ds := by
  rcases h with rfl | rfl
  · cases t with
    | lst h1 h2 => exact ⟨_, _, rfl, h1.sq, h2⟩
  · cases t with
    | fz h1 h2 => exact ⟨_, _, rfl, h1.sq, h2⟩
theorem CI.list (h : CE c e Δ μ (fun d m => ∃ ds, StayL d ds ∧ QA ds m) Ex) : CI c tg e Δ μ QA Ex := by
  intro σ H ok hs R hR hX
  refine ⟨_, pi_list pe_w, h σ H ok hs _ (fun v d m H1 ev t ⟨ds, hd, q⟩ => ?_) hX⟩
  obtain ⟨l, xs, z, hq, h3⟩ := hd.at t
  subst z
  refine ⟨l, rfl, ⟨xs, hq⟩, hR _ ds _ _ ev ⟨fun μ2 H2 i e2 hi => ?_, fun μ2 H2 i x H' e2 hi y => ?_, fun μ2 H2 e2 => ?_⟩ q⟩
  · obtain ⟨l', ys, z, h4, h5⟩ := hd.at (e2.dt t)
    cases z
    exact ⟨ys, ys[i]'(by rw [h5.length]; exact hi), h4, by simp⟩
  · obtain ⟨rfl, y⟩ := y
    obtain ⟨l', ys, z, h4, h5⟩ := hd.at (e2.dt t)
    cases z
    obtain ⟨d', h6, h7⟩ := h5.get' (y ys h4)
    exact ⟨d', h6, h7, Evo.refl e2.s⟩
  · obtain ⟨l', ys, z, h4, h5⟩ := hd.at (e2.dt t)
    cases z
    exact ⟨ys, h4, by rw [h5.length]; exact Nat.le_refl _⟩
theorem CI.tup (h : CE c e Δ μ (fun d m => ∃ ds, d = .tup ds ∧ QA ds m) Ex) : CI c tg e Δ μ QA Ex := by
  intro σ H ok hs R hR hX
  refine ⟨_, pi_tup pe_w, h σ H ok hs _ (fun v d m H1 ev t ⟨ds, hd, q⟩ => ?_) hX⟩
  subst hd
  cases t with
  | tup hq h3 =>
    rename_i l xs
    have at_ : ∀ {μ2 H2}, Evo c.K m H1 μ2 H2 → ∃ ys, SqT c.K H2 l ys ∧ Dts c.K μ2 H2 ys ds := fun {μ2 H2} e2 => ⟨xs, e2.k.t _ _ hq, e2.dts h3⟩
    refine ⟨l, rfl, ⟨xs, hq⟩, hR _ ds _ _ ev ⟨fun μ2 H2 i e2 hi => ?_, fun μ2 H2 i x H' e2 hi y => ?_, fun μ2 H2 e2 => ?_⟩ q⟩
    · obtain ⟨ys, h4, h5⟩ := at_ e2
      exact ⟨ys, ys[i]'(by rw [h5.length]; exact hi), h4, by simp⟩
    · obtain ⟨rfl, y⟩ := y
      obtain ⟨ys, h4, h5⟩ := at_ e2
      obtain ⟨d', h6, h7⟩ := h5.get' (y ys h4)
      exact ⟨d', h6, h7, Evo.refl e2.s⟩
    · obtain ⟨ys, h4, h5⟩ := at_ e2
      exact ⟨ys, h4, by rw [h5.length]; exact Nat.le_refl _⟩
/-- the ints from lo, n of them, by steps of s -/
def rngD (lo s : Int) (n : Nat) : List D := (List.range n).map fun (i : Nat) => .int (lo + (i : Int) * s)
theorem rngD_len (lo s : Int) (n : Nat) : (rngD lo s n).length = n := by unfold rngD; simp
theorem rngD_get {lo s : Int} {n i : Nat} (h : i < n) : (rngD lo s n)[i]? = some (.int (lo + (i : Int) * s)) := by
  unfold rngD; simp [h]
theorem walks_rng {K : PySem.W.Frag} {m : Mu} {H : Hp} {lo : Int} {n : Nat} : Walks K (Itr lo n) (rngD lo 1 n) m H :=
  ⟨fun μ2 H2 i _ hi => by rw [rngD_len] at hi; exact hi, fun μ2 H2 i x H' e2 hi y => by
    rw [rngD_len] at hi
    obtain ⟨rfl, rfl⟩ := y
    exact ⟨_, rngD_get hi, by rw [Int.mul_one]; exact .int _, Evo.refl e2.s⟩, fun μ2 H2 _ => by rw [rngD_len]; exact Nat.le_refl _⟩
theorem walks_rngC {K : PySem.W.Frag} {m : Mu} {H : Hp} {lo s : Int} {n : Nat} : Walks K (Itc lo s n) (rngD lo s n) m H :=
  ⟨fun μ2 H2 i _ hi => by rw [rngD_len] at hi; exact hi, fun μ2 H2 i x H' e2 hi y => by
    rw [rngD_len] at hi
    obtain ⟨rfl, rfl⟩ := y
    exact ⟨_, rngD_get hi, .int _, Evo.refl e2.s⟩, fun μ2 H2 _ => by rw [rngD_len]; exact Nat.le_refl _⟩
theorem CI.range1 (hm : c.X.mg "range" = none) (h : CE c e Δ μ (fun d m => ∃ j, d = .int j ∧ -(2 ^ 62) ≤ j ∧ j < 2 ^ 62 ∧ QA (rngD 0 1 j.toNat) m) Ex) (hg : Gl c.X "range" := by rfl)
    (hst : starEach [e] c.X.env = [(false, eval e c.X.env)] := by rfl) : CI c tg (.Call (.Name "range" p) [e] [] pos) Δ μ QA Ex := by
  intro σ H ok hs R hR hX
  refine ⟨_, pi_range1 hg hm (pa_cons pe_w pa_nil hst) hst, h σ H ok hs _ (fun v d m H1 ev t ⟨j, z, h1, h2, q⟩ => ?_) hX⟩
  subst z
  cases t
  exact ⟨j, rfl, h1, h2, hR _ _ _ _ ev walks_rng q⟩
theorem CI.range2 (hm : c.X.mg "range" = none) (h : CA c [a, b] Δ μ (fun ds m => ∃ i j, ds = [.int i, .int j] ∧ (-(2 ^ 62) ≤ i ∧ i < 2 ^ 62 ∧ -(2 ^ 62) ≤ j ∧ j < 2 ^ 62) ∧ QA (rngD i 1 (j - i).toNat) m) Ex) (hg : Gl c.X "range" := by rfl)
    (hst : starEach [a, b] c.X.env = [(false, eval a c.X.env), (false, eval b c.X.env)] := by rfl) (hst2 : starEach [b] c.X.env = [(false, eval b c.X.env)] := by rfl) : CI c tg (.Call (.Name "range" p) [a, b] [] pos) Δ μ QA Ex := by
  intro σ H ok hs R hR hX
  refine ⟨_, pi_range2 hg hm pa_w hst hst2, h σ H ok hs _ (fun vs ds m H1 ev t ⟨i, j, z, h1, q⟩ => ?_) hX⟩
  subst z
  cases t with
  | cons t r => cases r with
    | cons t2 r =>
      cases r; cases t; cases t2
      exact ⟨i, j, rfl, h1, hR _ _ _ _ ev walks_rng q⟩
theorem CI.range3 {d : Expr} (hm : c.X.mg "range" = none) (h : CA c [a, b, d] Δ μ (fun ds m => ∃ i j s n, ds = [.int i, .int j, .int s] ∧ RgC i j s n ∧ QA (rngD i s n) m) Ex) (hg : Gl c.X "range" := by rfl)
    (hst : starEach [a, b, d] c.X.env = (false, eval a c.X.env) :: starEach [b, d] c.X.env := by rfl) (hpl : (backTo pos (starEach [b, d] c.X.env)).any (·.1) = false := by rfl) : CI c tg (.Call (.Name "range" p) [a, b, d] [] pos) Δ μ QA Ex := by
  intro σ H ok hs R hR hX
  refine ⟨_, pi_range3 hg hm pa_w hst hpl, h σ H ok hs _ (fun vs ds m H1 ev t ⟨i, j, s, n, z, h1, q⟩ => ?_) hX⟩
  subst z
  cases t with
  | cons t r => cases r with
    | cons t2 r => cases r with
      | cons t3 r =>
        cases r; cases t; cases t2; cases t3
        exact ⟨i, j, s, n, rfl, h1, hR _ _ _ _ ev walks_rngC q⟩
/-- the items with their places -/
def enumD (ds : List D) : List D := (List.range ds.length).map fun i => .tup [.int (i : Nat), ds.getD i .non]
theorem enumD_len (ds : List D) : (enumD ds).length = ds.length := by unfold enumD; simp
theorem enumD_get {ds : List D} {i : Nat} {d : D} (h : ds[i]? = some d) : (enumD ds)[i]? = some (.tup [.int (i : Nat), d]) := by
  have hl : i < ds.length := (List.getElem?_eq_some_iff.mp h).1
  have e : ds.getD i .non = d := by rw [List.getD_eq_getElem?_getD, h]; rfl
  unfold enumD
  rw [List.getElem?_map, List.getElem?_range hl, Option.map_some, e]
theorem CI.enum {elts : List Expr} {kk : Nat} {tpos : Pos} (hm : c.X.mg "enumerate" = none) (h : CE c e Δ μ (fun d m => ∃ ds, StayL d ds ∧ QA (enumD ds) m) Ex) (hg : Gl c.X "enumerate" := by rfl)
    (hst : starEach [e] c.X.env = [(false, eval e c.X.env)] := by rfl) : CI c (.Tuple elts kk tpos) (.Call (.Name "enumerate" p) [e] [] pos) Δ μ QA Ex := by
  intro σ H ok hs R hR hX
  refine ⟨_, pi_enum hg hm (pa_cons pe_w pa_nil hst) hst, h σ H ok hs _ (fun v d m H1 ev t ⟨es, hd, q⟩ => ?_) hX⟩
  · obtain ⟨l, xs, z, hq, h3⟩ := hd.at t
    · subst z
      refine ⟨l, xs, rfl, hq, hR _ (enumD es) _ _ ev ⟨fun μ2 H2 i e2 hi => ?_, fun μ2 H2 i x H' e2 hi y => ?_, fun μ2 H2 e2 => ?_⟩ q⟩
      · rw [enumD_len] at hi
        obtain ⟨l', ys, z, h4, h5⟩ := hd.at (e2.dt t)
        cases z
        exact ⟨ys, ys[i]'(by rw [h5.length]; exact hi), h4, by simp⟩
      · obtain ⟨T, u, rfl, hT, rfl, y⟩ := y
        obtain ⟨l', ys, z, h4, h5⟩ := hd.at (e2.dt t)
        cases z
        obtain ⟨d', h6, h7⟩ := h5.get' (y ys h4)
        have s1 := same_new (o := .tup [.int (i : Nat), u]) hT
        exact ⟨_, enumD_get h6, .tup (SqT.of upd_same) (.cons (.int _) (.cons (h7.keep (keeps_same s1)) .nil)), evo_same e2.s s1⟩
      · obtain ⟨l', ys, z, h4, h5⟩ := hd.at (e2.dt t)
        cases z
        exact ⟨ys, h4, by rw [h5.length, enumD_len]; exact Nat.le_refl _⟩

/-! ### for, while -/
theorem CS.for {g : TGD} {body : List Stmt} (hc : c.X.calm = true) (hg : CG c tg g)
    (h : CI c tg e Δ μ (fun ds m => ∃ I : Nat → Sl → Mu → Prop, I 0 Δ m ∧
      (∀ i d Δ' m', ds[i]? = some d → I i Δ' m' → ∃ Δ2, g d Δ' = some Δ2 ∧ CSs c body Δ2 m' { E with nx := I (i + 1), ct := I (i + 1), bk := E.nx }) ∧ (∀ Δ' m', I ds.length Δ' m' → E.nx Δ' m')) E.ex)
    (hf : ∀ x, foldedSetIterable e c.X.env x = pure x := by intro _; rfl) : CS c (.For tg e body [] pos) Δ μ E := by
  intro σ H ok hs Ev S
  obtain ⟨t, pg, ht⟩ := hg.ex
  obtain ⟨w, hw, q⟩ := h σ H ok hs (fun (J : It) (H1 : Hp) => ∃ W : Nat → Nat → L2.St → Hp → Prop, (∃ m, W 0 m σ H1) ∧ ∀ i m σ H, W i m σ H →
      (J.stop i H ∧ Ev.nx σ H) ∨ (J.go i H ∧ ∃ N : L2.St → Hp → Prop, (∀ σ' H', N σ' H' → ∃ m', m' < m ∧ W (i + 1) m' σ' H') ∧ ∀ x H', J.yld i H x H' → t x σ H' fun σ2 H2 => wSs c.X body { Ev with nx := N, ct := N, bk := Ev.nx } σ2 H2)) (fun J ds m H1 ev W ⟨I, h0, hst, hd⟩ => by
    refine ⟨fun i k σ' H' => k = ds.length - i ∧ i ≤ ds.length ∧ ∃ Δ' m', Evo c.K m H1 m' H' ∧ OkS c.K m' H' σ' Δ' ∧ I i Δ' m', ⟨ds.length, by simp, Nat.zero_le _, Δ, m, Evo.refl ev.s, ok.evo ev, h0⟩, ?_⟩
    rintro i k σ' H' ⟨rfl, hi, Δ', m', e1, ok', hI⟩
    by_cases hlt : i < ds.length
    · refine .inr ⟨W.go _ _ _ e1 hlt, fun σ2 H2 => i + 1 ≤ ds.length ∧ ∃ Δ2 m2, Evo c.K m H1 m2 H2 ∧ OkS c.K m2 H2 σ2 Δ2 ∧ I (i + 1) Δ2 m2, fun σ2 H2 ⟨hl, r⟩ => ⟨ds.length - (i + 1), by omega, rfl, hl, r⟩, fun x H2 y => ?_⟩
      obtain ⟨d, hd', dt, e2⟩ := W.yld _ _ _ _ _ e1 hlt y
      obtain ⟨Δ2, hg2, hb⟩ := hst i d Δ' m' hd' hI
      refine ht x d σ' H2 Δ' Δ2 m' _ (ok'.evo e2) dt hg2 fun σ3 ok3 => ?_
      have eA := (ev.trans e1).trans e2
      have eB := e1.trans e2
      exact hb σ3 H2 ok3 e2.s _ ⟨fun σ4 Δ4 m4 H4 e4 o4 q => ⟨hlt, Δ4, m4, eB.trans e4, o4, q⟩, S.rt.evo eA, fun σ4 Δ4 m4 H4 e4 o4 q => S.nx _ _ _ _ (eA.trans e4) o4 q, fun σ4 Δ4 m4 H4 e4 o4 q => ⟨hlt, Δ4, m4, eB.trans e4, o4, q⟩,
        fun a b C o σ4 Δ4 m4 H4 e4 k z q => S.ex _ _ _ _ _ _ _ _ (eA.trans e4) k z q⟩
    · have ei : i = ds.length := by omega
      subst ei
      exact .inl ⟨W.stop _ _ e1, S.nx _ _ _ _ (ev.trans e1) ok' (hd _ _ hI)⟩) (S.want ok)
  exact ⟨_, ps_for c.po hc hw pg pss_w hf, q⟩
theorem CS.while {t : Expr} {body : List Stmt} (I : Nat → Sl → Mu → Prop) (n0 : Nat) (h0 : I n0 Δ μ)
    (h : ∀ n Δ' m', I n Δ' m' → CT c t Δ' m' (fun k m2 => if k = true then CSs c body Δ' m2 { E with nx := fun Δ2 m3 => ∃ n', n' < n ∧ I n' Δ2 m3, ct := fun Δ2 m3 => ∃ n', n' < n ∧ I n' Δ2 m3, bk := E.nx } else E.nx Δ' m2) E.ex) : CS c (.While t body [] pos) Δ μ E := by
  intro σ H ok hs Ev S
  refine ⟨_, ps_while c.po pt_w pss_w, fun n σ' H' => ∃ Δ' m', Evo c.K μ H m' H' ∧ OkS c.K m' H' σ' Δ' ∧ I n Δ' m', ⟨n0, Δ, μ, Evo.refl hs, ok, h0⟩, ?_⟩
  rintro n σ' H' ⟨Δ', m', e1, ok', hI⟩
  refine h n Δ' m' hI σ' H' ok' e1.s _ (fun k m2 H2 e2 q => ?_) ((S.evo e1).want ok')
  have eA := e1.trans e2
  cases k with
  | true =>
    rw [if_pos rfl] at q ⊢
    refine ⟨fun σ3 H3 => ∃ n', n' < n ∧ ∃ Δ3 m3, Evo c.K μ H m3 H3 ∧ OkS c.K m3 H3 σ3 Δ3 ∧ I n' Δ3 m3, fun σ3 H3 ⟨n', hl, r⟩ => ⟨n', hl, r⟩, ?_⟩
    exact q σ' H2 (ok'.evo e2) e2.s _ ⟨fun σ4 Δ4 m4 H4 e4 o4 ⟨n', hl, q⟩ => ⟨n', hl, Δ4, m4, eA.trans e4, o4, q⟩, S.rt.evo eA, fun σ4 Δ4 m4 H4 e4 o4 q => S.nx _ _ _ _ (eA.trans e4) o4 q, fun σ4 Δ4 m4 H4 e4 o4 ⟨n', hl, q⟩ => ⟨n', hl, Δ4, m4, eA.trans e4, o4, q⟩,
        fun a b C o σ4 Δ4 m4 H4 e4 k z q => S.ex _ _ _ _ _ _ _ _ (eA.trans e4) k z q⟩
  | false =>
    rw [if_neg (by decide)] at q ⊢
    exact S.nx _ _ _ _ eA (ok'.evo e2) q
end
end AM

set_option autoImplicit false
set_option maxRecDepth 100000
set_option maxHeartbeats 1000000
namespace AM
open PySem L2 PySem.Spec PyProof.Rows
/-! ### comprehensions -/
def Ctx.blk (c : Ctx) (s : Shared) (H : Hp) (scope : Scope) (C : Addr) (cl : List (Str × Addr)) (fp : List Addr) : Ctx :=
  ⟨c.X.blk s H scope (compEnvC scope cl C c.X.env) fp, fun _ _ _ _ => False, AM.noN, PassesOwn.never⟩
def wipeD (Δ : Sl) : List Nat → Sl
  | [] => Δ
  | v :: vs => (wipeD Δ vs).set v none
theorem ok_wipe {K : PySem.W.Frag} {μ : Mu} {H : Hp} {σ : L2.St} {Δ : Sl} (h : OkS K μ H σ Δ) : ∀ vs : List Nat, OkS K μ H (wipe σ vs) (wipeD Δ vs)
  | [] => h
  | v :: vs => (ok_wipe h vs).unset v
structure CGB (c : Ctx) (scope : Scope) (vs : List Nat) (tg : Expr) (g : TGD) : Prop where
  ex : ∃ t, (∀ s H C cl fp, PG (c.blk s H scope C cl fp).X tg t) ∧ ∀ v d σ H Δ Δ' μ (Q : L2.St → Hp → Prop), OkS c.K μ H (wipe σ vs) Δ → Dt c.K μ H v d → g d Δ = some Δ' → (∀ σ', OkS c.K μ H σ' Δ' → wipe σ' vs = wipe σ vs → Q σ' H) → t v (wipe σ vs) H Q
section
variable {c : Ctx} {e a b tg : Expr} {es : List Expr} {Δ : Sl} {μ : Mu} {Q Q' : D → Mu → Prop} {QB QB' : Bool → Mu → Prop} {QA QA' : List D → Mu → Prop} {Ex Ex' : XD} {pos p apos : Pos} {E E' : DE} {st : Stmt} {sts : List Stmt} {scope : Scope}
theorem CGB.name {i : Nat} {x : Str} {p : Pos} (hi : c.X.N[i]? = some x) (hN : c.X.N.Nodup) (hx : ∀ s H C cl fp, Loc (c.blk s H scope C cl fp).X.env.scope x) (hf : ∀ s H C cl fp, (c.blk s H scope C cl fp).X.fn x = true ∨ (c.blk s H scope C cl fp).X.env.scope.names.lookup x = some .local) : CGB c scope [i] (.Name x p) (tgN i) :=
  ⟨_, fun s H C cl fp => pg_name (X := (c.blk s H scope C cl fp).X) hN hi (hx s H C cl fp) (hf s H C cl fp), fun v d σ H Δ Δ' μ Q ok dt e h => by
    cases e
    refine h _ (ok.set i dt) ?_
    show (((σ.set i none).set i (some v)).set i none) = σ.set i none
    rw [List.set_set, List.set_set]⟩
theorem CGB.pair {i j : Nat} {x y : Str} {p q r : Pos} {k} (hc : c.X.calm = true) (hi : c.X.N[i]? = some x) (hj : c.X.N[j]? = some y) (hij : i ≠ j) (hN : c.X.N.Nodup)
    (hx : ∀ s H C cl fp, Loc (c.blk s H scope C cl fp).X.env.scope x ∧ Loc (c.blk s H scope C cl fp).X.env.scope y) (hf : ∀ s H C cl fp, (c.blk s H scope C cl fp).X.fn x = true ∨ (c.blk s H scope C cl fp).X.env.scope.names.lookup x = some .local)
    (hf' : ∀ s H C cl fp, (c.blk s H scope C cl fp).X.fn y = true ∨ (c.blk s H scope C cl fp).X.env.scope.names.lookup y = some .local) : CGB c scope [i, j] (.Tuple [.Name x p, .Name y q] k r) (tgP i j) := by
  refine ⟨gTup c.K 2 (gCons (gName i) (gCons (gName j) gNil)), fun s H C cl fp => pg_tup (X := (c.blk s H scope C cl fp).X) (n := 2) hc (pgs_cons (pg_name (X := (c.blk s H scope C cl fp).X) hN hi (hx s H C cl fp).1 (hf s H C cl fp)) (pgs_cons (pg_name (X := (c.blk s H scope C cl fp).X) hN hj (hx s H C cl fp).2 (hf' s H C cl fp)) pgs_nil)), fun v d σ H Δ Δ' μ Q ok dt e h => ?_⟩
  unfold tgP at e
  split at e
  · rename_i x1 y1
    cases e
    cases dt with
    | tup h1 h2 =>
      cases h2 with
      | cons a1 a2 =>
        cases a2 with
        | cons b1 b2 =>
          cases b2
          refine ⟨_, _, rfl, h1, rfl, _, _, rfl, _, _, rfl, rfl, h _ ((ok.set i a1).set j b1) ?_⟩
          show ((((((σ.set j none).set i none).set i _).set j _).set j none).set i none) = (σ.set j none).set i none
          rw [List.set_set, List.set_set, List.set_comm _ _ (Ne.symm hij), List.set_set, List.set_comm _ _ hij, List.set_set]
  · cases e
/-- one turn: the tests, the element -/
abbrev AllB (c : Ctx) (scope : Scope) (P : Ctx → Prop) : Prop := ∀ s H C cl fp, P (c.blk s H scope C cl fp)
def LT (c : Ctx) (scope : Scope) (ifs : List Expr) (elt : Expr) (Δ : Sl) (μ : Mu) (P : Option D → Mu → Prop) : Prop := match ifs with
  | [] => AllB c scope fun c => CE c elt Δ μ (fun d m => P (some d) m) noX
  | [t] => ∃ k, (AllB c scope fun c => CT c t Δ μ (fun k' m => k' = k ∧ m = μ) noX) ∧ (k = true → AllB c scope fun c => CE c elt Δ μ (fun d m => P (some d) m) noX) ∧ (k = false → P none μ)
  | _ => False
def wTs (X : Cx) (ifs : List Expr) : TT := fun σ H Q => ∃ t, PTs X ifs t ∧ t σ H Q
theorem pts_w {X : Cx} {ifs : List Expr} : PTs X ifs (wTs X ifs) := ⟨fun pins s σ H Q I ⟨_, h, q⟩ => h.run pins s σ H Q I q⟩
def ttB (c : Ctx) (scope : Scope) (ifs : List Expr) : TT := fun σ H Q => ∀ s H0 C cl fp, wTs (c.blk s H0 scope C cl fp).X ifs σ H Q
def teB (c : Ctx) (scope : Scope) (elt : Expr) : TE := fun σ H Q => ∀ s H0 C cl fp, wE (c.blk s H0 scope C cl fp).X elt σ H Q
theorem pts_b {ifs : List Expr} (s : Shared) (H : Hp) (C : Addr) (cl : List (Str × Addr)) (fp : List Addr) : PTs (c.blk s H scope C cl fp).X ifs (ttB c scope ifs) := ⟨fun pins s1 σ H1 Q I h => pts_w.run pins s1 σ H1 Q I (h s H C cl fp)⟩
theorem pe_b {elt : Expr} (s : Shared) (H : Hp) (C : Addr) (cl : List (Str × Addr)) (fp : List Addr) : PE (c.blk s H scope C cl fp).X elt (teB c scope elt) := ⟨fun pins s1 σ H1 Q I h => pe_w.run pins s1 σ H1 Q I (h s H C cl fp)⟩
/-- what a comprehension's turns must do -/
def LcD (c : Ctx) (scope : Scope) (vs : List Nat) (g : TGD) (ifs : List Expr) (elt : Expr) (Δ : Sl) (Q : D → Mu → Prop) (ds : List D) (m : Mu) : Prop :=
  ds.length ≤ 100000 ∧ ∃ I : Nat → List D → Mu → Prop, I 0 [] m ∧
    (∀ i d acc m' L, ds[i]? = some d → I i acc m' → m' L = none → ∃ Δ2, g d (wipeD Δ vs) = some Δ2 ∧
      LT c scope ifs elt Δ2 (m'.set L (.l acc)) (fun o m2 => ∃ m3, m2 = m3.set L (.l acc) ∧ m3 L = none ∧ I (i + 1) (acc ++ o.toList) m3)) ∧
    (∀ acc m', I ds.length acc m' → Q (.lst acc) m')
theorem lc_core {ifs : List Expr} {elt : Expr} {g : TGD} {vs : List Nat} {t : TG} {J : It} {ds : List D} {m : Mu} {H1 : Hp} {σ : L2.St} {QV : VK}
    (ht : ∀ v d σ H Δ Δ' μ (Q : L2.St → Hp → Prop), OkS c.K μ H (wipe σ vs) Δ → Dt c.K μ H v d → g d Δ = some Δ' → (∀ σ', OkS c.K μ H σ' Δ' → wipe σ' vs = wipe σ vs → Q σ' H) → t v (wipe σ vs) H Q)
    (hs : HS c.K m H1) (ok : OkS c.K m H1 σ Δ) (W : Walks c.K J ds m H1) (hlen : ds.length ≤ 100000) (I : Nat → List D → Mu → Prop) (h0 : I 0 [] m)
    (hstep : ∀ i d acc m' L, ds[i]? = some d → I i acc m' → m' L = none → ∃ Δ2, g d (wipeD Δ vs) = some Δ2 ∧ LT c scope ifs elt Δ2 (m'.set L (.l acc)) (fun o m2 => ∃ m3, m2 = m3.set L (.l acc) ∧ m3 L = none ∧ I (i + 1) (acc ++ o.toList) m3))
    (L : Addr) (hL : H1 L = none) (hfin : ∀ acc m' H', m' L = none → Evo c.K m H1 (m'.set L (.l acc)) H' → I ds.length acc m' → QV (.ref L) H') :
    ∃ W : Nat → Nat → Hp → Prop, (∃ m, W 0 m (upd H1 L (.lst []))) ∧ ∀ i m H, W i m H →
      (J.stop i H ∧ QV (.ref L) H) ∨ (J.go i H ∧ ∃ Nx : Hp → Prop, (∀ H', Nx H' → ∃ m', m' < m ∧ W (i + 1) m' H') ∧ ∀ x H', J.yld i H x H' → t x (wipe σ vs) H' fun σ2 H2 => wipe σ2 vs = wipe σ vs ∧
        ttB c scope ifs σ2 H2 fun b H3 =>
          if b = true then teB c scope elt σ2 H3 fun y H4 => ∃ acc, H4 L = some (.lst acc) ∧ acc.length < sizeLine ∧ Nx (upd H4 L (.lst (acc ++ [y]))) else Nx H3) := by
  have hmL : m L = none := hs.none hL
  have s0 := same_new (o := .lst []) hL
  have e0 : Evo c.K m H1 (m.set L (.l [])) (upd H1 L (.lst [])) := evo_new (m := .l []) hs s0 hL ⟨[], upd_same, .nil⟩
  refine ⟨fun i k H' => k = ds.length - i ∧ i ≤ ds.length ∧ ∃ acc m', m' L = none ∧ Evo c.K m H1 (m'.set L (.l acc)) H' ∧ I i acc m' ∧ acc.length ≤ i, ⟨ds.length, by simp, Nat.zero_le _, [], m, hmL, e0, h0, Nat.le_refl _⟩, ?_⟩
  rintro i k H' ⟨rfl, hi, acc, m', hm', e1, hI, hacc⟩
  by_cases hlt : i < ds.length
  · refine .inr ⟨W.go _ _ _ e1 hlt, fun H2 => i + 1 ≤ ds.length ∧ ∃ acc m', m' L = none ∧ Evo c.K m H1 (m'.set L (.l acc)) H2 ∧ I (i + 1) acc m' ∧ acc.length ≤ i + 1, fun H2 ⟨hl, r⟩ => ⟨ds.length - (i + 1), by omega, rfl, hl, r⟩, fun x H2 y => ?_⟩
    obtain ⟨d, hd', dt, e2⟩ := W.yld _ _ _ _ _ e1 hlt y
    obtain ⟨Δ2, hg2, hb⟩ := hstep i d acc m' L hd' hI hm'
    have eA := e1.trans e2
    refine ht x d σ H2 _ Δ2 _ _ (ok_wipe (ok.evo eA) vs) dt hg2 fun σ3 ok3 hw => ⟨hw, ?_⟩
    have app : ∀ {y : V} {d2 : D} {m3 : Mu} {H4 : Hp}, Evo c.K (m'.set L (.l acc)) H2 (m3.set L (.l acc)) H4 → m3 L = none → Dt c.K (m3.set L (.l acc)) H4 y d2 → I (i + 1) (acc ++ [d2]) m3 →
        ∃ acc, H4 L = some (.lst acc) ∧ acc.length < sizeLine ∧ (fun H2 => i + 1 ≤ ds.length ∧ ∃ acc m', m' L = none ∧ Evo c.K m H1 (m'.set L (.l acc)) H2 ∧ I (i + 1) acc m' ∧ acc.length ≤ i + 1) (upd H4 L (.lst (acc ++ [y]))) := fun {y d2 m3 H4} e4 hm3 dy hI3 => by
      obtain ⟨xs, h1, h2⟩ := e4.s L (.l acc) Mu.set_same
      have kk := keeps_set (m := .l (acc ++ [d2])) (o := .lst (xs ++ [y])) e4.s (p := L) Mu.set_same
      have e5 := evo_set (m := .l (acc ++ [d2])) (o := .lst (xs ++ [y])) e4.s (p := L) Mu.set_same ⟨_, upd_same, (h2.append (.cons dy .nil)).keep kk⟩
      rw [Mu.set_set] at e5
      refine ⟨xs, h1, by rw [h2.length]; exact bigl (by omega), hlt, acc ++ [d2], m3, hm3, (eA.trans e4).trans e5, hI3, by rw [List.length_append]; exact Nat.add_le_add_right hacc 1⟩
    have elem : ∀ {H3 : Hp}, Evo c.K (m'.set L (.l acc)) H2 (m'.set L (.l acc)) H3 → (AllB c scope fun c => CE c elt Δ2 (m'.set L (.l acc)) (fun d m2 => ∃ m3, m2 = m3.set L (.l acc) ∧ m3 L = none ∧ I (i + 1) (acc ++ (some d).toList) m3) noX) →
        teB c scope elt σ3 H3 fun y H4 => ∃ acc, H4 L = some (.lst acc) ∧ acc.length < sizeLine ∧ (fun H2 => i + 1 ≤ ds.length ∧ ∃ acc m', m' L = none ∧ Evo c.K m H1 (m'.set L (.l acc)) H2 ∧ I (i + 1) acc m' ∧ acc.length ≤ i + 1) (upd H4 L (.lst (acc ++ [y]))) := fun {H3} e3 hel => by
      intro s5 H5 C5 cl5 fp5
      refine hel s5 H5 C5 cl5 fp5 σ3 H3 (ok3.evo e3) e3.s _ (fun y d2 m2 H4 e4 t4 ⟨m3, z, hm3, hI3⟩ => ?_) (fun _ _ _ _ _ _ _ _ z => z.elim)
      subst z
      exact app (e3.trans e4) hm3 t4 hI3
    intro s0 H0 C0 cl0 fp0
    cases ifs with
    | nil =>
      refine ⟨tYes, pts_nil, ?_⟩
      unfold tYes
      dsimp only
      rw [if_pos rfl]
      exact elem (Evo.refl e2.s) hb
    | cons tt r =>
      cases r with
      | cons t2 r2 => exact hb.elim
      | nil =>
        obtain ⟨k, hk, hyes, hno⟩ := hb
        refine ⟨_, pts_one pt_w, ?_⟩
        refine hk s0 H0 C0 cl0 fp0 σ3 H2 ok3 e2.s _ (fun kb m2 H3 e3 ⟨z1, z2⟩ => ?_) (fun _ _ _ _ _ _ _ _ z => z.elim)
        subst z1; subst z2
        cases kb with
        | true =>
          exact iteT (elem e3 (hyes rfl))
        | false =>
          obtain ⟨m3, z, hm3, hI3⟩ := hno rfl
          exact iteF ⟨hlt, acc, m3, hm3, by rw [← z]; exact eA.trans e3, by simpa using hI3, Nat.le_succ_of_le hacc⟩
  · have ei : i = ds.length := by omega
    subst ei
    exact .inl ⟨W.stop _ _ e1, hfin _ _ _ hm' e1 hI⟩
theorem lc_main {ifs : List Expr} {elt : Expr} {g : TGD} {vs : List Nat} {t : TG} {J : It} {ds : List D} {m : Mu} {H1 : Hp} {σ : L2.St} {QV : VK}
    (ht : ∀ v d σ H Δ Δ' μ (Q : L2.St → Hp → Prop), OkS c.K μ H (wipe σ vs) Δ → Dt c.K μ H v d → g d Δ = some Δ' → (∀ σ', OkS c.K μ H σ' Δ' → wipe σ' vs = wipe σ vs → Q σ' H) → t v (wipe σ vs) H Q)
    (hs : HS c.K m H1) (ok : OkS c.K m H1 σ Δ) (W : Walks c.K J ds m H1) (h : LcD c scope vs g ifs elt Δ Q ds m) (hQ : WantV c m H1 Q QV) :
    ∀ L, H1 L = none → ∃ W : Nat → Nat → Hp → Prop, (∃ m, W 0 m (upd H1 L (.lst []))) ∧ ∀ i m H, W i m H →
      (J.stop i H ∧ QV (.ref L) H) ∨ (J.go i H ∧ ∃ Nx : Hp → Prop, (∀ H', Nx H' → ∃ m', m' < m ∧ W (i + 1) m' H') ∧ ∀ x H', J.yld i H x H' → t x (wipe σ vs) H' fun σ2 H2 => wipe σ2 vs = wipe σ vs ∧
        ttB c scope ifs σ2 H2 fun b H3 =>
          if b = true then teB c scope elt σ2 H3 fun y H4 => ∃ acc, H4 L = some (.lst acc) ∧ acc.length < sizeLine ∧ Nx (upd H4 L (.lst (acc ++ [y]))) else Nx H3) := by
  intro L hL
  obtain ⟨hlen, I, h0, hstep, hd⟩ := h
  refine lc_core ht hs ok W hlen I h0 hstep L hL fun acc m' H' hm' e1 hI => ?_
  have e2 := evo_del (p := L) e1.s
  have fr := frozen_l (p := L) e1.s Mu.set_same
  rw [Mu.del_set hm'] at e2 fr
  exact hQ _ _ _ _ (e1.trans e2) fr (hd _ _ hI)
/-- .. whose list will change -/
def LcDL (c : Ctx) (scope : Scope) (vs : List Nat) (g : TGD) (ifs : List Expr) (elt : Expr) (Δ : Sl) (Q : D → Mu → Prop) (ds : List D) (m : Mu) : Prop :=
  ds.length ≤ 100000 ∧ ∃ I : Nat → List D → Mu → Prop, I 0 [] m ∧
    (∀ i d acc m' L, ds[i]? = some d → I i acc m' → m' L = none → ∃ Δ2, g d (wipeD Δ vs) = some Δ2 ∧
      LT c scope ifs elt Δ2 (m'.set L (.l acc)) (fun o m2 => ∃ m3, m2 = m3.set L (.l acc) ∧ m3 L = none ∧ I (i + 1) (acc ++ o.toList) m3)) ∧
    (∀ acc m' p, m' p = none → I ds.length acc m' → Q (.loc p) (m'.set p (.l acc)))
theorem lc_mainL {ifs : List Expr} {elt : Expr} {g : TGD} {vs : List Nat} {t : TG} {J : It} {ds : List D} {m : Mu} {H1 : Hp} {σ : L2.St} {QV : VK}
    (ht : ∀ v d σ H Δ Δ' μ (Q : L2.St → Hp → Prop), OkS c.K μ H (wipe σ vs) Δ → Dt c.K μ H v d → g d Δ = some Δ' → (∀ σ', OkS c.K μ H σ' Δ' → wipe σ' vs = wipe σ vs → Q σ' H) → t v (wipe σ vs) H Q)
    (hs : HS c.K m H1) (ok : OkS c.K m H1 σ Δ) (W : Walks c.K J ds m H1) (h : LcDL c scope vs g ifs elt Δ Q ds m) (hQ : WantV c m H1 Q QV) :
    ∀ L, H1 L = none → ∃ W : Nat → Nat → Hp → Prop, (∃ m, W 0 m (upd H1 L (.lst []))) ∧ ∀ i m H, W i m H →
      (J.stop i H ∧ QV (.ref L) H) ∨ (J.go i H ∧ ∃ Nx : Hp → Prop, (∀ H', Nx H' → ∃ m', m' < m ∧ W (i + 1) m' H') ∧ ∀ x H', J.yld i H x H' → t x (wipe σ vs) H' fun σ2 H2 => wipe σ2 vs = wipe σ vs ∧
        ttB c scope ifs σ2 H2 fun b H3 =>
          if b = true then teB c scope elt σ2 H3 fun y H4 => ∃ acc, H4 L = some (.lst acc) ∧ acc.length < sizeLine ∧ Nx (upd H4 L (.lst (acc ++ [y]))) else Nx H3) := by
  intro L hL
  obtain ⟨hlen, I, h0, hstep, hd⟩ := h
  exact lc_core ht hs ok W hlen I h0 hstep L hL fun acc m' H' hm' e1 hI => hQ _ _ _ _ e1 (.loc L) (hd _ _ _ hm' hI)
/-- [elt for target in iter if ..] -/
theorem CE.lc {iter elt : Expr} {ifs : List Expr} {own : List (Str × Nat)} {g : TGD} (hc : c.X.calm = true) (hN : c.X.N.Nodup) (hok : BlkOk c.X.N c.X.env.scope scope own) (hg : CGB c scope (own.map (·.2)) tg g)
    (h : CI c tg iter Δ μ (LcD c scope (own.map (·.2)) g ifs elt Δ Q) Ex) (hf : ∀ x, foldedSetIterable iter c.X.env x = pure x := by intro _; rfl) : CE c (.ListComp elt [⟨tg, iter, ifs, 0⟩] scope pos) Δ μ Q Ex := by
  intro σ H ok hs QV hQ hX
  obtain ⟨t, pg, ht⟩ := hg.ex
  obtain ⟨w, hw, q⟩ := h σ H ok hs (fun (J : It) (H1 : Hp) => ∀ L, H1 L = none → ∃ W : Nat → Nat → Hp → Prop, (∃ m, W 0 m (upd H1 L (.lst []))) ∧ ∀ i m H, W i m H →
      (J.stop i H ∧ QV (.ref L) H) ∨ (J.go i H ∧ ∃ Nx : Hp → Prop, (∀ H', Nx H' → ∃ m', m' < m ∧ W (i + 1) m' H') ∧ ∀ x H', J.yld i H x H' → t x (wipe σ (own.map (·.2))) H' fun σ2 H2 => wipe σ2 (own.map (·.2)) = wipe σ (own.map (·.2)) ∧
        ttB c scope ifs σ2 H2 fun b H3 =>
          if b = true then teB c scope elt σ2 H3 fun y H4 => ∃ acc, H4 L = some (.lst acc) ∧ acc.length < sizeLine ∧ Nx (upd H4 L (.lst (acc ++ [y]))) else Nx H3))
    (fun J ds m H1 ev W hl => lc_main ht ev.s (ok.evo ev) W hl (WantV.evo hQ ev)) hX
  exact ⟨_, pe_lc hc hN hw hok (fun s H C cl fp => pg s H C cl fp) (fun s H C cl fp => pts_b (c := c) s H C cl fp) (fun s H C cl fp => pe_b (c := c) s H C cl fp) hf, q⟩
/-- y = [..] on one line -/
theorem CS.setLc {iter elt : Expr} {ifs : List Expr} {own : List (Str × Nat)} {g : TGD} {i : Nat} {y : Str} {py spos : Pos} (hc : c.X.calm = true) (hN : c.X.N.Nodup) (hy : c.X.N[i]? = some y) (hyl : c.X.env.scope.names.lookup y = some .local)
    (hsw : swapsWith (.ListComp elt [⟨tg, iter, ifs, 0⟩] scope pos) (some (.Name y py)) spos.line c.X.env = pure true) (hok : BlkOk c.X.N c.X.env.scope scope own) (hg : CGB c scope (own.map (·.2)) tg g)
    (h : CI c tg iter Δ μ (LcD c scope (own.map (·.2)) g ifs elt Δ (fun d m => E.nx (Δ.set i (some d)) m)) E.ex) (hf : ∀ x, foldedSetIterable iter c.X.env x = pure x := by intro _; rfl) : CS c (.Assign [.Name y py] (.ListComp elt [⟨tg, iter, ifs, 0⟩] scope pos) spos) Δ μ E := by
  intro σ H ok hs Ev S
  obtain ⟨t, pg, ht⟩ := hg.ex
  obtain ⟨w, hw, q⟩ := h σ H ok hs (fun (J : It) (H1 : Hp) => ∀ L, H1 L = none → ∃ W : Nat → Nat → Hp → Prop, (∃ m, W 0 m (upd H1 L (.lst []))) ∧ ∀ i' m H, W i' m H →
      (J.stop i' H ∧ gName i (.ref L) σ H Ev.nx) ∨ (J.go i' H ∧ ∃ Nx : Hp → Prop, (∀ H', Nx H' → ∃ m', m' < m ∧ W (i' + 1) m' H') ∧ ∀ x H', J.yld i' H x H' → t x (wipe σ (own.map (·.2))) H' fun σ2 H2 => wipe σ2 (own.map (·.2)) = wipe σ (own.map (·.2)) ∧
        ttB c scope ifs σ2 H2 fun b H3 =>
          if b = true then teB c scope elt σ2 H3 fun y H4 => ∃ acc, H4 L = some (.lst acc) ∧ acc.length < sizeLine ∧ Nx (upd H4 L (.lst (acc ++ [y]))) else Nx H3))
    (fun J ds m H1 ev W hl => lc_main (QV := fun v H => gName i v σ H Ev.nx) ht ev.s (ok.evo ev) W hl (fun v d m2 H2 e2 t2 q2 => S.nx _ _ _ _ (ev.trans e2) ((ok.evo (ev.trans e2)).set i t2) q2)) (S.want ok)
  exact ⟨_, ps_setLc hc hN hy hyl hsw hw hok (fun s H C cl fp => pg s H C cl fp) (fun s H C cl fp => pts_b (c := c) s H C cl fp) (fun s H C cl fp => pe_b (c := c) s H C cl fp) hf, q⟩
/-- .. a list that will change -/
theorem CS.setLcL {iter elt : Expr} {ifs : List Expr} {own : List (Str × Nat)} {g : TGD} {i : Nat} {y : Str} {py spos : Pos} (hc : c.X.calm = true) (hN : c.X.N.Nodup) (hy : c.X.N[i]? = some y) (hyl : c.X.env.scope.names.lookup y = some .local)
    (hsw : swapsWith (.ListComp elt [⟨tg, iter, ifs, 0⟩] scope pos) (some (.Name y py)) spos.line c.X.env = pure true) (hok : BlkOk c.X.N c.X.env.scope scope own) (hg : CGB c scope (own.map (·.2)) tg g)
    (h : CI c tg iter Δ μ (LcDL c scope (own.map (·.2)) g ifs elt Δ (fun d m => E.nx (Δ.set i (some d)) m)) E.ex) (hf : ∀ x, foldedSetIterable iter c.X.env x = pure x := by intro _; rfl) : CS c (.Assign [.Name y py] (.ListComp elt [⟨tg, iter, ifs, 0⟩] scope pos) spos) Δ μ E := by
  intro σ H ok hs Ev S
  obtain ⟨t, pg, ht⟩ := hg.ex
  obtain ⟨w, hw, q⟩ := h σ H ok hs (fun (J : It) (H1 : Hp) => ∀ L, H1 L = none → ∃ W : Nat → Nat → Hp → Prop, (∃ m, W 0 m (upd H1 L (.lst []))) ∧ ∀ i' m H, W i' m H →
      (J.stop i' H ∧ gName i (.ref L) σ H Ev.nx) ∨ (J.go i' H ∧ ∃ Nx : Hp → Prop, (∀ H', Nx H' → ∃ m', m' < m ∧ W (i' + 1) m' H') ∧ ∀ x H', J.yld i' H x H' → t x (wipe σ (own.map (·.2))) H' fun σ2 H2 => wipe σ2 (own.map (·.2)) = wipe σ (own.map (·.2)) ∧
        ttB c scope ifs σ2 H2 fun b H3 =>
          if b = true then teB c scope elt σ2 H3 fun y H4 => ∃ acc, H4 L = some (.lst acc) ∧ acc.length < sizeLine ∧ Nx (upd H4 L (.lst (acc ++ [y]))) else Nx H3))
    (fun J ds m H1 ev W hl => lc_mainL (QV := fun v H => gName i v σ H Ev.nx) ht ev.s (ok.evo ev) W hl (fun v d m2 H2 e2 t2 q2 => S.nx _ _ _ _ (ev.trans e2) ((ok.evo (ev.trans e2)).set i t2) q2)) (S.want ok)
  exact ⟨_, ps_setLc hc hN hy hyl hsw hw hok (fun s H C cl fp => pg s H C cl fp) (fun s H C cl fp => pts_b (c := c) s H C cl fp) (fun s H C cl fp => pe_b (c := c) s H C cl fp) hf, q⟩
end
end AM

set_option autoImplicit false
set_option maxRecDepth 100000
set_option maxHeartbeats 1000000
namespace AM
open PySem L2 PySem.Spec PyProof.Rows
section
variable {X : Cx} {C : Addr} {bmB : List Value} {B newId initId : String}
/-- x(), x an own exception class without own __init__ -/
theorem pmk_own0 {x : Str} {p pos : Pos} (F : ExcBaseFacts B newId initId bmB) (q : PySem.W.excIn X.K C bmB newId = true) (gC : X.mg x = some (.ref C)) (kC : PySem.W.keepIn X.K (.ref C) = true) (r : Raises X (.ref C)) (hg : Gl X x)
    (hdb : (x == ("__debug__" : Str)) = false := by decide) : L2N.PMk X (.Call (.Name x p) [] [] pos) (fun _ H Q => Q (.ref C) none H) := by
  intro pins s σ H Q I h
  refine wpAny_Call_Name_kw (ld_glob I hg gC ?_ hdb)
  refine PySem.W.callWith_K0 I.kIn kC ?_
  show wpAny _ _ (call (.ref C) []) _ _ _
  obtain ⟨bm, N, nm, qn, bs, hdct, sn, sub, ab, col, dd, k0, k1, k2, k3, k5, mN, hC, hN, hni, T⟩ := exc_obj I.kIn q
  refine wpAny_call_exc_subT F T hC hN hni (fun h' e hm => ?_) (by show 0 ≤ sizeLine; exact Nat.zero_le _)
  exact L2N.mk_of I hm r h (I.hok.gone hm.new)
end
/-- an own exception class of the module, over ValueError, without own __init__ -/
structure ExcC (K : PySem.W.Frag) (mg : Str → Option Value) (x : Str) (C : Addr) : Prop where
  q : PySem.W.excIn K C [.type "ValueError", .type "Exception", .type "BaseException", .type "object"] "ValueError.__new__" = true
  g : mg x = some (.ref C)
  k : PySem.W.keepIn K (.ref C) = true
  b : PySem.W.subIn K (.ref C) (.type "BaseException") = some true
  t : PySem.W.typeIn K (.ref C) = some (.type "type")
section
variable {c : Ctx} {e a b : Expr} {es : List Expr} {Δ : Sl} {μ : Mu} {E : DE} {x : Str} {C : Addr} {p pos pos2 : Pos}
theorem CS.raise (T : ExcC c.K c.X.mg x C) (hc : c.X.calm = true) (q : E.ex C none Δ μ) (hg : Gl c.X x := by rfl) (hdb : (x == ("__debug__" : Str)) = false := by decide) : CS c (.Raise (some (.Call (.Name x p) [] [] pos)) none pos2) Δ μ E := by
  intro σ H ok hs Ev S
  refine ⟨_, L2N.ps_raise hc c.tk (pmk_own0 PySem.F.excBase_ValueError T.q T.g T.k (raises_own T.b T.t) hg hdb), ?_⟩
  exact S.ex _ _ C none _ _ _ _ (Evo.refl hs) ok ⟨rfl, rfl⟩ q
end
end AM

set_option autoImplicit false
set_option maxRecDepth 100000
set_option maxHeartbeats 1000000
namespace AM
open PySem L2 PySem.Spec PyProof.Rows
/-! ### what a walk asks, by names (each with its answers) -/
def aI (d : D) (R : Int → Prop) : Prop := ∃ i, d = .int i ∧ R i
theorem aI.mk {i : Int} {R : Int → Prop} (h : R i) : aI (.int i) R := ⟨i, rfl, h⟩
def aII (d1 d2 : D) (R : Int → Int → Prop) : Prop := ∃ i j, d1 = .int i ∧ d2 = .int j ∧ R i j
theorem aII.mk {i j : Int} {R : Int → Int → Prop} (h : R i j) : aII (.int i) (.int j) R := ⟨i, j, rfl, rfl, h⟩
def aB (d : D) (R : Bool → Prop) : Prop := ∃ k, d = .bl k ∧ R k
theorem aB.mk {k : Bool} {R : Bool → Prop} (h : R k) : aB (.bl k) R := ⟨k, rfl, h⟩
def aS (d : D) (R : Str → Prop) : Prop := ∃ k, d = .str k ∧ R k
theorem aS.mk {k : Str} {R : Str → Prop} (h : R k) : aS (.str k) R := ⟨k, rfl, h⟩
def aEq (d1 d2 : D) (R : Bool → Prop) : Prop := ∃ k, EqD d1 d2 k ∧ R k
theorem aEq.int {i j : Int} {R : Bool → Prop} (h : R (decide (i = j))) : aEq (.int i) (.int j) R := ⟨_, .int _ _, h⟩
theorem aEq.str {i j : Str} {R : Bool → Prop} (h : R (decide (i = j))) : aEq (.str i) (.str j) R := ⟨_, .str _ _, h⟩
theorem aEq.bl {i j : Bool} {R : Bool → Prop} (h : R (decide (i = j))) : aEq (.bl i) (.bl j) R := ⟨_, .bl _ _, h⟩
theorem aEq.py {d e : D} {R : Bool → Prop} (h1 : d.isPy = true) (h2 : e.isPy = true) (h3 : d.py.depth ≤ 64) (h4 : e.py.depth ≤ 64) (h : R (PyData.eqv d.py e.py)) : aEq d e R := ⟨_, .py _ _ h1 h2 h3 h4, h⟩
def aSeq (m : Mu) (d : D) (R : List D → Prop) : Prop := ∃ ds, SeqD m d ds ∧ R ds
theorem aSeq.tup {m : Mu} {ds : List D} {R : List D → Prop} (h : R ds) : aSeq m (.tup ds) R := ⟨ds, .inl rfl, h⟩
theorem aSeq.lst {m : Mu} {ds : List D} {R : List D → Prop} (h : R ds) : aSeq m (.lst ds) R := ⟨ds, .inr (.inl rfl), h⟩
theorem aSeq.loc {m : Mu} {l : Addr} {ds : List D} {R : List D → Prop} (hm : m l = some (.l ds)) (h : R ds) : aSeq m (.loc l) R := ⟨ds, .inr (.inr ⟨l, rfl, hm⟩), h⟩
def aLst (m : Mu) (d : D) (R : List D → Prop) : Prop := ∃ ds, LstD m d ds ∧ R ds
theorem aLst.lst {m : Mu} {ds : List D} {R : List D → Prop} (h : R ds) : aLst m (.lst ds) R := ⟨ds, .inl rfl, h⟩
theorem aLst.loc {m : Mu} {l : Addr} {ds : List D} {R : List D → Prop} (hm : m l = some (.l ds)) (h : R ds) : aLst m (.loc l) R := ⟨ds, .inr ⟨l, rfl, hm⟩, h⟩
def aStay (d : D) (R : List D → Prop) : Prop := ∃ ds, StayL d ds ∧ R ds
theorem aStay.lst {ds : List D} {R : List D → Prop} (h : R ds) : aStay (.lst ds) R := ⟨ds, .inl rfl, h⟩
theorem aStay.fz {ds : List D} {R : List D → Prop} (h : R ds) : aStay (.fz ds) R := ⟨ds, .inr rfl, h⟩
def aTup (d : D) (R : List D → Prop) : Prop := ∃ ds, d = .tup ds ∧ R ds
theorem aTup.mk {ds : List D} {R : List D → Prop} (h : R ds) : aTup (.tup ds) R := ⟨ds, rfl, h⟩
def aLoc (m : Mu) (d : D) (R : Addr → List D → Prop) : Prop := ∃ l ds, d = .loc l ∧ m l = some (.l ds) ∧ R l ds
theorem aLoc.mk {m : Mu} {l : Addr} {ds : List D} {R : Addr → List D → Prop} (hm : m l = some (.l ds)) (h : R l ds) : aLoc m (.loc l) R := ⟨l, ds, rfl, hm, h⟩
def aObj (m : Mu) (d : D) (R : Addr → List (Str × D) → Prop) : Prop := ∃ C fs, InsAt m d C fs ∧ R C fs
theorem aObj.ins {m : Mu} {C : Addr} {fs : List (Str × D)} {R : Addr → List (Str × D) → Prop} (h : R C fs) : aObj m (.ins C fs) R := ⟨C, fs, .inl rfl, h⟩
theorem aObj.loc {m : Mu} {l C : Addr} {fs : List (Str × D)} {R : Addr → List (Str × D) → Prop} (hm : m l = some (.o C fs)) (h : R C fs) : aObj m (.loc l) R := ⟨C, fs, .inr ⟨l, rfl, hm⟩, h⟩
def aAt (ds : List D) (j : Int) (R : D → Prop) : Prop := ∃ v, atI ds j = some v ∧ R v
theorem aAt.mk {ds : List D} {j : Int} {v : D} {R : D → Prop} (hv : atI ds j = some v) (h : R v) : aAt ds j R := ⟨v, hv, h⟩
def aTy (d : D) (R : String → Prop) : Prop := ∃ n, d.tyN = some n ∧ R n
theorem aTy.mk {d : D} {n : String} {R : String → Prop} (hn : d.tyN = some n) (h : R n) : aTy d R := ⟨n, hn, h⟩
def aLook (f : Str) (fs : List (Str × D)) (R : D → Prop) : Prop := ∃ v, lookF f fs = some v ∧ R v
theorem aLook.mk {f : Str} {fs : List (Str × D)} {v : D} {R : D → Prop} (hv : lookF f fs = some v) (h : R v) : aLook f fs R := ⟨v, hv, h⟩
/-- + of ints, of lists, of tuples -/
def aPlus (m : Mu) (d1 d2 : D) (R : D → Prop) : Prop := (∃ i j, d1 = .int i ∧ d2 = .int j ∧ R (.int (i + j))) ∨ (∃ ds es, LstD m d1 ds ∧ LstD m d2 es ∧ ds.length + es.length ≤ 1000000 ∧ R (.lst (ds ++ es))) ∨
  ∃ ds es, d1 = .tup ds ∧ d2 = .tup es ∧ ds.length + es.length ≤ 1000000 ∧ R (.tup (ds ++ es))
theorem aPlus.int {m : Mu} {i j : Int} {R : D → Prop} (h : R (.int (i + j))) : aPlus m (.int i) (.int j) R := .inl ⟨i, j, rfl, rfl, h⟩
theorem aPlus.lst {m : Mu} {d1 d2 : D} {ds es : List D} {R : D → Prop} (h1 : LstD m d1 ds) (h2 : LstD m d2 es) (hl : ds.length + es.length ≤ 1000000) (h : R (.lst (ds ++ es))) : aPlus m d1 d2 R := .inr (.inl ⟨ds, es, h1, h2, hl, h⟩)
theorem aPlus.tup {m : Mu} {ds es : List D} {R : D → Prop} (hl : ds.length + es.length ≤ 1000000) (h : R (.tup (ds ++ es))) : aPlus m (.tup ds) (.tup es) R := .inr (.inr ⟨ds, es, rfl, rfl, hl, h⟩)
/-- * of ints, of a list and an int -/
def aTimes (m : Mu) (d1 d2 : D) (R : D → Prop) : Prop := (∃ i j, d1 = .int i ∧ d2 = .int j ∧ CMul i j ∧ R (.int (i * j))) ∨ (∃ ds k, LstD m d1 ds ∧ d2 = .int k ∧ -(2 ^ 63) ≤ k ∧ k < 2 ^ 63 ∧ ds.length * k.toNat ≤ 1000000 ∧ R (.lst (List.replicate k.toNat ds).flatten))
theorem aTimes.int {m : Mu} {i j : Int} {R : D → Prop} (hc : CMul i j) (h : R (.int (i * j))) : aTimes m (.int i) (.int j) R := .inl ⟨i, j, rfl, rfl, hc, h⟩
theorem aTimes.lst {m : Mu} {ds : List D} {k : Int} {R : D → Prop} (h1 : -(2 ^ 63) ≤ k ∧ k < 2 ^ 63 ∧ ds.length * k.toNat ≤ 1000000) (h : R (.lst (List.replicate k.toNat ds).flatten)) : aTimes m (.lst ds) (.int k) R := .inr ⟨ds, k, .inl rfl, rfl, h1.1, h1.2.1, h1.2.2, h⟩
def aIn (m : Mu) (d1 d2 : D) (R : Bool → Prop) : Prop := ∃ ds, SeqD m d2 ds ∧ d1.flat = true ∧ ds.all D.flat = true ∧ R (inD d1 ds)
theorem aIn.mk {m : Mu} {d1 d2 : D} {ds : List D} {R : Bool → Prop} (h1 : SeqD m d2 ds) (h2 : d1.flat = true) (h3 : ds.all D.flat = true) (h : R (inD d1 ds)) : aIn m d1 d2 R := ⟨ds, h1, h2, h3, h⟩
def aSl (m : Mu) (d : D) (l u : Option Int) (R : D → Prop) : Prop := (∃ ds, LstD m d ds ∧ R (.lst (cutD ds l u))) ∨ ∃ ds, d = .tup ds ∧ R (.tup (cutD ds l u))
theorem aSl.lst {m : Mu} {ds : List D} {l u : Option Int} {R : D → Prop} (h : R (.lst (cutD ds l u))) : aSl m (.lst ds) l u R := .inl ⟨ds, .inl rfl, h⟩
theorem aSl.loc {m : Mu} {p : Addr} {ds : List D} {l u : Option Int} {R : D → Prop} (hm : m p = some (.l ds)) (h : R (.lst (cutD ds l u))) : aSl m (.loc p) l u R := .inl ⟨ds, .inr ⟨p, rfl, hm⟩, h⟩
theorem aSl.tup {m : Mu} {ds : List D} {l u : Option Int} {R : D → Prop} (h : R (.tup (cutD ds l u))) : aSl m (.tup ds) l u R := .inr ⟨ds, rfl, h⟩

/-! ### facts over the whole run -/
/-- a def of the module, whoever calls it -/
structure FnG (P : Program) (w : World) (K : PySem.W.Frag) (mg : Str → Option Value) (base : Heap) (x : Str) (k : Nat) (s : SpD) : Prop where
  ex : ∃ (f : Addr) (fd : FuncData) (ps : List Str), FnD P w K mg base (L2N.CX P w) k f fd ps s ∧ mg x = some (.ref f) ∧ PySem.W.keepIn K (.ref f) = true ∧ Binds K fd ps []
theorem FnG.at {c : Ctx} {x : Str} {k : Nat} {s : SpD} (h : FnG c.X.prog c.X.w c.K c.X.mg c.X.base x k s) : Fn c x k s := let ⟨f, fd, ps, a, b, d, e⟩ := h.ex; ⟨_, f, fd, ps, cxL, a, b, d, e⟩
/-- where a def stands -/
structure Df (K : PySem.W.Frag) (mg : Str → Option Value) (x : Str) (st : Stmt) (ps : List Str) : Prop where
  ex : ∃ (f : Addr) (fd : FuncData), Fun K x x st f fd ∧ mg x = some (.ref f) ∧ Binds K fd ps []
theorem gD {P : Program} {w : World} {K : PySem.W.Frag} {mg : Str → Option Value} {base : Heap} {x : Str} {st : Stmt} {N ps : List Str} {k : Nat} {s : SpD} (h : Df K mg x st ps) (S : FnScope N ps (defScope st)) (len : ∀ ds m Q E, s ds m Q E → ds.length = ps.length)
    (body : ∀ (f : Addr) (cdv : Value) (A : Around) (outer : List Env) (s0 : Shared) (H : Hp) (E : XK), Room k (A.deeper (envOfC x (defScope st) s0.heap.objs.size f cdv)) → ∀ ds m Q Ex, s ds m Q Ex →
      CSs (dctx P w K mg base N x (defScope st) f cdv A outer s0 H E) (defBody st) (startD N ds) m { nx := fun _ m => Q .non m, rt := Q, ex := fun C o _ m => Ex C o m }) : FnG P w K mg base x (k + 1) s := by
  obtain ⟨f, fd, F, hm, hb⟩ := h.ex
  exact ⟨f, fd, ps, okD F S len (body f), hm, F.kp, hb⟩
theorem FnG.mono {P : Program} {w : World} {K : PySem.W.Frag} {mg : Str → Option Value} {base : Heap} {x : Str} {j k : Nat} {s : SpD} (h : FnG P w K mg base x j s) (hl : j ≤ k) : FnG P w K mg base x k s :=
  let ⟨f, fd, ps, a, b, d, e⟩ := h.ex; ⟨f, fd, ps, FnOk.mono a hl, b, d, e⟩
/-- a method of a class of the module -/
structure MtG (P : Program) (w : World) (K : PySem.W.Frag) (mg : Str → Option Value) (base : Heap) (C : Addr) (m : Str) (k : Nat) (s : SpD) : Prop where
  ex : ∃ (f : Addr) (fd : FuncData) (ps : List Str), FnD P w K mg base (L2N.CX P w) k f fd ps s ∧ Meth K C m f ∧ Binds K fd ps []
  cl : Cls K C
theorem MtG.at {c : Ctx} {C : Addr} {m : Str} {k : Nat} {s : SpD} (h : MtG c.X.prog c.X.w c.K c.X.mg c.X.base C m k s) : Mth c C m k s := let ⟨f, fd, ps, a, b, d⟩ := h.ex; ⟨⟨_, f, fd, ps, cxL, a, b, d⟩, h.cl⟩
structure Dm (K : PySem.W.Frag) (C : Addr) (m qual : Str) (st : Stmt) (ps : List Str) : Prop where
  ex : ∃ (f : Addr) (fd : FuncData), Fun K m qual st f fd ∧ Meth K C m f ∧ Binds K fd ps []
  cl : Cls K C
theorem gM {P : Program} {w : World} {K : PySem.W.Frag} {mg : Str → Option Value} {base : Heap} {C : Addr} {m0 qual : Str} {st : Stmt} {N ps : List Str} {k : Nat} {s : SpD} (h : Dm K C m0 qual st ps) (S : FnScope N ps (defScope st)) (len : ∀ ds m Q E, s ds m Q E → ds.length = ps.length)
    (body : ∀ (f : Addr) (cdv : Value) (A : Around) (outer : List Env) (s0 : Shared) (H : Hp) (E : XK), Room k (A.deeper (envOfC qual (defScope st) s0.heap.objs.size f cdv)) → ∀ ds m Q Ex, s ds m Q Ex →
      CSs (dctx P w K mg base N qual (defScope st) f cdv A outer s0 H E) (defBody st) (startD N ds) m { nx := fun _ m => Q .non m, rt := Q, ex := fun C o _ m => Ex C o m }) : MtG P w K mg base C m0 (k + 1) s := by
  obtain ⟨f, fd, F, hm, hb⟩ := h.ex
  exact ⟨⟨f, fd, ps, okD F S len (body f), hm, hb⟩, h.cl⟩
theorem MtG.mono {P : Program} {w : World} {K : PySem.W.Frag} {mg : Str → Option Value} {base : Heap} {C : Addr} {x : Str} {j k : Nat} {s : SpD} (h : MtG P w K mg base C x j s) (hl : j ≤ k) : MtG P w K mg base C x k s :=
  let ⟨f, fd, ps, a, b, d⟩ := h.ex; ⟨⟨f, fd, ps, FnOk.mono a hl, b, d⟩, h.cl⟩
/-- a class that is called -/
structure CnG (P : Program) (w : World) (K : PySem.W.Frag) (mg : Str → Option Value) (base : Heap) (x : Str) (C : Addr) (k : Nat) (s : SpD) : Prop where
  ex : ∃ (f : Addr) (fd : FuncData) (ps : List Str), FnD P w K mg base (L2N.CX P w) k f fd ps s ∧ Mk K C f ∧ mg x = some (.ref C) ∧ Binds K fd ps []
theorem CnG.at {c : Ctx} {x : Str} {C : Addr} {k : Nat} {s : SpD} (h : CnG c.X.prog c.X.w c.K c.X.mg c.X.base x C k s) : Cns c x C k s := let ⟨f, fd, ps, a, b, d, e⟩ := h.ex; ⟨_, f, fd, ps, cxL, a, b, d, e⟩
structure Dc (K : PySem.W.Frag) (mg : Str → Option Value) (x : Str) (C : Addr) (qual : Str) (st : Stmt) (ps : List Str) : Prop where
  ex : ∃ (f : Addr) (fd : FuncData), Fun K "__init__" qual st f fd ∧ Mk K C f ∧ mg x = some (.ref C) ∧ Binds K fd ps []
theorem gC {P : Program} {w : World} {K : PySem.W.Frag} {mg : Str → Option Value} {base : Heap} {x : Str} {C : Addr} {qual : Str} {st : Stmt} {N ps : List Str} {k : Nat} {s : SpD} (h : Dc K mg x C qual st ps) (S : FnScope N ps (defScope st)) (len : ∀ ds m Q E, s ds m Q E → ds.length = ps.length)
    (body : ∀ (f : Addr) (cdv : Value) (A : Around) (outer : List Env) (s0 : Shared) (H : Hp) (E : XK), Room k (A.deeper (envOfC qual (defScope st) s0.heap.objs.size f cdv)) → ∀ ds m Q Ex, s ds m Q Ex →
      CSs (dctx P w K mg base N qual (defScope st) f cdv A outer s0 H E) (defBody st) (startD N ds) m { nx := fun _ m => Q .non m, rt := Q, ex := fun C o _ m => Ex C o m }) : CnG P w K mg base x C (k + 1) s := by
  obtain ⟨f, fd, F, hm, hg, hb⟩ := h.ex
  exact ⟨f, fd, ps, okD F S len (body f), hm, hg, hb⟩
theorem CnG.mono {P : Program} {w : World} {K : PySem.W.Frag} {mg : Str → Option Value} {base : Heap} {x : Str} {C : Addr} {j k : Nat} {s : SpD} (h : CnG P w K mg base x C j s) (hl : j ≤ k) : CnG P w K mg base x C k s :=
  let ⟨f, fd, ps, a, b, d, e⟩ := h.ex; ⟨f, fd, ps, FnOk.mono a hl, b, d, e⟩
/-- a constant of the module -/
structure GC (K : PySem.W.Frag) (mg : Str → Option Value) (x : Str) (d : D) : Prop where
  ex : ∃ v u, mg x = some u ∧ RelV v u ∧ ∀ μ H, Dt K μ H v d
/-- a built-in name of the module that nothing hides -/
def NB (mg : Str → Option Value) (x : Str) : Prop := mg x = none
/-- an attribute of a class's instances -/
structure FldC (K : PySem.W.Frag) (C : Addr) (f : Str) : Prop where
  c : Cls K C
  n : NoAttr K C f

section
variable {c : Ctx} {e a b : Expr} {es : List Expr} {Δ : Sl} {μ : Mu} {Q Q' : D → Mu → Prop} {QB QB' : Bool → Mu → Prop} {QA QA' : List D → Mu → Prop} {Ex Ex' : XD} {pos p apos : Pos} {E E' : DE} {st : Stmt} {sts : List Stmt}
/-! ### the rules by these names -/
theorem W.nm {i : Nat} {x : Str} {d : D} (hN : c.X.N[i]? = some x) (hd : Δ[i]? = some (some d)) (hv : Vis c.X.env.scope x) (q : Q d μ) (h1 : (x == ("__debug__" : Str)) = false := by decide) (h2 : (x == ("__classdict__" : Str)) = false := by decide) : CE c (.Name x pos) Δ μ Q Ex := CE.var hd hN hv q h1 h2
theorem W.gc {x : Str} {d : D} (T : GC c.K c.X.mg x d) (q : Q d μ) (hg : Gl c.X x) (hb : (x == ("__debug__" : Str)) = false := by decide) : CE c (.Name x pos) Δ μ Q Ex := by
  obtain ⟨v, u, h1, h2, h3⟩ := T.ex
  exact CE.glob h1 h2 h3 q hg hb
theorem W.plus (h : CE c a Δ μ (fun d1 m => CE c b Δ m (fun d2 m' => aPlus m' d1 d2 fun d => Q d m') Ex) Ex) : CE c (.BinOp a .Add b pos) Δ μ Q Ex := by
  intro σ H ok hs QV hQ hX
  refine ⟨_, pe_op (r := fun x y H Q => (rI0 fun i j => .int (i + j)) x y H Q ∨ rCat x y H Q ∨ rCatA c.K x y H Q) (op_add.or (op_cat.or op_catA)) pe_w pe_w, ?_⟩
  refine h σ H ok hs _ (fun x d1 m1 H1 e1 t1 q1 => ?_) hX
  refine q1 σ H1 (ok.evo e1) e1.s _ (fun y d2 m2 H2 e2 t2 q2 => ?_) (hX.evo e1)
  have t1' := e2.dt t1
  have hQ' := WantV.evo hQ (e1.trans e2)
  have hs := e2.s
  rcases q2 with ⟨i, j, rfl, rfl, q⟩ | ⟨ds, es, h1, h2, hl, q⟩ | ⟨ds, es, rfl, rfl, hl, q⟩
  · cases t1'; cases t2
    exact .inl ⟨i, j, rfl, rfl, hQ' _ _ _ _ (Evo.refl hs) (.int _) q⟩
  · refine .inr (.inl ?_)
    obtain ⟨l, xs, z, h3, h4⟩ := h1.lst hs t1'
    obtain ⟨r, ys, z2, h5, h6⟩ := h2.lst hs t2
    subst z; subst z2
    refine ⟨l, r, xs, ys, rfl, rfl, h3, h5, by rw [h4.length, h6.length]; exact big hl, fun n hn => ?_⟩
    have s1 := same_new (o := .lst (xs ++ ys)) hn
    exact hQ' _ _ _ _ (evo_same hs s1) (.lst ⟨upd_same, hs.none hn⟩ ((h4.append h6).keep (keeps_same s1))) q
  · refine .inr (.inr ?_)
    cases t1' with
    | tup h3 h4 =>
      cases t2 with
      | tup h5 h6 =>
        rename_i l xs r ys
        refine ⟨l, r, xs, ys, rfl, rfl, h3, h5, by rw [h4.length, h6.length]; exact big hl, fun z => ?_, fun _ z => ?_, fun _ _ n hn => ?_⟩
        · subst z
          cases h4
          exact hQ' _ _ _ _ (Evo.refl hs) (.tup h5 h6) q
        · subst z
          cases h6
          rw [List.append_nil] at q
          exact hQ' _ _ _ _ (Evo.refl hs) (.tup h3 h4) q
        · have s1 := same_new (o := .tup (xs ++ ys)) hn
          exact hQ' _ _ _ _ (evo_same hs s1) (.tup (SqT.of upd_same) ((h4.append h6).keep (keeps_same s1))) q
theorem W.times (h : CE c a Δ μ (fun d1 m => CE c b Δ m (fun d2 m' => aTimes m' d1 d2 fun d => Q d m') Ex) Ex) : CE c (.BinOp a .Mult b pos) Δ μ Q Ex := by
  intro σ H ok hs QV hQ hX
  refine ⟨_, pe_op (r := fun x y H Q => (rI CMul fun i j => .int (i * j)) x y H Q ∨ rRep x y H Q) (op_mul.or op_rep) pe_w pe_w, ?_⟩
  refine h σ H ok hs _ (fun x d1 m1 H1 e1 t1 q1 => ?_) hX
  refine q1 σ H1 (ok.evo e1) e1.s _ (fun y d2 m2 H2 e2 t2 q2 => ?_) (hX.evo e1)
  have t1' := e2.dt t1
  have hQ' := WantV.evo hQ (e1.trans e2)
  have hs := e2.s
  rcases q2 with ⟨i, j, rfl, rfl, hc, q⟩ | ⟨ds, k, h1, z2, k1, k2, hl, q⟩
  · cases t1'; cases t2
    exact .inl ⟨i, j, rfl, rfl, hc, hQ' _ _ _ _ (Evo.refl hs) (.int _) q⟩
  · obtain ⟨l, xs, z, h3, h4⟩ := h1.lst hs t1'
    subst z; subst z2
    cases t2
    refine .inr ⟨l, k, xs, rfl, rfl, h3, k1, k2, by rw [h4.length]; exact big hl, fun n hn => ?_⟩
    have s1 := same_new (o := .lst (List.replicate k.toNat xs).flatten) hn
    exact hQ' _ _ _ _ (evo_same hs s1) (.lst ⟨upd_same, hs.none hn⟩ ((h4.rep _).keep (keeps_same s1))) q
theorem W.sub (h : CE c a Δ μ (fun d1 m => CE c b Δ m (fun d2 m' => aII d1 d2 fun i j => Q (.int (i - j)) m') Ex) Ex) : CE c (.BinOp a .Sub b pos) Δ μ Q Ex := CE.sub h
theorem W.fdiv (h : CE c a Δ μ (fun d1 m => CE c b Δ m (fun d2 m' => aII d1 d2 fun i j => CDiv i j ∧ Q (.int (i / j)) m') Ex) Ex) : CE c (.BinOp a .FloorDiv b pos) Δ μ Q Ex := CE.fdiv h
theorem W.mod (h : CE c a Δ μ (fun d1 m => CE c b Δ m (fun d2 m' => aII d1 d2 fun i j => 0 < j ∧ Q (.int (i % j)) m') Ex) Ex) : CE c (.BinOp a .Mod b pos) Δ μ Q Ex := CE.mod h
theorem W.pow (h : CE c a Δ μ (fun d1 m => CE c b Δ m (fun d2 m' => aII d1 d2 fun i j => CPow i j ∧ Q (.int (i ^ j.toNat)) m') Ex) Ex) : CE c (.BinOp a .Pow b pos) Δ μ Q Ex := CE.pow h
theorem W.shl (h : CE c a Δ μ (fun d1 m => CE c b Δ m (fun d2 m' => aII d1 d2 fun i j => CPow i j ∧ Q (.int (i * 2 ^ j.toNat)) m') Ex) Ex) : CE c (.BinOp a .LShift b pos) Δ μ Q Ex := CE.shl h
theorem W.shr (h : CE c a Δ μ (fun d1 m => CE c b Δ m (fun d2 m' => aII d1 d2 fun i j => 0 ≤ j ∧ Q (.int (i / 2 ^ j.toNat)) m') Ex) Ex) : CE c (.BinOp a .RShift b pos) Δ μ Q Ex := CE.shr h
theorem W.band (h : CE c a Δ μ (fun d1 m => CE c b Δ m (fun d2 m' => aII d1 d2 fun i j => Q (.int (Builtin.bitAnd i j)) m') Ex) Ex) : CE c (.BinOp a .BitAnd b pos) Δ μ Q Ex := CE.band h
theorem W.bor (h : CE c a Δ μ (fun d1 m => CE c b Δ m (fun d2 m' => aII d1 d2 fun i j => Q (.int (Builtin.bitOr i j)) m') Ex) Ex) : CE c (.BinOp a .BitOr b pos) Δ μ Q Ex := CE.bor h
theorem W.bxor (h : CE c a Δ μ (fun d1 m => CE c b Δ m (fun d2 m' => aII d1 d2 fun i j => Q (.int (Builtin.bitXor i j)) m') Ex) Ex) : CE c (.BinOp a .BitXor b pos) Δ μ Q Ex := CE.bxor h
theorem W.neg (h : CE c a Δ μ (fun d1 m => aI d1 fun i => Q (.int (-i)) m) Ex) : CE c (.UnaryOp .USub a pos) Δ μ Q Ex := by
  intro σ H ok hs QV hQ hX
  refine ⟨_, pe_un un_neg pe_w, h σ H ok hs _ (fun x d1 m1 H1 e1 t1 ⟨i, z, q⟩ => ?_) hX⟩
  subst z; cases t1
  exact ⟨i, rfl, hQ _ _ _ _ e1 (.int _) q⟩
theorem W.lt (h : CE c a Δ μ (fun d1 m => CE c b Δ m (fun d2 m' => aII d1 d2 fun i j => Q (.bl (decide (i < j))) m') Ex) Ex) : CE c (.Compare a [.Lt] [b] pos) Δ μ Q Ex := CE.lt h
theorem W.le (h : CE c a Δ μ (fun d1 m => CE c b Δ m (fun d2 m' => aII d1 d2 fun i j => Q (.bl (decide (i ≤ j))) m') Ex) Ex) : CE c (.Compare a [.LtE] [b] pos) Δ μ Q Ex := CE.le h
theorem W.gt (h : CE c a Δ μ (fun d1 m => CE c b Δ m (fun d2 m' => aII d1 d2 fun i j => Q (.bl (decide (j < i))) m') Ex) Ex) : CE c (.Compare a [.Gt] [b] pos) Δ μ Q Ex := CE.gt h
theorem W.ge (h : CE c a Δ μ (fun d1 m => CE c b Δ m (fun d2 m' => aII d1 d2 fun i j => Q (.bl (decide (j ≤ i))) m') Ex) Ex) : CE c (.Compare a [.GtE] [b] pos) Δ μ Q Ex := CE.ge h
theorem T.lt (h : CE c a Δ μ (fun d1 m => CE c b Δ m (fun d2 m' => aII d1 d2 fun i j => QB (decide (i < j)) m') Ex) Ex) : CT c (.Compare a [.Lt] [b] pos) Δ μ QB Ex := CT.lt h
theorem T.le (h : CE c a Δ μ (fun d1 m => CE c b Δ m (fun d2 m' => aII d1 d2 fun i j => QB (decide (i ≤ j)) m') Ex) Ex) : CT c (.Compare a [.LtE] [b] pos) Δ μ QB Ex := CT.le h
theorem T.gt (h : CE c a Δ μ (fun d1 m => CE c b Δ m (fun d2 m' => aII d1 d2 fun i j => QB (decide (j < i)) m') Ex) Ex) : CT c (.Compare a [.Gt] [b] pos) Δ μ QB Ex := CT.gt h
theorem T.ge (h : CE c a Δ μ (fun d1 m => CE c b Δ m (fun d2 m' => aII d1 d2 fun i j => QB (decide (j ≤ i)) m') Ex) Ex) : CT c (.Compare a [.GtE] [b] pos) Δ μ QB Ex := CT.ge h
theorem W.eq {k : Nat} (hr : Room k c.X.A) (h : CE c a Δ μ (fun d1 m => CE c b Δ m (fun d2 m' => aEq d1 d2 fun k => Q (.bl k) m') Ex) Ex) : CE c (.Compare a [.Eq] [b] pos) Δ μ Q Ex := CE.eq hr.units h
theorem W.ne {k : Nat} (hr : Room k c.X.A) (h : CE c a Δ μ (fun d1 m => CE c b Δ m (fun d2 m' => aEq d1 d2 fun k => Q (.bl (!k)) m') Ex) Ex) : CE c (.Compare a [.NotEq] [b] pos) Δ μ Q Ex := CE.ne hr.units h
theorem T.eq {k : Nat} (hr : Room k c.X.A) (h : CE c a Δ μ (fun d1 m => CE c b Δ m (fun d2 m' => aEq d1 d2 fun k => QB k m') Ex) Ex) : CT c (.Compare a [.Eq] [b] pos) Δ μ QB Ex := CT.eq hr.units h
theorem T.ne {k : Nat} (hr : Room k c.X.A) (h : CE c a Δ μ (fun d1 m => CE c b Δ m (fun d2 m' => aEq d1 d2 fun k => QB (!k) m') Ex) Ex) : CT c (.Compare a [.NotEq] [b] pos) Δ μ QB Ex := CT.ne hr.units h
theorem W.inq (h : CE c a Δ μ (fun d1 m => CE c b Δ m (fun d2 m' => aIn m' d1 d2 fun k => Q (.bl k) m') Ex) Ex) (hm : behindInMarks .In b = false := by rfl) : CE c (.Compare a [.In] [b] pos) Δ μ Q Ex := CE.inq h hm
theorem W.notin (h : CE c a Δ μ (fun d1 m => CE c b Δ m (fun d2 m' => aIn m' d1 d2 fun k => Q (.bl (!k)) m') Ex) Ex) (hm : behindInMarks .NotIn b = false := by rfl) : CE c (.Compare a [.NotIn] [b] pos) Δ μ Q Ex := CE.notin h hm
theorem T.inq (h : CE c a Δ μ (fun d1 m => CE c b Δ m (fun d2 m' => aIn m' d1 d2 fun k => QB k m') Ex) Ex) (hm : behindInMarks .In b = false := by rfl) : CT c (.Compare a [.In] [b] pos) Δ μ QB Ex :=
  CT.inq (h.imp fun d1 m h1 => h1.imp fun d2 m2 ⟨ds, a1, a2, a3, a4⟩ => ⟨ds, a1, a2, a3, _, rfl, a4⟩) hm
theorem T.notin (h : CE c a Δ μ (fun d1 m => CE c b Δ m (fun d2 m' => aIn m' d1 d2 fun k => QB (!k) m') Ex) Ex) (hm : behindInMarks .NotIn b = false := by rfl) : CT c (.Compare a [.NotIn] [b] pos) Δ μ QB Ex :=
  CT.notin (h.imp fun d1 m h1 => h1.imp fun d2 m2 ⟨ds, a1, a2, a3, a4⟩ => ⟨ds, a1, a2, a3, _, rfl, a4⟩) hm
/-- a <= b <= d -/
theorem W.lele {d : Expr} (h : CE c a Δ μ (fun d1 m => CE c b Δ m (fun d2 m' => aII d1 d2 fun i j => if decide (i ≤ j) = true then CE c d Δ m' (fun d3 m2 => aI d3 fun k => Q (.bl (decide (j ≤ k))) m2) Ex else Q (.bl false) m') Ex) Ex)
    (hp : ∀ ta tb tc, PE c.X a ta → PE c.X b tb → PE c.X d tc → PE c.X (.Compare a [.LtE, .LtE] [b, d] pos) (tChain (rI0 fun i j => .bl (decide (i ≤ j))) (rI0 fun i j => .bl (decide (i ≤ j))) ta tb tc)) :
    CE c (.Compare a [.LtE, .LtE] [b, d] pos) Δ μ Q Ex := CE.chain (f := fun i j => decide (i ≤ j)) (g := fun i j => decide (i ≤ j)) op_le op_le hp h
theorem W.lelt {d : Expr} (h : CE c a Δ μ (fun d1 m => CE c b Δ m (fun d2 m' => aII d1 d2 fun i j => if decide (i ≤ j) = true then CE c d Δ m' (fun d3 m2 => aI d3 fun k => Q (.bl (decide (j < k))) m2) Ex else Q (.bl false) m') Ex) Ex)
    (hp : ∀ ta tb tc, PE c.X a ta → PE c.X b tb → PE c.X d tc → PE c.X (.Compare a [.LtE, .Lt] [b, d] pos) (tChain (rI0 fun i j => .bl (decide (i ≤ j))) (rI0 fun i j => .bl (decide (i < j))) ta tb tc)) :
    CE c (.Compare a [.LtE, .Lt] [b, d] pos) Δ μ Q Ex := CE.chain (f := fun i j => decide (i ≤ j)) (g := fun i j => decide (i < j)) op_le op_lt hp h
theorem T.val (h : CE c e Δ μ (fun d m => aB d fun k => QB k m) Ex) (he : ∀ whole, isTrue e c.X.env whole = (do let v ← whole; standAt e.pos; holding [v] (truthy v)) := by intro _; rfl) : CT c e Δ μ QB Ex := CE.tru_of h he
/-- an int as a test -/
theorem T.int (h : CE c e Δ μ (fun d m => aI d fun i => QB (i != 0) m) Ex) (he : ∀ whole, isTrue e c.X.env whole = (do let v ← whole; standAt e.pos; holding [v] (truthy v)) := by intro _; rfl) : CT c e Δ μ QB Ex := by
  intro σ H ok hs QV hQ hX
  refine ⟨_, pt_truth pe_w he, h σ H ok hs _ (fun x d1 m1 H1 e1 t1 ⟨i, z, q⟩ => ?_) hX⟩
  subst z; cases t1
  exact ⟨_, rfl, hQ _ _ _ e1 q⟩
theorem W.and {rest : List Expr} (h : CE c a Δ μ (fun d m => aB d fun k => if k = true then CE c (.BoolOp .And (b :: rest) pos) Δ m Q Ex else Q (.bl false) m) Ex) : CE c (.BoolOp .And (a :: b :: rest) pos) Δ μ Q Ex := CE.and h
theorem W.or {rest : List Expr} (h : CE c a Δ μ (fun d m => aB d fun k => if k = true then Q (.bl true) m else CE c (.BoolOp .Or (b :: rest) pos) Δ m Q Ex) Ex) : CE c (.BoolOp .Or (a :: b :: rest) pos) Δ μ Q Ex := CE.or h
theorem W.not (h : CE c a Δ μ (fun d m => aB d fun k => Q (.bl (!k)) m) Ex) : CE c (.UnaryOp .Not a pos) Δ μ Q Ex := CE.not h
theorem W.len (hm : NB c.X.mg "len") (h : CE c e Δ μ (fun d m => aSeq m d fun ds => Q (.int ds.length) m) Ex) (hg : Gl c.X "len" := by rfl)
    (he : starEach [e] c.X.env = (false, eval e c.X.env) :: starEach [] c.X.env := by rfl) (hpl : (backTo pos (starEach [] c.X.env)).any (·.1) = false := by rfl) : CE c (.Call (.Name "len" p) [e] [] pos) Δ μ Q Ex := CE.len hm h hg he hpl
theorem W.abs (hm : NB c.X.mg "abs") (h : CE c e Δ μ (fun d m => aI d fun i => Q (.int (if i < 0 then -i else i)) m) Ex) (hg : Gl c.X "abs" := by rfl)
    (he : starEach [e] c.X.env = (false, eval e c.X.env) :: starEach [] c.X.env := by rfl) (hpl : (backTo pos (starEach [] c.X.env)).any (·.1) = false := by rfl) : CE c (.Call (.Name "abs" p) [e] [] pos) Δ μ Q Ex := CE.abs hm h hg he hpl
def aIB (d : D) (R : Int → Prop) : Prop := (∃ i, d = .int i ∧ R i) ∨ ∃ k, d = .bl k ∧ R (if k then 1 else 0)
theorem aIB.int {i : Int} {R : Int → Prop} (h : R i) : aIB (.int i) R := .inl ⟨i, rfl, h⟩
theorem aIB.bl {k : Bool} {R : Int → Prop} (h : R (if k then 1 else 0)) : aIB (.bl k) R := .inr ⟨k, rfl, h⟩
theorem W.intI (hm : NB c.X.mg "int") (h : CE c e Δ μ (fun d m => aIB d fun i => Q (.int i) m) Ex) (hg : Gl c.X "int" := by rfl)
    (he : starEach [e] c.X.env = (false, eval e c.X.env) :: starEach [] c.X.env := by rfl) (hpl : (backTo pos (starEach [] c.X.env)).any (·.1) = false := by rfl) : CE c (.Call (.Name "int" p) [e] [] pos) Δ μ Q Ex := CE.intI hm h hg he hpl
def aIS (d : D) (R : Str → Prop) : Prop := (∃ i, d = .int i ∧ i.natAbs.log2 < 1920 ∧ R (toString i)) ∨ ∃ s, d = .str s ∧ R s
theorem aIS.int {i : Int} {R : Str → Prop} (hl : i.natAbs.log2 < 1920) (h : R (toString i)) : aIS (.int i) R := .inl ⟨i, rfl, hl, h⟩
theorem aIS.str {k : Str} {R : Str → Prop} (h : R k) : aIS (.str k) R := .inr ⟨k, rfl, h⟩
theorem W.strA (hm : NB c.X.mg "str") (h : CE c e Δ μ (fun d m => aIS d fun s => Q (.str s) m) Ex) (hg : Gl c.X "str" := by rfl)
    (he : starEach [e] c.X.env = (false, eval e c.X.env) :: starEach [] c.X.env := by rfl) (hpl : (backTo pos (starEach [] c.X.env)).any (·.1) = false := by rfl) : CE c (.Call (.Name "str" p) [e] [] pos) Δ μ Q Ex := CE.strA hm h hg he hpl
theorem W.all (hcalm : c.X.calm = true) (hm : NB c.X.mg "all") (h : CE c e Δ μ (fun d m => aLst m d fun ds => ∃ ns : List Bool, ds = ns.map .bl ∧ Q (.bl (ns.all id)) m) Ex) (hg : Gl c.X "all" := by rfl)
    (he : starEach [e] c.X.env = (false, eval e c.X.env) :: starEach [] c.X.env := by rfl) (hpl : (backTo pos (starEach [] c.X.env)).any (·.1) = false := by rfl) : CE c (.Call (.Name "all" p) [e] [] pos) Δ μ Q Ex :=
  CE.all hcalm hm (h.imp fun d m ⟨ds, h1, ns, h2, q⟩ => ⟨ns, by rw [← h2]; exact h1, q⟩) hg he hpl
theorem W.sum (hcalm : c.X.calm = true) (hm : NB c.X.mg "sum") (h : CE c e Δ μ (fun d m => aLst m d fun ds => ∃ ns : List Int, ds = ns.map .int ∧ Q (.int ns.sum) m) Ex) (hg : Gl c.X "sum" := by rfl)
    (he : starEach [e] c.X.env = (false, eval e c.X.env) :: starEach [] c.X.env := by rfl) (hpl : (backTo pos (starEach [] c.X.env)).any (·.1) = false := by rfl) : CE c (.Call (.Name "sum" p) [e] [] pos) Δ μ Q Ex :=
  CE.sum hcalm hm (h.imp fun d m ⟨ds, h1, ns, h2, q⟩ => ⟨ns, by rw [← h2]; exact h1, q⟩) hg he hpl
theorem W.listOf (hm : NB c.X.mg "list") (h : CE c e Δ μ (fun d m => aSeq m d fun ds => Q (.lst ds) m) Ex) (hg : Gl c.X "list" := by rfl)
    (he : starEach [e] c.X.env = (false, eval e c.X.env) :: starEach [] c.X.env := by rfl) (hpl : (backTo pos (starEach [] c.X.env)).any (·.1) = false := by rfl) : CE c (.Call (.Name "list" p) [e] [] pos) Δ μ Q Ex := CE.listOf hm h hg he hpl
theorem W.tupleOf (hm : NB c.X.mg "tuple") (h : CE c e Δ μ (fun d m => aSeq m d fun ds => Q (.tup ds) m) Ex) (hg : Gl c.X "tuple" := by rfl)
    (he : starEach [e] c.X.env = (false, eval e c.X.env) :: starEach [] c.X.env := by rfl) (hpl : (backTo pos (starEach [] c.X.env)).any (·.1) = false := by rfl) : CE c (.Call (.Name "tuple" p) [e] [] pos) Δ μ Q Ex := CE.tupleOf hm h hg he hpl
theorem W.max2 (hcalm : c.X.calm = true) (hm : NB c.X.mg "max") (h : CE c a Δ μ (fun d1 m => CE c b Δ m (fun d2 m' => aII d1 d2 fun i j => Q (.int (if j > i then j else i)) m') Ex) Ex) (hg : Gl c.X "max" := by rfl)
    (he : starEach [a, b] c.X.env = (false, eval a c.X.env) :: starEach [b] c.X.env := by rfl) (he2 : starEach [b] c.X.env = (false, eval b c.X.env) :: starEach [] c.X.env := by rfl) (hpl : (backTo pos (starEach [b] c.X.env)).any (·.1) = false := by rfl) : CE c (.Call (.Name "max" p) [a, b] [] pos) Δ μ Q Ex :=
  CE.max2 hcalm hm (CA.cons (h.imp fun d1 m h1 => CA.cons (h1.imp fun d2 m2 ⟨i, j, z1, z2, q⟩ => CA.nil ⟨i, j, by rw [z1, z2], q⟩) he2) he) hg he hpl
theorem W.min2 (hcalm : c.X.calm = true) (hm : NB c.X.mg "min") (h : CE c a Δ μ (fun d1 m => CE c b Δ m (fun d2 m' => aII d1 d2 fun i j => Q (.int (if j < i then j else i)) m') Ex) Ex) (hg : Gl c.X "min" := by rfl)
    (he : starEach [a, b] c.X.env = (false, eval a c.X.env) :: starEach [b] c.X.env := by rfl) (he2 : starEach [b] c.X.env = (false, eval b c.X.env) :: starEach [] c.X.env := by rfl) (hpl : (backTo pos (starEach [b] c.X.env)).any (·.1) = false := by rfl) : CE c (.Call (.Name "min" p) [a, b] [] pos) Δ μ Q Ex :=
  CE.min2 hcalm hm (CA.cons (h.imp fun d1 m h1 => CA.cons (h1.imp fun d2 m2 ⟨i, j, z1, z2, q⟩ => CA.nil ⟨i, j, by rw [z1, z2], q⟩) he2) he) hg he hpl
/-- isinstance with a built-in class, by its name -/
inductive TyS : Str → String → Prop
  | bool : TyS "bool" "bool" | int : TyS "int" "int" | str : TyS "str" "str" | tuple : TyS "tuple" "tuple" | list : TyS "list" "list" | dict : TyS "dict" "dict"
theorem W.isi {T : Str} {S : String} {p2 : Pos} (hT : TyS T S) (hm : NB c.X.mg "isinstance") (hmT : NB c.X.mg T) (h : CE c e Δ μ (fun d m => aTy d fun n => Q (.bl (isT n S)) m) Ex) (hg : Gl c.X "isinstance" := by rfl) (hgT : Gl c.X T := by rfl)
    (he : starEach [e, .Name T p2] c.X.env = (false, eval e c.X.env) :: starEach [.Name T p2] c.X.env := by rfl) (he2 : starEach [.Name T p2] c.X.env = (false, eval (.Name T p2) c.X.env) :: starEach [] c.X.env := by rfl)
    (hpl : (backTo pos (starEach [.Name T p2] c.X.env)).any (·.1) = false := by rfl) : CE c (.Call (.Name "isinstance" p) [e, .Name T p2] [] pos) Δ μ Q Ex := by
  cases hT
  · exact CE.isi hm hmT bv_bool (by decide) h hg hgT (by decide) (by decide) he he2 hpl
  · exact CE.isi hm hmT bv_int (by decide) h hg hgT (by decide) (by decide) he he2 hpl
  · exact CE.isi hm hmT bv_str (by decide) h hg hgT (by decide) (by decide) he he2 hpl
  · exact CE.isi hm hmT bv_tuple (by decide) h hg hgT (by decide) (by decide) he he2 hpl
  · exact CE.isi hm hmT bv_list (by decide) h hg hgT (by decide) (by decide) he he2 hpl
  · exact CE.isi hm hmT bv_dict (by decide) h hg hgT (by decide) (by decide) he he2 hpl
theorem W.ix (h : CE c a Δ μ (fun d1 m => CE c b Δ m (fun d2 m' => aSeq m' d1 fun ds => aI d2 fun j => aAt ds j fun v => Q v m') Ex) Ex) (hp : PlainIx b := by exact fun _ _ => rfl) : CE c (.Subscript a b pos) Δ μ Q Ex :=
  CE.ix (h.imp fun d1 m h1 => h1.imp fun d2 m2 ⟨ds, h2, j, h3, v, h4, q⟩ => ⟨ds, j, v, h2, h3, h4, q⟩) hp
theorem W.sl {lo hi : Option Expr} {p2 : Pos} (h : CE c a Δ μ (fun d m => CO c lo Δ m (fun l m1 => CO c hi Δ m1 (fun u m2 => aSl m2 d l u fun v => Q v m2) Ex) Ex) Ex) : CE c (.Subscript a (.Slice lo hi none p2) pos) Δ μ Q Ex := CE.sl h
theorem O.some {QO : Option Int → Mu → Prop} (h : CE c e Δ μ (fun d m => aI d fun i => QO (some i) m) Ex) : CO c (some e) Δ μ QO Ex := CO.some h
theorem W.tup {k} (h : CA c es Δ μ (fun ds m => ds.length ≤ 1000 ∧ Q (.tup ds) m) Ex) : CE c (.Tuple es k pos) Δ μ Q Ex := CE.tup h
theorem A.star {p : Pos} (h : CE c a Δ μ (fun d m => aSeq m d fun xs => CA c es Δ m (fun ds m' => QA (xs ++ ds) m') Ex) Ex) (hst : starEach (.Starred a p :: es) c.X.env = (true, eval a c.X.env) :: starEach es c.X.env := by rfl) : CA c (.Starred a p :: es) Δ μ QA Ex := CA.star h hst
theorem W.fld {f : Str} (h : CE c e Δ μ (fun d m => aObj m d fun C fs => FldC c.K C f ∧ aLook f fs fun v => Q v m) Ex) (hb : attributeBase e f c.X.env (eval e c.X.env) = eval e c.X.env := by rfl) : CE c (.Attribute e f pos) Δ μ Q Ex :=
  CE.fld (h.imp fun d m ⟨C, fs, h1, h2, v, h3, q⟩ => ⟨C, fs, v, h1, h2.c, h2.n, h3, q⟩) hb
theorem W.append {o : Expr} (h : CE c o Δ μ (fun d m => aLoc m d fun l _ => CE c e Δ m (fun d2 m' => aLoc m' (.loc l) fun l ds => ds.length ≤ 1000000 ∧ Q .non (m'.set l (.l (ds ++ [d2])))) Ex) Ex)
    (hst : starEach [e] c.X.env = (false, eval e c.X.env) :: starEach [] c.X.env := by rfl) (hp : ∀ to ta, PE c.X o to → PA c.X [e] ta → PE c.X (.Call (.Attribute o "append" apos) [e] [] pos) (tBM c.K "list" rAppend to ta)) : CE c (.Call (.Attribute o "append" apos) [e] [] pos) Δ μ Q Ex :=
  CE.bmL PySem.F.slot_list_append PySem.F.type_list_append mt_append (h.imp fun d m ⟨l, ds, z, hm, q⟩ => ⟨l, ds, z, hm, CA.cons (q.imp fun d2 m' ⟨l2, ds2, z2, hm2, hl, q2⟩ => CA.nil (by cases z2; subst z; exact pm_append hm2 hl q2)) hst⟩) hp
theorem W.extend {o : Expr} (h : CE c o Δ μ (fun d m => aLoc m d fun l _ => CE c e Δ m (fun d2 m' => aLst m' d2 fun es => aLoc m' (.loc l) fun l ds => ds.length + es.length ≤ 1000000 ∧ Q .non (m'.set l (.l (ds ++ es)))) Ex) Ex)
    (hst : starEach [e] c.X.env = (false, eval e c.X.env) :: starEach [] c.X.env := by rfl) (hp : ∀ to ta, PE c.X o to → PA c.X [e] ta → PE c.X (.Call (.Attribute o "extend" apos) [e] [] pos) (tBM c.K "list" rExtend to ta)) : CE c (.Call (.Attribute o "extend" apos) [e] [] pos) Δ μ Q Ex :=
  CE.bmL PySem.F.slot_list_extend PySem.F.type_list_extend mt_extend (h.imp fun d m ⟨l, ds, z, hm, q⟩ => ⟨l, ds, z, hm, CA.cons (q.imp fun d2 m' ⟨es, h5, l2, ds2, z2, hm2, hl, q2⟩ => CA.nil (by cases z2; subst z; exact pm_extend hm2 h5 hl q2)) hst⟩) hp
theorem W.pop {o : Expr} (h : CE c o Δ μ (fun d m => aLoc m d fun l ds => ∃ v, ds[ds.length - 1]? = some v ∧ Q v (m.set l (.l ds.dropLast))) Ex) (hp : ∀ to, PE c.X o to → PE c.X (.Call (.Attribute o "pop" apos) [] [] pos) (tBM0 c.K "list" rPop to)) : CE c (.Call (.Attribute o "pop" apos) [] [] pos) Δ μ Q Ex :=
  CE.bmL0 PySem.F.slot_list_pop PySem.F.type_list_pop mt_pop (h.imp fun d m ⟨l, ds, z, hm, v, hv, q⟩ => ⟨l, ds, z, hm, by subst z; exact pm_pop hm hv q⟩) hp
theorem W.popAt {o : Expr} (h : CE c o Δ μ (fun d m => aLoc m d fun l _ => CE c e Δ m (fun d2 m' => aI d2 fun i => aLoc m' (.loc l) fun l ds => ∃ n v, (-(2 ^ 63) ≤ i ∧ i < 2 ^ 63) ∧ seqIndex? i ds.length = some n ∧ ds[n]? = some v ∧ Q v (m'.set l (.l (ds.eraseIdx n)))) Ex) Ex)
    (hst : starEach [e] c.X.env = (false, eval e c.X.env) :: starEach [] c.X.env := by rfl) (hp : ∀ to ta, PE c.X o to → PA c.X [e] ta → PE c.X (.Call (.Attribute o "pop" apos) [e] [] pos) (tBM c.K "list" rPopAt to ta)) : CE c (.Call (.Attribute o "pop" apos) [e] [] pos) Δ μ Q Ex :=
  CE.bmL PySem.F.slot_list_pop PySem.F.type_list_pop mt_popAt (h.imp fun d m ⟨l, ds, z, hm, q⟩ => ⟨l, ds, z, hm, CA.cons (q.imp fun d2 m' ⟨i, z3, l2, ds2, z2, hm2, n, v, hi, hn, hv, q2⟩ => CA.nil (by cases z2; subst z; subst z3; exact pm_popAt hm2 hi.1 hi.2 hn hv q2)) hst⟩) hp
theorem W.join {o : Expr} (h : CE c o Δ μ (fun d m => aS d fun sep => CE c e Δ m (fun d2 m' => aLst m' d2 fun ds => ∃ ys : List Str, ds = ys.map .str ∧ (ys.map (·.length)).sum + ys.length * sep.length ≤ 1000000 ∧ Q (.str (Txt.join sep ys)) m') Ex) Ex)
    (hs : starEach [e] c.X.env = [(false, eval e c.X.env)] := by rfl) (hbase : attributeBase o "join" c.X.env (eval o c.X.env) = eval o c.X.env := by rfl) (hline : (apos.endLine == pos.line) = true := by rfl) : CE c (.Call (.Attribute o "join" apos) [e] [] pos) Δ μ Q Ex :=
  CE.join (h.imp fun d m ⟨s, z, h1⟩ => ⟨s, z, h1.imp fun d2 m2 ⟨ds, h2, ys, z2, hl, q⟩ => ⟨ys, by rw [← z2]; exact h2, hl, q⟩⟩) hs hbase hline
theorem W.split {o : Expr} (h : CE c o Δ μ (fun d m => aS d fun s => CE c e Δ m (fun d2 m' => aS d2 fun sep => (sep.length == 0) = false ∧ s.length + 2 ≤ 1000000 ∧ Q (.lst ((Txt.split s sep).map .str)) m') Ex) Ex)
    (hs : starEach [e] c.X.env = [(false, eval e c.X.env)] := by rfl) (hbase : attributeBase o "split" c.X.env (eval o c.X.env) = eval o c.X.env := by rfl) (hline : (apos.endLine == pos.line) = true := by rfl) : CE c (.Call (.Attribute o "split" apos) [e] [] pos) Δ μ Q Ex :=
  CE.split h hs hbase hline
theorem S.fld {o : Expr} {f : Str} {p : Pos} (h : CE c e Δ μ (fun d m => CE c o Δ m (fun d1 m1 => ∃ C fs a, d1 = .loc a ∧ m1 a = some (.o C fs) ∧ FldC c.K C f ∧ fs.length < 1000 ∧ E.nx Δ (m1.set a (.o C (setF f d fs)))) E.ex) E.ex)
    (hsw : swapsWith e (some (.Attribute o f p)) pos.line c.X.env = pure false := by rfl) : CS c (.Assign [.Attribute o f p] e pos) Δ μ E :=
  CS.fld (h.imp fun d m h1 => h1.imp fun d1 m1 ⟨C, fs, a, z, hm, hf, hl, q⟩ => ⟨C, fs, a, z, hm, hf.c, hf.n, hl, q⟩) hsw
theorem I.list {tg : Expr} (h : CE c e Δ μ (fun d m => aStay d fun ds => QA ds m) Ex) : CI c tg e Δ μ QA Ex := CI.list h
theorem I.tup {tg : Expr} (h : CE c e Δ μ (fun d m => aTup d fun ds => QA ds m) Ex) : CI c tg e Δ μ QA Ex := CI.tup h
theorem I.range1 {tg : Expr} (hm : NB c.X.mg "range") (h : CE c e Δ μ (fun d m => aI d fun j => (-(2 ^ 62) ≤ j ∧ j < 2 ^ 62) ∧ QA (rngD 0 1 j.toNat) m) Ex) (hg : Gl c.X "range" := by rfl)
    (hst : starEach [e] c.X.env = [(false, eval e c.X.env)] := by rfl) : CI c tg (.Call (.Name "range" p) [e] [] pos) Δ μ QA Ex := CI.range1 hm (h.imp fun d m ⟨j, z, h1, q⟩ => ⟨j, z, h1.1, h1.2, q⟩) hg hst
theorem I.range2 {tg : Expr} (hm : NB c.X.mg "range") (h : CE c a Δ μ (fun d1 m => CE c b Δ m (fun d2 m' => aII d1 d2 fun i j => (-(2 ^ 62) ≤ i ∧ i < 2 ^ 62 ∧ -(2 ^ 62) ≤ j ∧ j < 2 ^ 62) ∧ QA (rngD i 1 (j - i).toNat) m') Ex) Ex) (hg : Gl c.X "range" := by rfl)
    (hst : starEach [a, b] c.X.env = [(false, eval a c.X.env), (false, eval b c.X.env)] := by rfl) (hst2 : starEach [b] c.X.env = [(false, eval b c.X.env)] := by rfl) : CI c tg (.Call (.Name "range" p) [a, b] [] pos) Δ μ QA Ex :=
  CI.range2 hm (CA.cons (h.imp fun d1 m h1 => CA.cons (h1.imp fun d2 m2 ⟨i, j, z1, z2, h3, q⟩ => CA.nil ⟨i, j, by rw [z1, z2], h3, q⟩) hst2) (by rw [hst, hst2])) hg hst hst2
theorem I.enum {elts : List Expr} {kk : Nat} {tpos : Pos} (hm : NB c.X.mg "enumerate") (h : CE c e Δ μ (fun d m => aStay d fun ds => QA (enumD ds) m) Ex) (hg : Gl c.X "enumerate" := by rfl)
    (hst : starEach [e] c.X.env = [(false, eval e c.X.env)] := by rfl) : CI c (.Tuple elts kk tpos) (.Call (.Name "enumerate" p) [e] [] pos) Δ μ QA Ex := CI.enum hm h hg hst
theorem W.call {x : Str} {k j : Nat} {s : SpD} (F : FnG c.X.prog c.X.w c.K c.X.mg c.X.base x k s) (hr : Room j c.X.A) (hl : k ≤ j) (h : CA c (e :: es) Δ μ (fun ds m => s ds m Q (fun C o m' => Ex C o Δ m')) Ex) (hg : Gl c.X x := by rfl) (hdb : (x == ("__debug__" : Str)) = false := by decide)
    (he : starEach (e :: es) c.X.env = (false, eval e c.X.env) :: starEach es c.X.env := by rfl) (hpl : (backTo pos (starEach es c.X.env)).any (·.1) = false := by rfl) : CE c (.Call (.Name x p) (e :: es) [] pos) Δ μ Q Ex := CE.call F.at (hr.mono hl) h hg hdb he hpl
theorem W.call0 {x : Str} {k j : Nat} {s : SpD} (F : FnG c.X.prog c.X.w c.K c.X.mg c.X.base x k s) (hr : Room j c.X.A) (hl : k ≤ j) (h : s [] μ Q (fun C o m' => Ex C o Δ m')) (hg : Gl c.X x := by rfl) (hdb : (x == ("__debug__" : Str)) = false := by decide) : CE c (.Call (.Name x p) [] [] pos) Δ μ Q Ex := CE.call0 F.at (hr.mono hl) h hg hdb
/-- what is made changes no more -/
def aFrz (d : D) (m : Mu) (Q : D → Mu → Prop) : Prop := ∃ p C fs, d = .loc p ∧ m p = some (.o C fs) ∧ Q (.ins C fs) (m.del p)
theorem aFrz.mk {p C : Addr} {fs : List (Str × D)} {m : Mu} (hm : m p = some (.o C fs)) (q : Q (.ins C fs) (m.del p)) : aFrz (.loc p) m Q := ⟨p, C, fs, rfl, hm, q⟩
theorem W.make {x : Str} {C : Addr} {k j : Nat} {s : SpD} (F : CnG c.X.prog c.X.w c.K c.X.mg c.X.base x C k s) (hr : Room j c.X.A) (hl : k + 1 ≤ j)
    (h : CA c (e :: es) Δ μ (fun ds m1 => ∀ p, m1 p = none → s (.loc p :: ds) (m1.set p (.o C [])) (fun d m2 => d = .non ∧ aFrz (.loc p) m2 Q) (fun C o m' => Ex C o Δ m')) Ex) (hg : Gl c.X x := by rfl) (hdb : (x == ("__debug__" : Str)) = false := by decide)
    (he : starEach (e :: es) c.X.env = (false, eval e c.X.env) :: starEach es c.X.env := by rfl) (hpl : (backTo pos (starEach es c.X.env)).any (·.1) = false := by rfl) : CE c (.Call (.Name x p) (e :: es) [] pos) Δ μ Q Ex :=
  CE.freezeO (CE.make F.at (hr.mono hl) h hg hdb he hpl)
/-- an instance that changes -/
theorem W.makeL {x : Str} {C : Addr} {k j : Nat} {s : SpD} (F : CnG c.X.prog c.X.w c.K c.X.mg c.X.base x C k s) (hr : Room j c.X.A) (hl : k + 1 ≤ j)
    (h : CA c (e :: es) Δ μ (fun ds m1 => ∀ p, m1 p = none → s (.loc p :: ds) (m1.set p (.o C [])) (fun d m2 => d = .non ∧ Q (.loc p) m2) (fun C o m' => Ex C o Δ m')) Ex) (hg : Gl c.X x := by rfl) (hdb : (x == ("__debug__" : Str)) = false := by decide)
    (he : starEach (e :: es) c.X.env = (false, eval e c.X.env) :: starEach es c.X.env := by rfl) (hpl : (backTo pos (starEach es c.X.env)).any (·.1) = false := by rfl) : CE c (.Call (.Name x p) (e :: es) [] pos) Δ μ Q Ex :=
  CE.make F.at (hr.mono hl) h hg hdb he hpl
def aMeth (m : Mu) (d : D) (C : Addr) (mth : Str) (R : Prop) : Prop := ∃ fs, InsAt m d C fs ∧ lookF mth fs = none ∧ R
theorem aMeth.ins {m : Mu} {C : Addr} {mth : Str} {fs : List (Str × D)} {R : Prop} (hl : lookF mth fs = none) (h : R) : aMeth m (.ins C fs) C mth R := ⟨fs, .inl rfl, hl, h⟩
theorem aMeth.loc {m : Mu} {C l : Addr} {mth : Str} {fs : List (Str × D)} {R : Prop} (hm : m l = some (.o C fs)) (hl : lookF mth fs = none) (h : R) : aMeth m (.loc l) C mth R := ⟨fs, .inr ⟨l, rfl, hm⟩, hl, h⟩
theorem W.meth {C : Addr} {mth : Str} {k j : Nat} {s : SpD} {o : Expr} {pl : Sem Bool} (F : MtG c.X.prog c.X.w c.K c.X.mg c.X.base C mth k s) (hr : Room j c.X.A) (hl : k ≤ j)
    (h : CE c o Δ μ (fun d m1 => aMeth m1 d C mth (CA c (e :: es) Δ m1 (fun ds m' => s (d :: ds) m' Q (fun C o m' => Ex C o Δ m')) Ex)) Ex)
    (hst : starEach (e :: es) c.X.env = (false, eval e c.X.env) :: starEach es c.X.env := by rfl) (hpl : (backTo pos (starEach es c.X.env)).any (·.1) = false := by rfl)
    (ht : eval (.Call (.Attribute o mth apos) (e :: es) [] pos) c.X.env = (do
      let ov ← eval o c.X.env
      standAt apos.atName
      let (f, first) ← holding [ov] (getMethod ov mth pl)
      callWith pos f first (backTo pos (starEach (e :: es) c.X.env)) (backToKw pos (keywordEach [] c.X.env))) := by rfl) : CE c (.Call (.Attribute o mth apos) (e :: es) [] pos) Δ μ Q Ex :=
  CE.meth F.at (hr.mono hl) h hst hpl ht
theorem W.meth0 {C : Addr} {mth : Str} {k j : Nat} {s : SpD} {o : Expr} {pl : Sem Bool} (F : MtG c.X.prog c.X.w c.K c.X.mg c.X.base C mth k s) (hr : Room j c.X.A) (hl : k ≤ j)
    (h : CE c o Δ μ (fun d m1 => aMeth m1 d C mth (s [d] m1 Q (fun C o m' => Ex C o Δ m'))) Ex)
    (ht : eval (.Call (.Attribute o mth apos) [] [] pos) c.X.env = (do
      let ov ← eval o c.X.env
      standAt apos.atName
      let (f, first) ← holding [ov] (getMethod ov mth pl)
      callWith pos f first (backTo pos (starEach [] c.X.env)) (backToKw pos (keywordEach [] c.X.env))) := by rfl) : CE c (.Call (.Attribute o mth apos) [] [] pos) Δ μ Q Ex :=
  CE.meth0 F.at (hr.mono hl) h ht
end
end AM

set_option autoImplicit false
set_option maxRecDepth 100000
set_option maxHeartbeats 1000000
namespace AM
open PySem L2 PySem.Spec PyProof.Rows
/-! ### ways that part -/
theorem ifD {p A B : Prop} [Decidable p] (h1 : p → A) (h2 : ¬ p → B) : if decide p = true then A else B := by
  by_cases h : p
  · rw [if_pos (decide_eq_true h)]; exact h1 h
  · rw [if_neg (by rw [decide_eq_false h]; decide)]; exact h2 h
theorem ifN {b : Bool} {A B : Prop} (h : if b = true then B else A) : if (!b) = true then A else B := by
  cases b <;> simpa using h
theorem ifB {b : Bool} {A B : Prop} (h1 : b = true → A) (h2 : b = false → B) : if b = true then A else B := by
  cases b
  · rw [if_neg (by decide)]; exact h2 rfl
  · rw [if_pos rfl]; exact h1 rfl
theorem ifDT {p A B : Prop} [Decidable p] (h : p) (q : A) : if decide p = true then A else B := by rw [if_pos (decide_eq_true h)]; exact q
theorem ifDF {p A B : Prop} [Decidable p] (h : ¬ p) (q : B) : if decide p = true then A else B := by rw [if_neg (by rw [decide_eq_false h]; decide)]; exact q
theorem ifT {b : Bool} {A B : Prop} (h : b = true) (q : A) : if b = true then A else B := by rw [if_pos h]; exact q
theorem ifF {b : Bool} {A B : Prop} (h : b = false) (q : B) : if b = true then A else B := by rw [if_neg (by rw [h]; decide)]; exact q
theorem toQ {Q : D → Mu → Prop} {d d' : D} {m m' : Mu} (q : Q d m) (h : d' = d) (hm : m' = m) : Q d' m' := by rw [h, hm]; exact q
theorem toQb {Q : D → Mu → Prop} {b b' : Bool} {m : Mu} (q : Q (.bl b) m) (h : b' = b) : Q (.bl b') m := by rw [h]; exact q
theorem toQi {Q : D → Mu → Prop} {b b' : Int} {m : Mu} (q : Q (.int b) m) (h : b' = b) : Q (.int b') m := by rw [h]; exact q
/-! ### comprehensions that change nothing -/
section
variable {c : Ctx} {scope : Scope} {vs : List Nat} {g : TGD} {t elt : Expr} {Δ : Sl} {Q : D → Mu → Prop} {ds : List D} {m : Mu}
theorem LcD.map (f : Nat → D → D) (hl : ds.length ≤ 100000) (h : ∀ i d acc L, ds[i]? = some d → m L = none → ∃ Δ2, g d (wipeD Δ vs) = some Δ2 ∧ AllB c scope fun c => CE c elt Δ2 (m.set L (.l acc)) (fun r m2 => r = f i d ∧ m2 = m.set L (.l acc)) noX)
    (q : Q (.lst (ds.mapIdx f)) m) : LcD c scope vs g [] elt Δ Q ds m := by
  refine ⟨hl, fun i acc m' => m' = m ∧ acc = (ds.mapIdx f).take i, ⟨rfl, rfl⟩, fun i d acc m' L hd ⟨e1, e2⟩ hL => ?_, fun acc m' ⟨e1, e2⟩ => ?_⟩
  · subst e1
    obtain ⟨Δ2, hg, he⟩ := h i d acc L hd hL
    refine ⟨Δ2, hg, fun s H C cl fp => (he s H C cl fp).imp fun r m2 ⟨z1, z2⟩ => ⟨m', z2, hL, rfl, ?_⟩⟩
    subst z1; subst e2
    have : (ds.mapIdx f)[i]? = some (f i d) := by rw [List.getElem?_mapIdx, hd]; rfl
    rw [List.take_succ, this]
  · subst e1; subst e2
    have : (ds.mapIdx f).length = ds.length := by simp
    rw [← this, List.take_length]; exact q
theorem mapIdx_map {ds : List D} {f : D → D} : ds.mapIdx (fun _ d => f d) = ds.map f := by
  apply List.ext_getElem?
  intro i
  rw [List.getElem?_mapIdx, List.getElem?_map]
theorem LcD.map1 (f : D → D) (hl : ds.length ≤ 100000) (h : ∀ d acc L, d ∈ ds → m L = none → ∃ Δ2, g d (wipeD Δ vs) = some Δ2 ∧ AllB c scope fun c => CE c elt Δ2 (m.set L (.l acc)) (fun r m2 => r = f d ∧ m2 = m.set L (.l acc)) noX)
    (q : Q (.lst (ds.map f)) m) : LcD c scope vs g [] elt Δ Q ds m :=
  LcD.map (fun _ d => f d) hl (fun i d acc L hd hL => h d acc L (List.mem_of_getElem? hd) hL) (by rw [mapIdx_map]; exact q)
theorem LcD.filt (p : D → Bool) (f : D → D) (hl : ds.length ≤ 100000) (h : ∀ d acc L, d ∈ ds → m L = none → ∃ Δ2, g d (wipeD Δ vs) = some Δ2 ∧ (AllB c scope fun c => CT c t Δ2 (m.set L (.l acc)) (fun k m2 => k = p d ∧ m2 = m.set L (.l acc)) noX) ∧
      (p d = true → AllB c scope fun c => CE c elt Δ2 (m.set L (.l acc)) (fun r m2 => r = f d ∧ m2 = m.set L (.l acc)) noX))
    (q : Q (.lst ((ds.filter p).map f)) m) : LcD c scope vs g [t] elt Δ Q ds m := by
  refine ⟨hl, fun i acc m' => m' = m ∧ acc = ((ds.take i).filter p).map f, ⟨rfl, rfl⟩, fun i d acc m' L hd ⟨e1, e2⟩ hL => ?_, fun acc m' ⟨e1, e2⟩ => ?_⟩
  · subst e1
    obtain ⟨Δ2, hg, ht, he⟩ := h d acc L (List.mem_of_getElem? hd) hL
    refine ⟨Δ2, hg, p d, ht, fun hp => fun s H C cl fp => (he hp s H C cl fp).imp fun r m2 ⟨z1, z2⟩ => ⟨m', z2, hL, rfl, ?_⟩, fun hp => ⟨m', rfl, hL, rfl, ?_⟩⟩
    · subst z1; subst e2
      rw [List.take_succ, hd, List.filter_append, List.map_append]
      simp [hp]
    · subst e2
      rw [List.take_succ, hd, List.filter_append, List.map_append]
      simp [hp]
  · subst e1; subst e2
    rw [List.take_length]; exact q
end
/-! ### data of the program -/
def btw (v : D) (lo hi : Int) : Bool := match v with
  | .int i => decide (lo ≤ i) && decide (i ≤ hi)
  | _ => false
def Pl (d : D) : Prop := ∃ n, d.tyN = some n
def isS : D → Bool
  | .str _ => true | _ => false
def isTu : D → Bool
  | .tup _ => true | _ => false
inductive Op where
  | and | or | unl
  deriving DecidableEq
inductive Pat where
  | all | none | lamp (k : Int) | dot (k : Int) (u : Bool) | comb (e r : Int) | beat (e r : Int) | not (p : Pat) | bin (o : Op) (p q : Pat)
  deriving DecidableEq
def Op.s : Op → Str
  | .and => "and" | .or => "or" | .unl => "unlike"
def wayS (u : Bool) : Str := if u then "up" else "down"
def Pat.d : Pat → D
  | .all => .tup [.str "all"] | .none => .tup [.str "none"] | .lamp k => .tup [.str "lamp", .int k] | .dot k u => .tup [.str "dot", .int k, .str (wayS u)]
  | .comb e r => .tup [.str "comb", .int e, .int r] | .beat e r => .tup [.str "beat", .int e, .int r] | .not p => .tup [.str "not", p.d] | .bin o p q => .tup [.str o.s, p.d, q.d]
def plc (k : Int) : Prop := -3 ≤ k ∧ k ≤ 2
def evr (e r : Int) : Prop := (e = 2 ∨ e = 3) ∧ 0 ≤ r ∧ r < e
def Pat.ok : Pat → Prop
  | .all => True | .none => True | .lamp k => plc k | .dot k _ => plc k | .comb e r => evr e r | .beat e r => evr e r | .not p => p.ok | .bin _ p q => p.ok ∧ q.ok
def Pat.cnt : Pat → Nat
  | .not p => p.cnt + 1 | .bin _ p q => p.cnt + q.cnt + 1 | _ => 1
def Pat.dep : Pat → Nat
  | .not p => p.dep + 1 | .bin _ p q => max p.dep q.dep + 1 | _ => 0
def Pat.kids : Pat → List Pat
  | .not p => [p] | .bin _ p q => [p, q] | _ => []
def Pat.subs : Pat → List Pat
  | .not p => .not p :: p.subs | .bin o p q => .bin o p q :: (p.subs ++ q.subs) | p => [p]
theorem Pat.subs_len : ∀ p : Pat, p.subs.length = p.cnt
  | .all => rfl | .none => rfl | .lamp _ => rfl | .dot _ _ => rfl | .comb _ _ => rfl | .beat _ _ => rfl
  | .not p => by unfold Pat.subs Pat.cnt; rw [List.length_cons, Pat.subs_len p]
  | .bin o p q => by unfold Pat.subs Pat.cnt; rw [List.length_cons, List.length_append, Pat.subs_len p, Pat.subs_len q]
theorem Pat.cnt_pos : ∀ p : Pat, 1 ≤ p.cnt
  | .all => Nat.le_refl _ | .none => Nat.le_refl _ | .lamp _ => Nat.le_refl _ | .dot _ _ => Nat.le_refl _ | .comb _ _ => Nat.le_refl _ | .beat _ _ => Nat.le_refl _
  | .not p => Nat.le_add_left _ _
  | .bin o p q => Nat.le_add_left _ _
theorem Pat.depth_py : ∀ p : Pat, p.d.py.depth ≤ p.dep + 2
  | .all => by decide +kernel
  | .none => by decide +kernel
  | .lamp k => by unfold Pat.d D.py D.pys PyData.depth; simp [D.py, D.pys, PyData.depth, PyData.depthAll]
  | .dot k u => by unfold Pat.d D.py D.pys PyData.depth; simp [D.py, D.pys, PyData.depth, PyData.depthAll]
  | .comb e r => by unfold Pat.d D.py D.pys PyData.depth; simp [D.py, D.pys, PyData.depth, PyData.depthAll]
  | .beat e r => by unfold Pat.d D.py D.pys PyData.depth; simp [D.py, D.pys, PyData.depth, PyData.depthAll]
  | .not p => by
    have := Pat.depth_py p
    simp [Pat.d, Pat.dep, D.py, D.pys, PyData.depth, PyData.depthAll]; omega
  | .bin o p q => by
    have := Pat.depth_py p
    have := Pat.depth_py q
    simp [Pat.d, Pat.dep, D.py, D.pys, PyData.depth, PyData.depthAll]; omega
/-! is a piece of data a pattern -/
def inS (s : Str) (l : List Str) : Bool := l.any fun y => y == s
def intOf : D → Int
  | .int i => i | _ => 0
def plainB (s : Str) (its : List D) : Bool :=
  if inS s ["all", "none"] then its.isEmpty
  else if s = "lamp" then (match its with | [k] => btw k (-3) 2 | _ => false)
  else if s = "dot" then (match its with | [k, u] => btw k (-3) 2 && (match u with | .str y => inS y ["down", "up"] | _ => false) | _ => false)
  else if inS s ["beat", "comb"] then (match its with | [e, r] => btw e 2 3 && btw r 0 (intOf e - 1) | _ => false)
  else false
def patB : Nat → D → Bool
  | n + 1, .tup (.str s :: its) => if inS s ["and", "or", "unlike"] then its.length == 2 && its.all (patB n) else if s = "not" then its.length == 1 && its.all (patB n) else plainB s its
  | _, _ => false
theorem mulB {e : Int} : (decide (2 ≤ e) && decide (e ≤ 3)) = true → e = 2 ∨ e = 3 := by
  intro h
  rw [Bool.and_eq_true, decide_eq_true_eq, decide_eq_true_eq] at h
  omega
theorem patB_pat : ∀ (p : Pat) (n : Nat), p.ok → p.dep < n → patB n p.d = true
  | p, 0, _, h => absurd h (Nat.not_lt_zero _)
  | .all, n + 1, _, _ => rfl
  | .none, n + 1, _, _ => rfl
  | .lamp k, n + 1, h, _ => by
    have : plainB "lamp" [.int k] = btw (.int k) (-3) 2 := rfl
    show plainB "lamp" [.int k] = true
    rw [this]; unfold btw; simp only [Bool.and_eq_true, decide_eq_true_eq]; exact h
  | .dot k u, n + 1, h, _ => by
    have : ∀ u : Bool, plainB "dot" [.int k, .str (wayS u)] = btw (.int k) (-3) 2 := fun u => by cases u <;> (show (btw (.int k) (-3) 2 && true) = _) <;> rw [Bool.and_true]
    show plainB "dot" [.int k, .str (wayS u)] = true
    rw [this]; unfold btw; simp only [Bool.and_eq_true, decide_eq_true_eq]; exact h
  | .comb e r, n + 1, h, _ => by
    have : plainB "comb" [.int e, .int r] = (btw (.int e) 2 3 && btw (.int r) 0 (e - 1)) := rfl
    show plainB "comb" [.int e, .int r] = true
    rw [this]; unfold btw; simp only [Bool.and_eq_true, decide_eq_true_eq]
    obtain ⟨h1, h2, h3⟩ := h
    omega
  | .beat e r, n + 1, h, _ => by
    have : plainB "beat" [.int e, .int r] = (btw (.int e) 2 3 && btw (.int r) 0 (e - 1)) := rfl
    show plainB "beat" [.int e, .int r] = true
    rw [this]; unfold btw; simp only [Bool.and_eq_true, decide_eq_true_eq]
    obtain ⟨h1, h2, h3⟩ := h
    omega
  | .not p, n + 1, h, hd => by
    have : patB (n + 1) (Pat.not p).d = (patB n p.d && true) := rfl
    rw [this, patB_pat p n h (by unfold Pat.dep at hd; omega)]; rfl
  | .bin o p q, n + 1, h, hd => by
    have : ∀ o, patB (n + 1) (Pat.bin o p q).d = (patB n p.d && (patB n q.d && true)) := fun o => by cases o <;> rfl
    unfold Pat.dep at hd
    rw [this, patB_pat p n h.1 (by omega), patB_pat q n h.2 (by omega)]; rfl
theorem pat_isPy : ∀ p : Pat, p.d.isPy = true
  | .all => by decide +kernel
  | .none => by decide +kernel
  | .lamp k => by
    show (PyData.strOk "lamp" && (true && true)) = true
    decide +kernel
  | .dot k u => by
    have : ∀ u, (PyData.strOk "dot" && (true && (PyData.strOk (wayS u) && true))) = true := by decide +kernel
    exact this u
  | .comb e r => by
    show (PyData.strOk "comb" && (true && (true && true))) = true
    decide +kernel
  | .beat e r => by
    show (PyData.strOk "beat" && (true && (true && true))) = true
    decide +kernel
  | .not p => by
    show (PyData.strOk "not" && (p.d.isPy && true)) = true
    rw [pat_isPy p]; decide +kernel
  | .bin o p q => by
    show (PyData.strOk o.s && (p.d.isPy && (q.d.isPy && true))) = true
    rw [pat_isPy p, pat_isPy q]; cases o <;> decide +kernel
end AM
namespace AM
open PySem L2 PySem.Spec PyProof.Rows
theorem inS_cons {s y : Str} {l : List Str} : inS s (y :: l) = (y == s || inS s l) := rfl
theorem inS_nil {s : Str} : inS s [] = false := rfl
theorem inS2 {s a b : Str} (h : inS s [a, b] = true) : s = a ∨ s = b := by
  unfold inS at h; simp at h; rcases h with h | h
  · exact .inl h.symm
  · exact .inr h.symm
theorem inS3 {s a b c : Str} (h : inS s [a, b, c] = true) : s = a ∨ s = b ∨ s = c := by
  unfold inS at h; simp at h; rcases h with h | h | h
  · exact .inl h.symm
  · exact .inr (.inl h.symm)
  · exact .inr (.inr h.symm)
theorem btw_inv {v : D} {lo hi : Int} (h : btw v lo hi = true) : ∃ i, v = .int i ∧ lo ≤ i ∧ i ≤ hi := by
  cases v <;> try (cases h)
  rename_i i
  unfold btw at h
  simp only [Bool.and_eq_true, decide_eq_true_eq] at h
  exact ⟨i, rfl, h.1, h.2⟩
theorem plain_inv {s : Str} {its : List D} (h : plainB s its = true) : ∃ p : Pat, .tup (.str s :: its) = p.d ∧ p.ok ∧ p.dep = 0 := by
  unfold plainB at h
  split at h
  · rename_i hs
    have : its = [] := by cases its <;> first | rfl | cases h
    subst this
    rcases inS2 hs with rfl | rfl
    · exact ⟨.all, rfl, trivial, rfl⟩
    · exact ⟨.none, rfl, trivial, rfl⟩
  · split at h
    · rename_i hs; subst hs
      split at h
      · obtain ⟨i, rfl, h1, h2⟩ := btw_inv h
        exact ⟨.lamp i, rfl, ⟨h1, h2⟩, rfl⟩
      · cases h
    · split at h
      · rename_i hs; subst hs
        split at h
        · rename_i k u
          rw [Bool.and_eq_true] at h
          obtain ⟨i, rfl, h1, h2⟩ := btw_inv h.1
          have h3 := h.2
          split at h3
          · rcases inS2 h3 with rfl | rfl
            · exact ⟨.dot i false, rfl, ⟨h1, h2⟩, rfl⟩
            · exact ⟨.dot i true, rfl, ⟨h1, h2⟩, rfl⟩
          · cases h3
        · cases h
      · split at h
        · rename_i hs
          split at h
          · rename_i e r
            rw [Bool.and_eq_true] at h
            obtain ⟨e, rfl, g1, g2⟩ := btw_inv h.1
            have he : e = 2 ∨ e = 3 := by omega
            have h0 : intOf (.int e) = e := rfl
            rw [h0] at h
            obtain ⟨i, rfl, h1, h2⟩ := btw_inv h.2
            rcases inS2 hs with rfl | rfl
            · exact ⟨.beat e i, rfl, ⟨he, h1, by omega⟩, rfl⟩
            · exact ⟨.comb e i, rfl, ⟨he, h1, by omega⟩, rfl⟩
          · cases h
        · cases h
theorem patB_inv : ∀ (n : Nat) (d : D), patB n d = true → ∃ p : Pat, d = p.d ∧ p.ok ∧ p.dep < n
  | 0, d, h => by unfold patB at h; cases h
  | n + 1, d, h => by
    unfold patB at h
    split at h
    · rename_i n' s its e
      cases e
      split at h
      · rename_i hs
        rw [Bool.and_eq_true] at h
        match its, h.1, h.2 with
        | [a, b], _, h2 =>
          have h2' : (patB n a && (patB n b && true)) = true := h2
          rw [Bool.and_eq_true, Bool.and_eq_true] at h2'
          obtain ⟨p, e1, o1, d1⟩ := patB_inv n a h2'.1
          obtain ⟨q, e2, o2, d2⟩ := patB_inv n b h2'.2.1
          subst e1; subst e2
          rcases inS3 hs with rfl | rfl | rfl
          · exact ⟨.bin .and p q, rfl, ⟨o1, o2⟩, by unfold Pat.dep; omega⟩
          · exact ⟨.bin .or p q, rfl, ⟨o1, o2⟩, by unfold Pat.dep; omega⟩
          · exact ⟨.bin .unl p q, rfl, ⟨o1, o2⟩, by unfold Pat.dep; omega⟩
      · split at h
        · rename_i hs
          subst hs
          rw [Bool.and_eq_true] at h
          match its, h.1, h.2 with
          | [a], _, h2 =>
            have h2' : (patB n a && true) = true := h2
            rw [Bool.and_eq_true] at h2'
            obtain ⟨p, e1, o1, d1⟩ := patB_inv n a h2'.1
            subst e1
            exact ⟨.not p, rfl, o1, by unfold Pat.dep; omega⟩
        · obtain ⟨p, e1, o1, d1⟩ := plain_inv h
          exact ⟨p, e1, o1, by omega⟩
    · cases h
def oneB (v : D) (l : List Str) : Bool := match v with
  | .str s => inS s l
  | _ => false
theorem inD_strs {s : Str} : ∀ {l : List Str}, inD (.str s) (l.map .str) = inS s l
  | [] => rfl
  | y :: l => by
    show (eqFD (.str y) (.str s) || inD (.str s) (l.map .str)) = (y == s || inS s l)
    rw [inD_strs]; rfl
theorem flat_strs : ∀ (l : List Str), (l.map D.str).all D.flat = true
  | [] => rfl
  | _ :: r => by rw [List.map_cons, List.all_cons, flat_strs r]; rfl
end AM
namespace AM
open PySem L2 PySem.Spec PyProof.Rows
def Pat.w : Pat → Str
  | .all => "all" | .none => "none" | .lamp _ => "lamp" | .dot _ _ => "dot" | .comb _ _ => "comb" | .beat _ _ => "beat" | .not _ => "not" | .bin o _ _ => o.s
def Pat.its : Pat → List D
  | .all => [] | .none => [] | .lamp k => [.int k] | .dot k u => [.int k, .str (wayS u)] | .comb e r => [.int e, .int r] | .beat e r => [.int e, .int r] | .not p => [p.d] | .bin _ p q => [p.d, q.d]
theorem Pat.d_eq : ∀ p : Pat, p.d = .tup (.str p.w :: p.its)
  | .all => rfl | .none => rfl | .lamp _ => rfl | .dot _ _ => rfl | .comb _ _ => rfl | .beat _ _ => rfl | .not _ => rfl | .bin _ _ _ => rfl
theorem Pat.d_tu (p : Pat) : isTu p.d = true := by rw [Pat.d_eq]; rfl
theorem Pat.pl (p : Pat) : Pl p.d := by rw [Pat.d_eq]; exact ⟨_, rfl⟩
theorem Pat.its_len (p : Pat) : p.its.length ≤ 2 := by cases p <;> simp [Pat.its]
theorem Pat.its_pl {p : Pat} {d : D} (h : d ∈ p.its) : Pl d := by
  cases p <;> simp [Pat.its] at h
  case lamp => subst h; exact ⟨_, rfl⟩
  case dot => rcases h with rfl | rfl <;> exact ⟨_, rfl⟩
  case comb => rcases h with rfl | rfl <;> exact ⟨_, rfl⟩
  case beat => rcases h with rfl | rfl <;> exact ⟨_, rfl⟩
  case not => subst h; exact Pat.pl _
  case bin => rcases h with rfl | rfl <;> exact Pat.pl _
theorem Pat.its_kids (p : Pat) : p.its.filter isTu = p.kids.map Pat.d := by
  cases p <;> (try rfl)
  case not p => show List.filter isTu [p.d] = [p.d]; simp [Pat.d_tu]
  case bin o p q => show List.filter isTu [p.d, q.d] = [p.d, q.d]; simp [Pat.d_tu]
theorem isT_tu {d : D} {n : String} (h : d.tyN = some n) : isT n "tuple" = isTu d := by
  cases d <;> cases h <;> first | rfl | (show isT _ _ = false; decide +kernel) | (show isT _ _ = true; decide +kernel)
theorem cutD_tail {a : D} {r : List D} : cutD (a :: r) (some 1) none = r := by
  show List.take (HT.sIx (r.length + 1) (r.length + 1) none - HT.sIx (r.length + 1) 0 (some ((1 : Nat) : Int))) (List.drop (HT.sIx (r.length + 1) 0 (some ((1 : Nat) : Int))) (a :: r)) = r
  rw [HT.sIx_nat, HT.sIx_none]
  have h : min 1 (r.length + 1) = 1 := by omega
  rw [h]
  simp
/-- xs[n:], xs[:n] -/
theorem cutD_from {ds : List D} {n : Nat} : cutD ds (some (n : Int)) none = ds.drop n := by
  unfold cutD
  rw [HT.sIx_nat, HT.sIx_none]
  by_cases h : n ≤ ds.length
  · rw [Nat.min_eq_left h, List.take_of_length_le (by rw [List.length_drop]; omega)]
  · rw [Nat.min_eq_right (by omega), List.drop_length, List.drop_of_length_le (by omega), List.take_nil]
theorem cutD_to {ds : List D} {n : Nat} : cutD ds none (some (n : Int)) = ds.take n := by
  unfold cutD
  rw [HT.sIx_nat, HT.sIx_none, List.drop_zero, Nat.sub_zero]
  by_cases h : n ≤ ds.length
  · rw [Nat.min_eq_left h]
  · rw [Nat.min_eq_right (by omega), List.take_length, List.take_of_length_le (by omega)]
theorem cutD_both {ds : List D} {i j : Nat} : cutD ds (some (i : Int)) (some (j : Int)) = (ds.drop i).take (j - i) := by
  unfold cutD
  rw [HT.sIx_nat, HT.sIx_nat]
  by_cases h : j ≤ ds.length
  · by_cases h2 : i ≤ ds.length
    · rw [Nat.min_eq_left h, Nat.min_eq_left h2]
    · rw [Nat.min_eq_right (by omega : ds.length ≤ i), List.drop_length, List.drop_of_length_le (by omega), List.take_nil, List.take_nil]
  · rw [Nat.min_eq_right (by omega : ds.length ≤ j)]
    by_cases h2 : i ≤ ds.length
    · rw [Nat.min_eq_left h2, List.take_of_length_le (by rw [List.length_drop]; exact Nat.le_refl _), List.take_of_length_le (by rw [List.length_drop]; omega)]
    · rw [Nat.min_eq_right (by omega : ds.length ≤ i), List.drop_length, List.drop_of_length_le (by omega), List.take_nil, List.take_nil]
end AM
namespace AM
open PySem L2 PySem.Spec PyProof.Rows
def strOf : D → Str
  | .str s => s
  | _ => ""
theorem strsOf_eq : ∀ {ts : List D}, ts.all isS = true → (ts.map strOf).map D.str = ts
  | [], _ => rfl
  | d :: r, h => by
    rw [List.all_cons, Bool.and_eq_true] at h
    rw [List.map_cons, List.map_cons, strsOf_eq h.2]
    have h1 := h.1
    cases d <;> first | (cases h1; done) | rfl
end AM
namespace AM
open PySem L2 PySem.Spec PyProof.Rows
theorem aEq.nilT {ds : List D} {R : Bool → Prop} (h1 : (D.tup ds).isPy = true) (h2 : (D.tup ds).py.depth ≤ 64) (h : R ds.isEmpty) : aEq (.tup ds) (.tup []) R := by
  refine aEq.py h1 rfl h2 (by decide +kernel) ?_
  have : PyData.eqv (D.tup ds).py (D.tup []).py = ds.isEmpty := by
    cases ds with
    | nil => rfl
    | cons a r => rfl
  rw [this]; exact h
theorem isPy_pl {d : D} (h : d.isPy = true) : Pl d := by
  cases d <;> first | exact ⟨_, rfl⟩ | (unfold D.isPy at h; cases h)
theorem arePy_mem : ∀ {ds : List D} {d : D}, D.arePy ds = true → d ∈ ds → d.isPy = true
  | a :: r, d, h, hd => by
    unfold D.arePy at h
    rw [Bool.and_eq_true] at h
    rcases List.mem_cons.mp hd with rfl | hd
    · exact h.1
    · exact arePy_mem h.2 hd
theorem tup_py {ds : List D} : (D.tup ds).isPy = D.arePy ds := by unfold D.isPy; rfl
theorem depth_mem : ∀ {ds : List D} {d : D} {n : Nat}, PyData.depthAll (D.pys ds) ≤ n → d ∈ ds → d.py.depth ≤ n
  | a :: r, d, n, h, hd => by
    unfold D.pys PyData.depthAll at h
    rcases List.mem_cons.mp hd with rfl | hd
    · omega
    · exact depth_mem (by omega) hd
theorem tup_depth {ds : List D} : (D.tup ds).py.depth = PyData.depthAll (D.pys ds) + 1 := by unfold D.py PyData.depth; rfl
theorem tup_tail {a : D} {ds : List D} (h1 : (D.tup (a :: ds)).isPy = true) (h2 : (D.tup (a :: ds)).py.depth ≤ 64) : (D.tup ds).isPy = true ∧ (D.tup ds).py.depth ≤ 64 := by
  rw [tup_py] at h1 ⊢; rw [tup_depth] at h2 ⊢
  unfold D.arePy at h1; unfold D.pys PyData.depthAll at h2
  rw [Bool.and_eq_true] at h1
  exact ⟨h1.2, by omega⟩
end AM
namespace AM
open PySem L2 PySem.Spec PyProof.Rows
theorem atI_nat {ds : List D} {n : Nat} {d : D} (h : ds[n]? = some d) : atI ds (n : Int) = some d := by
  have hl : n < ds.length := (List.getElem?_eq_some_iff.mp h).1
  have e : ixN ds.length (n : Int) = some n := by
    unfold ixN
    rw [if_pos (by omega), if_pos (by omega), Int.toNat_natCast]
  unfold atI
  rw [e]; exact h
theorem atI_of {ds : List D} {j : Int} {n : Nat} {d : D} (hj : j = (n : Int)) (h : ds[n]? = some d) : atI ds j = some d := by subst hj; exact atI_nat h
theorem atI_0 {a : D} {r : List D} : atI (a :: r) 0 = some a := atI_nat (n := 0) rfl
theorem atI_1 {a b : D} {r : List D} : atI (a :: b :: r) 1 = some b := atI_nat (n := 1) rfl
theorem atI_2 {a b c : D} {r : List D} : atI (a :: b :: c :: r) 2 = some c := atI_nat (n := 2) rfl
end AM
namespace AM
open PySem L2 PySem.Spec PyProof.Rows
theorem flat_of_S : ∀ {ts : List D}, ts.all isS = true → ts.all D.flat = true
  | [], _ => rfl
  | d :: r, h => by
    rw [List.all_cons, Bool.and_eq_true] at h ⊢
    refine ⟨?_, flat_of_S h.2⟩
    have h1 := h.1
    cases d <;> first | (cases h1; done) | rfl
theorem aIn.str {m : Mu} {s : Str} {d2 : D} {ts : List D} {R : Bool → Prop} (h1 : SeqD m d2 ts) (h : R (inS s (ts.map strOf))) (hs : ts.all isS = true := by rfl) : aIn m (.str s) d2 R := by
  refine ⟨ts, h1, rfl, flat_of_S hs, ?_⟩
  rw [← strsOf_eq hs, inD_strs]; exact h
end AM
namespace AM
open PySem L2 PySem.Spec PyProof.Rows
/-- a list that changes no more -/
def aFz (d : D) (m : Mu) (Q : D → Mu → Prop) : Prop := ∃ (p : Addr) (ds : List D), d = .loc p ∧ m p = some (.l ds) ∧ Q (.lst ds) (m.del p)
theorem aFz.mk {p : Addr} {ds : List D} {m : Mu} {Q : D → Mu → Prop} (hm : m p = some (.l ds)) (q : Q (.lst ds) (m.del p)) : aFz (.loc p) m Q := ⟨p, ds, rfl, hm, q⟩
theorem W.fz {c : Ctx} {e : Expr} {Δ : Sl} {μ : Mu} {Q : D → Mu → Prop} {Ex : XD} (h : CE c e Δ μ (fun d m => aFz d m Q) Ex) : CE c e Δ μ Q Ex := fun σ H ok hs QV hQ hX =>
  h σ H ok hs QV (fun v d m H' ev dt ⟨p, ds, z, hm, q⟩ => by
    subst z
    cases dt
    exact hQ _ _ _ _ (ev.trans (evo_del ev.s)) (frozen_l ev.s hm) q) hX
theorem Pat.kids_dep {p q : Pat} (h : q ∈ p.kids) : q.dep < p.dep := by
  cases p <;> simp [Pat.kids] at h
  case not => subst h; simp only [Pat.dep]; omega
  case bin => rcases h with rfl | rfl <;> (simp only [Pat.dep]; omega)
theorem Pat.subs_kids (p : Pat) : p.subs = p :: (p.kids.map Pat.subs).flatten := by
  cases p <;> simp [Pat.kids, Pat.subs]
theorem Pat.kids_len (p : Pat) : p.kids.length ≤ 2 := by cases p <;> simp [Pat.kids]
theorem Pat.kids_cnt {p q : Pat} (h : q ∈ p.kids) : q.cnt < p.cnt := by
  cases p <;> simp [Pat.kids] at h
  case not => subst h; simp only [Pat.cnt]; omega
  case bin => rcases h with rfl | rfl <;> (simp only [Pat.cnt]; omega)
theorem map_get {α β : Type} {f : α → β} {l : List α} {i : Nat} {y : β} (h : (l.map f)[i]? = some y) : ∃ x, l[i]? = some x ∧ y = f x := by
  rw [List.getElem?_map] at h
  cases e : l[i]? with
  | none => rw [e] at h; cases h
  | some x => rw [e] at h; cases h; exact ⟨x, rfl, rfl⟩
end AM

set_option autoImplicit false
set_option maxRecDepth 100000
set_option maxHeartbeats 1000000
namespace AM
open PySem L2 PySem.Spec PyProof.Rows
section
variable {c : Ctx} {e a b : Expr} {es : List Expr} {Δ : Sl} {μ : Mu} {Q Q' : D → Mu → Prop} {Ex : XD} {pos p apos : Pos} {E E' : DE}
def aPut (m : Mu) (d1 d2 : D) (R : Addr → List D → Nat → Prop) : Prop := ∃ l ds j n, d1 = .loc l ∧ m l = some (.l ds) ∧ d2 = .int j ∧ ixN ds.length j = some n ∧ R l ds n
theorem aPut.mk {m : Mu} {l : Addr} {ds : List D} {j : Int} {n : Nat} {R : Addr → List D → Nat → Prop} (hm : m l = some (.l ds)) (hi : ixN ds.length j = some n) (h : R l ds n) : aPut m (.loc l) (.int j) R := ⟨l, ds, j, n, rfl, hm, rfl, hi, h⟩
theorem ixN_nat {k n : Nat} (h : n < k) : ixN k (n : Int) = some n := by
  unfold ixN
  rw [if_pos (by omega), if_pos (by omega), Int.toNat_natCast]
theorem ixN_0 {k : Nat} : ixN (k + 1) 0 = some 0 := ixN_nat (n := 0) (by omega)
theorem ixN_1 {k : Nat} : ixN (k + 2) 1 = some 1 := ixN_nat (n := 1) (by omega)
theorem S.setIx {o i : Expr} {p : Pos} (h : CE c e Δ μ (fun d m => CE c o Δ m (fun d1 m1 => CE c i Δ m1 (fun d2 m2 => aPut m2 d1 d2 fun l ds n => E.nx Δ (m2.set l (.l (ds.set n d)))) E.ex) E.ex) E.ex)
    (ha : ∀ v, assign (.Subscript o i p) c.X.env v = (do
      let ov ← holding [v] (eval o c.X.env)
      let iv ← holding [v, ov] (eval i c.X.env)
      standAt p
      holding [v, ov, iv] (setItem ov iv v)
      release [v, ov, iv] []) := by intro _; rfl)
    (hs1 : swapsWithSole [.Subscript o i p] e pos.line c.X.env = pure false := by rfl) (hw : swappedStores [.Subscript o i p] e c.X.env = pure none := by rfl)
    (h1 : (assignEach [.Subscript o i p] c.X.env).map (·.2) = [assign (.Subscript o i p) c.X.env] := by rfl) : CS c (.Assign [.Subscript o i p] e pos) Δ μ E :=
  CS.setIx (h.imp fun d m h1 => h1.imp fun d1 m1 h2 => h2.imp fun d2 m2 ⟨l, ds, j, n, z1, hm, z2, hi, q⟩ => ⟨l, ds, j, n, z1, hm, z2, hi, q⟩) ha hs1 hw h1
/-- a thing that changes is forgotten -/
theorem W.drop (h : CE c e Δ μ (fun d m => ∃ p, Q d (m.del p)) Ex) : CE c e Δ μ Q Ex := fun σ H ok hs QV hQ hX =>
  h σ H ok hs QV (fun v d m H' ev dt ⟨p, q⟩ => by
    have e2 := evo_del (p := p) ev.s
    exact hQ _ _ _ _ (ev.trans e2) (e2.dt dt) q) hX
/-- + of two lists, as a list that changes -/
theorem W.plusL (h : CE c a Δ μ (fun d1 m => CE c b Δ m (fun d2 m' => ∃ ds es, LstD m' d1 ds ∧ LstD m' d2 es ∧ ds.length + es.length ≤ 1000000 ∧ ∀ p, m' p = none → Q (.loc p) (m'.set p (.l (ds ++ es)))) Ex) Ex) : CE c (.BinOp a .Add b pos) Δ μ Q Ex := by
  intro σ H ok hs QV hQ hX
  refine ⟨_, pe_op op_cat pe_w pe_w, ?_⟩
  refine h σ H ok hs _ (fun x d1 m1 H1 e1 t1 q1 => ?_) hX
  refine q1 σ H1 (ok.evo e1) e1.s _ (fun y d2 m2 H2 e2 t2 q2 => ?_) (hX.evo e1)
  have t1' := e2.dt t1
  have hQ' := WantV.evo hQ (e1.trans e2)
  have hs := e2.s
  obtain ⟨ds, es, h1, h2, hl, q⟩ := q2
  obtain ⟨l, xs, z, h3, h4⟩ := h1.lst hs t1'
  obtain ⟨r, ys, z2, h5, h6⟩ := h2.lst hs t2
  subst z; subst z2
  refine ⟨l, r, xs, ys, rfl, rfl, h3, h5, by rw [h4.length, h6.length]; exact big hl, fun n hn => ?_⟩
  have s1 := same_new (o := .lst (xs ++ ys)) hn
  exact hQ' _ _ _ _ (evo_new (m := .l (ds ++ es)) hs s1 hn ⟨_, upd_same, (h4.append h6).keep (keeps_new s1 hn)⟩) (.loc n) (q n (hs.none hn))
end
/-- the law's source of numbers -/
def DrI (ds : List D) : Prop := ∃ (x y : Int) (zs : List Int), ds = D.int x :: D.int y :: zs.map D.int ∧ 0 ≤ x ∧ x < 2147483647 ∧ zs.length ≤ 100
theorem DrI.mk {x y : Int} {zs : List Int} (h1 : 0 ≤ x) (h2 : x < 2147483647) (h3 : zs.length ≤ 100) : DrI (D.int x :: D.int y :: zs.map D.int) := ⟨x, y, zs, rfl, h1, h2, h3⟩
end AM

set_option autoImplicit false
set_option maxRecDepth 100000
set_option maxHeartbeats 1000000
namespace AM
open PySem L2 PySem.Spec PyProof.Rows
/-! ### the end of a law -/
def S_law : SpD := fun ds m Q _ => ∃ ns : List Int, ds = [.fz (ns.map .int)] ∧ ns.length ≤ 63 ∧ m = mu0 ∧ ∀ m', Q (.bl true) m'
theorem hs0 {K : PySem.W.Frag} {H : Hp} : HS K mu0 H := fun a m h => nomatch h
theorem law_sp {K : PySem.W.Frag} {H : Hp} {a : Addr} {ns : List Int} (hl : ns.length ≤ 63) (hO : Only H) (hS : SqL K H a (ns.map V.int)) : toSp K S_law [.ref a] H (fun v _ => v = .bl true) fun _ _ _ => False := by
  have hz : SqZ K H a (ns.map V.int) := by
    rcases hS with (h | ⟨o, h⟩) | h
    · rcases hO a with z | ⟨o, xs, z⟩
      · rw [z] at h; cases h
      · rw [z] at h; cases h
    · exact .inl ⟨o, h⟩
    · exact .inr h
  refine ⟨[.fz (ns.map .int)], mu0, fun d _ => d = .bl true, fun _ _ _ => False, .cons (.fz hz (Dts.ints ns)) .nil, hs0, ⟨ns, rfl, hl, rfl, fun _ => rfl⟩, fun v d m' H' _ t q => ?_, fun _ _ _ _ _ _ _ _ z => z⟩
  subst q
  cases t
  rfl
theorem law_end {l : PySem.W.OpenLaw} {k : Nat} {q : Program} {loose : List Str} {XP : (Str → Option Value) → Heap → Prop} {YP : World → Heap → Prop} {d : DefRec} {K : Params → PySem.W.Frag} {x : Str} (hn : l.most = some 63) (hdf : d.params.defaults = []) (hr : Room k callerA)
    (hY : ∀ (w : World) (h : Heap), YP w h → (K w.params).In h)
    (F : ∀ (w : World) (mg : Str → Option Value) (fa : Addr) (h : Heap), (K w.params).In h → h.Ns mainGlobals mg → mg d.name = some (.ref fa) →
      ∃ fd : FuncData, (∀ (s : Shared) (u : Value), BindsTo s fd ⟨[u], []⟩ [(x, u)]) ∧ ∀ base : Heap, (K w.params).In base → base.Ns mainGlobals mg → FnD l.prog w (K w.params) mg base CX0 k fa fd [x] S_law) :
    PySem.W.WalkO q loose XP YP l.row.toRowW d [] (fun f vs => PySem.call f vs) :=
  L2.walk_of (n := 63) (CX := fun _ => CX0) (sp := fun w => toSp (K w.params) S_law) hn (by decide) hdf hr hY F (fun _ _ a ns hl hO hS => law_sp hl hO hS) fun _ _ _ _ _ z => z
section
variable {K : PySem.W.Frag} {h : Heap} {mg : Str → Option Value}
theorem df_mk (X : K.In h) (G : h.Ns mainGlobals mg) {x : Str} {st : Stmt} {ps : List Str} {f : Addr} {od an : Option Addr} {sl : Array (Option Value)} {oc kV dc pm cd ct : Value}
    (b : ∀ (kV doc pm : Value) (an : Option Addr) (cdv ct : Value) (us : List Value), us.length = ps.length → bindArgs (PySem.W.fnOf x x (defArgs st) (defBody st) (defScope st) .none kV doc pm an cdv ct) ⟨us, []⟩ = pure (ps.zip us))
    (a : PySem.W.nsIn K mainGlobals x = some (some (.ref f))) (lk : K.lookup f = some ⟨oc, od, .func (PySem.W.fnOf x x (defArgs st) (defBody st) (defScope st) .none kV dc pm an cd ct), sl⟩) (c : PySem.W.codeIn K cd x = true) (k : PySem.W.keepIn K (.ref f) = true) : Df K mg x st ps :=
  have F := fun_mk (st := st) lk c k
  ⟨f, _, F, PySem.W.mg_of X G a, F.binds b⟩
theorem dm_mk {C : Addr} (T : Cls K C) {x qual : Str} {st : Stmt} {ps : List Str} {f : Addr} {od an : Option Addr} {sl : Array (Option Value)} {oc kV dc pm cd ct : Value}
    (b : ∀ (kV doc pm : Value) (an : Option Addr) (cdv ct : Value) (us : List Value), us.length = ps.length → bindArgs (PySem.W.fnOf x qual (defArgs st) (defBody st) (defScope st) .none kV doc pm an cdv ct) ⟨us, []⟩ = pure (ps.zip us))
    (a : PySem.W.findIn K (.ref C) x = some (some (.ref f))) (i : PySem.W.isFn K (.ref f) = true) (lk : K.lookup f = some ⟨oc, od, .func (PySem.W.fnOf x qual (defArgs st) (defBody st) (defScope st) .none kV dc pm an cd ct), sl⟩) (c : PySem.W.codeIn K cd qual = true)
    (k : PySem.W.keepIn K (.ref f) = true) : Dm K C x qual st ps :=
  have F := fun_mk (st := st) lk c k
  ⟨⟨f, _, F, ⟨a, i, k⟩, F.binds b⟩, T⟩
theorem dc_mk (X : K.In h) (G : h.Ns mainGlobals mg) {C : Addr} {y qual : Str} {st : Stmt} {ps : List Str} {f : Addr} {od an : Option Addr} {sl : Array (Option Value)} {oc kV dc pm cd ct : Value}
    (b : ∀ (kV doc pm : Value) (an : Option Addr) (cdv ct : Value) (us : List Value), us.length = ps.length → bindArgs (PySem.W.fnOf "__init__" qual (defArgs st) (defBody st) (defScope st) .none kV doc pm an cdv ct) ⟨us, []⟩ = pure (ps.zip us))
    (g : PySem.W.nsIn K mainGlobals y = some (some (.ref C))) (mk : PySem.W.makesIn K C = true) (kc : PySem.W.keepIn K (.ref C) = true)
    (a : PySem.W.findIn K (.ref C) "__init__" = some (some (.ref f))) (i : PySem.W.isFn K (.ref f) = true) (lk : K.lookup f = some ⟨oc, od, .func (PySem.W.fnOf "__init__" qual (defArgs st) (defBody st) (defScope st) .none kV dc pm an cd ct), sl⟩) (c : PySem.W.codeIn K cd qual = true)
    (k : PySem.W.keepIn K (.ref f) = true) : Dc K mg y C qual st ps :=
  have F := fun_mk (st := st) lk c k
  ⟨f, _, F, ⟨mk, a, i, kc⟩, PySem.W.mg_of X G g, F.binds b⟩
theorem cls_mk {C : Addr} (pg : PySem.W.plainGet K C Str.empty = true) (hd : PySem.W.hasDictIn K C = true) (po : PySem.W.plainOver K C = true) (sa : PySem.W.findIn K (.ref C) "__setattr__" = some (some (.builtin "object.__setattr__"))) : Cls K C := ⟨pg, hd, po, sa⟩
theorem exc_mk (X : K.In h) (G : h.Ns mainGlobals mg) {x : Str} {C : Addr} (g : PySem.W.nsIn K mainGlobals x = some (some (.ref C))) (q : PySem.W.excIn K C [.type "ValueError", .type "Exception", .type "BaseException", .type "object"] "ValueError.__new__" = true)
    (k : PySem.W.keepIn K (.ref C) = true) (b : PySem.W.subIn K (.ref C) (.type "BaseException") = some true) (t : PySem.W.typeIn K (.ref C) = some (.type "type")) : ExcC K mg x C := ⟨q, PySem.W.mg_of X G g, k, b, t⟩
theorem gc_int (X : K.In h) (G : h.Ns mainGlobals mg) {x : Str} {i : Int} {t} (a : PySem.W.nsIn K mainGlobals x = some (some (.int i t))) : GC K mg x (.int i) := ⟨.int i, _, PySem.W.mg_of X G a, ⟨_, rfl⟩, fun _ _ => .int i⟩
theorem gc_str (X : K.In h) (G : h.Ns mainGlobals mg) {x s : Str} {t} (a : PySem.W.nsIn K mainGlobals x = some (some (.str s t))) : GC K mg x (.str s) := ⟨.str s, _, PySem.W.mg_of X G a, ⟨_, rfl⟩, fun _ _ => .str s⟩
/-- flat data by the values that stand for it -/
def flatU : D → Value → Prop
  | .int i, u => ∃ t, u = Value.int i t
  | .str s, u => ∃ t, u = Value.str s t
  | _, _ => False
inductive FlatUs : List D → List Value → Prop
  | nil : FlatUs [] []
  | cons {d : D} {u : Value} {ds : List D} {us : List Value} : flatU d u → FlatUs ds us → FlatUs (d :: ds) (u :: us)
theorem flatUs_same {μ μ' : Mu} {H H' : Hp} : ∀ {ds : List D} {us : List Value}, FlatUs ds us → ∃ xs, Vals xs us ∧ ∀ μ H, Dts K μ H xs ds
  | _, _, .nil => ⟨[], .nil, fun _ _ => .nil⟩
  | d :: _, u :: _, .cons h r => by
    obtain ⟨xs, h1, h2⟩ := flatUs_same (μ := μ) (H := H) (μ' := μ') (H' := H') r
    cases d <;> try exact h.elim
    · exact ⟨V.int _ :: xs, Paired.cons (show RelV (V.int _) u from h) h1, fun μ H => .cons (.int _) (h2 μ H)⟩
    · exact ⟨V.str _ :: xs, Paired.cons (show RelV (V.str _) u from h) h1, fun μ H => .cons (.str _) (h2 μ H)⟩
theorem gc_tup (X : K.In h) (G : h.Ns mainGlobals mg) {x : Str} {ds : List D} {t : Addr} {od : Option Addr} {its : Array Value} {n : Nat} {sl : Array (Option Value)} (a : PySem.W.nsIn K mainGlobals x = some (some (.ref t))) (lk : K.lookup t = some ⟨.type "tuple", od, .seq its n, sl⟩)
    (hi : its.size ≤ sizeLine) (f : FlatUs ds its.toList) : GC K mg x (.tup ds) := by
  obtain ⟨xs, h1, h2⟩ := flatUs_same (K := K) (μ := mu0) (μ' := mu0) (H := fun _ => none) (H' := fun _ => none) f
  exact ⟨.ref t, _, PySem.W.mg_of X G a, rfl, fun μ H => .tup (.inr ⟨_, its, n, lk, rfl, rfl, hi, h1⟩) (h2 μ H)⟩
theorem law_mk {P : Program} {w : World} {n : Nat} (X : K.In h) (G : h.Ns mainGlobals mg) {st : Stmt} {f fa : Addr} (hfa : mg "law" = some (.ref fa))
    (b : ∀ (kV doc pm : Value) (an : Option Addr) (cdv ct : Value) (u : Value), bindArgs (PySem.W.fnOf "law" "law" (defArgs st) (defBody st) (defScope st) .none kV doc pm an cdv ct) ⟨[u], []⟩ = pure [(("_law_script" : Str), u)])
    (body : ∀ (base : Heap) (f : Addr) (fd : FuncData), Fun K "law" "law" st f fd → FnD P w K mg base CX0 n f fd ["_law_script"] S_law)
    {od an : Option Addr} {sl : Array (Option Value)} {oc kV dc pm cd ct : Value} (a : PySem.W.nsIn K mainGlobals "law" = some (some (.ref f)))
    (lk : K.lookup f = some ⟨oc, od, .func (PySem.W.fnOf "law" "law" (defArgs st) (defBody st) (defScope st) .none kV dc pm an cd ct), sl⟩) (c : PySem.W.codeIn K cd "law" = true) (k : PySem.W.keepIn K (.ref f) = true) :
    ∃ fd : FuncData, (∀ (s : Shared) (u : Value), BindsTo s fd ⟨[u], []⟩ [("_law_script", u)]) ∧ ∀ base : Heap, K.In base → base.Ns mainGlobals mg → FnD P w K mg base CX0 n fa fd ["_law_script"] S_law := by
  have e := hfa.symm.trans (PySem.W.mg_of X G a)
  cases e
  exact ⟨_, fun s v => .of_eq (b kV dc pm an cd ct v), fun base _ _ => body base _ _ (fun_mk (st := st) lk c k)⟩
end
end AM
namespace AM
open PySem L2 PySem.Spec PyProof.Rows
theorem fld_mk {K : PySem.W.Frag} {C : Addr} {f : Str} (c : Cls K C) (n : PySem.W.findIn K (.ref C) f = some none) : FldC K C f := ⟨c, n⟩
end AM

set_option autoImplicit false
set_option maxRecDepth 100000
set_option maxHeartbeats 1000000
namespace AM
open PySem L2 PySem.Spec PyProof.Rows
/-! ### == by an own __eq__ -/
structure EqM (P : Program) (w : World) (K : PySem.W.Frag) (mg : Str → Option Value) (base : Heap) (C : Addr) (k : Nat) (s : SpD) : Prop where
  ex : ∃ (f : Addr) (fd : FuncData) (ps : List Str), FnD P w K mg base (L2N.CX P w) k f fd ps s ∧ PySem.W.findIn K (.ref C) "__eq__" = some (some (.ref f)) ∧ PySem.W.isFn K (.ref f) = true ∧ Binds K fd ps []
structure De (K : PySem.W.Frag) (C : Addr) (qual : Str) (st : Stmt) (ps : List Str) : Prop where
  ex : ∃ (f : Addr) (fd : FuncData), Fun K "__eq__" qual st f fd ∧ PySem.W.findIn K (.ref C) "__eq__" = some (some (.ref f)) ∧ PySem.W.isFn K (.ref f) = true ∧ Binds K fd ps []
theorem gE {P : Program} {w : World} {K : PySem.W.Frag} {mg : Str → Option Value} {base : Heap} {C : Addr} {qual : Str} {st : Stmt} {N ps : List Str} {k : Nat} {s : SpD} (h : De K C qual st ps) (S : FnScope N ps (defScope st)) (len : ∀ ds m Q E, s ds m Q E → ds.length = ps.length)
    (body : ∀ (f : Addr) (cdv : Value) (A : Around) (outer : List Env) (s0 : Shared) (H : Hp) (E : XK), Room k (A.deeper (envOfC qual (defScope st) s0.heap.objs.size f cdv)) → ∀ ds m Q Ex, s ds m Q Ex →
      CSs (dctx P w K mg base N qual (defScope st) f cdv A outer s0 H E) (defBody st) (startD N ds) m { nx := fun _ m => Q .non m, rt := Q, ex := fun C o _ m => Ex C o m }) : EqM P w K mg base C (k + 1) s := by
  obtain ⟨f, fd, F, h1, h2, hb⟩ := h.ex
  exact ⟨f, fd, ps, okD F S len (body f), h1, h2, hb⟩
theorem de_mk {K : PySem.W.Frag} {C : Addr} {qual : Str} {st : Stmt} {ps : List Str} {f : Addr} {od an : Option Addr} {sl : Array (Option Value)} {oc kV dc pm cd ct : Value}
    (b : ∀ (kV doc pm : Value) (an : Option Addr) (cdv ct : Value) (us : List Value), us.length = ps.length → bindArgs (PySem.W.fnOf "__eq__" qual (defArgs st) (defBody st) (defScope st) .none kV doc pm an cdv ct) ⟨us, []⟩ = pure (ps.zip us))
    (a : PySem.W.findIn K (.ref C) "__eq__" = some (some (.ref f))) (i : PySem.W.isFn K (.ref f) = true) (lk : K.lookup f = some ⟨oc, od, .func (PySem.W.fnOf "__eq__" qual (defArgs st) (defBody st) (defScope st) .none kV dc pm an cd ct), sl⟩) (c : PySem.W.codeIn K cd qual = true)
    (k : PySem.W.keepIn K (.ref f) = true) : De K C qual st ps :=
  have F := fun_mk (st := st) lk c k
  ⟨f, _, F, a, i, F.binds b⟩
/-- the other one: of the same class, or a tuple -/
def OthV (K : PySem.W.Frag) (C : Addr) (H : Hp) (y : V) : Prop := (∃ b dy gs, y = .ref b ∧ H b = some (.ins C dy gs)) ∨ ∃ b xs, y = .ref b ∧ SqT K H b xs ∧ PySem.W.notFirst K C (.type "tuple") = true
def rEqO (K : PySem.W.Frag) (C : Addr) (s : SpD) : R2 := fun x y H Q => ∃ a dx fs, x = .ref a ∧ H a = some (.ins C dx fs) ∧ OthV K C H y ∧ toSp K s [x, y] H (fun v H' => (∃ k, v = .bl k) ∧ Q v H') (fun _ _ _ => False)
section
variable {X : Cx} {n : Nat} {C : Addr} {s : SpD}
theorem op_eqO (F : EqM X.prog X.w X.K X.mg X.base C n s) (hr : Room n X.A) : OpR X (compareOp .Eq) (rEqO X.K C s) := by
  obtain ⟨f, fd, ps, G, h1, h2, hb⟩ := F.ex
  intro pins s0 σ H x y v u Q I rx ry ⟨a, dx, fs, ex, ha, ho, hsp⟩
  subst ex
  cases rx
  show wpAny (model X.prog X.w) X.A (richCompare .Eq (.ref a) u) (EP X pins σ Q) X.xe s0
  obtain ⟨mA, J, _⟩ := ins_get I.hok ha
  obtain ⟨od, J, _⟩ := J.look
  obtain ⟨m, hF⟩ := I.fr
  have one : ∀ {tb : Value}, PySem.W.Looks (model X.prog X.w) s0.heap (typeOf u) tb → PySem.W.notFirst X.K C tb = true → wpAny (model X.prog X.w) X.A (richCompare .Eq (.ref a) u) (EP X pins σ Q) X.xe s0 := fun {tb} hty hn => by
    refine PySem.W.cmp_K (op := .Eq) (tb := tb) hr.units0 hF I.ok.mod.kin J hty hn h1 h2 ?_
    have hl := G.len _ _ _ _ hsp
    have r2 : Vals [V.ref a, y] [Value.ref a, u] := .cons rfl (.cons ry .nil)
    refine wpAny_call (codeAny_mono (G.run X.A X.stack s0 H ⟨[.ref a, u], []⟩ [.ref a, u] [.ref a, y] _ _ hr I.env0 (by
      have := hb s0 [.ref a, u] I.kIn (by simpa using hl)
      simpa using this) r2 hsp) fun r s' hq => ?_)
    cases r with
    | error e => exact (AM.passN (X := X)) pins σ H s0 e s' I hq
    | ok fl =>
      cases fl with
      | ret w =>
        obtain ⟨z, H', I', rz, ⟨k, ek⟩, q⟩ := I.after hq
        subst ek
        cases rz
        exact ⟨.bl k, H', I', rfl, q⟩
      | next => exact False.elim hq
      | brk => exact False.elim hq
      | cont => exact False.elim hq
  rcases ho with ⟨b, dy, gs, ey, hb'⟩ | ⟨b, xs, ey, ht, hn⟩
  · subst ey
    cases ry
    obtain ⟨mB, J', _⟩ := ins_get I.hok hb'
    obtain ⟨od', J', _⟩ := J'.look
    exact one J'.type (by simp [PySem.W.notFirst])
  · subst ey
    cases ry
    obtain ⟨its, r, e, z⟩ := I.tuple ht
    obtain ⟨o, ho, hc, k, hd⟩ := id e
    exact one (hc ▸ (PySem.W.Looks.ld ho).andThen .now) hn
end
section
variable {c : Ctx} {a b : Expr} {Δ : Sl} {μ : Mu} {Q : D → Mu → Prop} {QB : Bool → Mu → Prop} {Ex : XD} {pos : Pos} {C : Addr} {k j : Nat} {s : SpD}
def OthD (K : PySem.W.Frag) (C : Addr) (m : Mu) (d : D) : Prop := (∃ gs, InsAt m d C gs) ∨ ∃ ds, d = .tup ds ∧ PySem.W.notFirst K C (.type "tuple") = true
def aEqO (c : Ctx) (C : Addr) (s : SpD) (m : Mu) (d1 d2 : D) (R : Bool → Mu → Prop) : Prop := ∃ fs, InsAt m d1 C fs ∧ OthD c.K C m d2 ∧ s [d1, d2] m (fun d m2 => ∃ k, d = .bl k ∧ R k m2) (fun _ _ _ => False)
theorem eqO_r {x y : V} {d1 d2 : D} {m : Mu} {H : Hp} {QV : VK} {R : Bool → Mu → Prop} (p : aEqO c C s m d1 d2 R) (hs : HS c.K m H) (t1 : Dt c.K m H x d1) (t2 : Dt c.K m H y d2) (q : ∀ k m' H', Evo c.K m H m' H' → R k m' → QV (.bl k) H') : rEqO c.K C s x y H QV := by
  obtain ⟨fs, hi, ho, h⟩ := p
  obtain ⟨a, dx, gs, z, h1, h2⟩ := hi.at hs t1
  subst z
  refine ⟨a, dx, gs, rfl, h1, ?_, ?_⟩
  · rcases ho with ⟨gs2, ho⟩ | ⟨ds, z, hn⟩
    · obtain ⟨b, dy, gs3, z, h3, h4⟩ := ho.at hs t2
      exact .inl ⟨b, dy, gs3, z, h3⟩
    · subst z
      cases t2 with
      | tup h3 h4 => exact .inr ⟨_, _, rfl, h3, hn⟩
  · refine toSp_of (.cons t1 (.cons t2 .nil)) hs h (fun v d m' H' e t ⟨k, z, r⟩ => ?_) (fun _ _ _ _ _ _ _ _ z => z)
    subst z
    cases t
    exact ⟨⟨k, rfl⟩, q k m' H' e r⟩
theorem W.eqO (F : EqM c.X.prog c.X.w c.K c.X.mg c.X.base C k s) (hr : Room j c.X.A) (hl : k ≤ j) (h : CE c a Δ μ (fun d1 m => CE c b Δ m (fun d2 m' => aEqO c C s m' d1 d2 fun k m2 => Q (.bl k) m2) Ex) Ex) : CE c (.Compare a [.Eq] [b] pos) Δ μ Q Ex :=
  CE.cmp (op_eqO F (hr.mono hl)) (nomark _) (fun x y d1 d2 m H QV p hs t1 t2 hQ => eqO_r p hs t1 t2 fun k m' H' e r => hQ _ _ _ _ e (.bl k) r) h
theorem T.eqO (F : EqM c.X.prog c.X.w c.K c.X.mg c.X.base C k s) (hr : Room j c.X.A) (hl : k ≤ j) (h : CE c a Δ μ (fun d1 m => CE c b Δ m (fun d2 m' => aEqO c C s m' d1 d2 QB) Ex) Ex) : CT c (.Compare a [.Eq] [b] pos) Δ μ QB Ex :=
  CT.cmp (op_eqO F (hr.mono hl)) (nomark _) (fun x y d1 d2 m H QV p hs t1 t2 hQ => eqO_r p hs t1 t2 fun k m' H' e r => hQ _ _ _ _ e (.bl k) ⟨k, rfl, r⟩) h
end
end AM

set_option autoImplicit false
set_option maxRecDepth 100000
set_option maxHeartbeats 1000000
namespace AM
open PySem L2 PySem.Spec PyProof.Rows
section
variable {c : Ctx} {e a b o : Expr} {es : List Expr} {Δ : Sl} {μ : Mu} {Q : D → Mu → Prop} {QB : Bool → Mu → Prop} {Ex : XD} {pos p apos : Pos} {E : DE} {C : Addr}
/-! ### isinstance with an own class -/
def aIsO (K : PySem.W.Frag) (C : Addr) (m : Mu) (d : D) (R : Bool → Prop) : Prop := ∃ t k, (∀ v H, HS K m H → Dt K m H v d → TyX K H v t) ∧ PySem.W.kitOne K t (.ref C) = some k ∧ R k
/-- instances of C are seen as such -/
structure IsC (K : PySem.W.Frag) (C : Addr) : Prop where
  cl : Cls K C
  ha : PySem.W.findIn K (.ref C) "__class__" = some (some (.builtin "object.__class__"))
  hn : PySem.W.specialIn K (.builtin "object.__class__") "__get__" = some (some (.builtin "getset_descriptor.__get__"))
  ht : PySem.W.takesIn K (.builtin "object.__class__") = some true
  hm : PySem.W.mroIn K C (.type "object") = some true
  self : PySem.W.kitOne K (.ref C) (.ref C) = some true
  tup : PySem.W.kitOne K (.type "tuple") (.ref C) = some false
  nf : PySem.W.notFirst K C (.type "tuple") = true
theorem isc_mk {K : PySem.W.Frag} {C : Addr} (pg : PySem.W.plainGet K C Str.empty = true) (hd : PySem.W.hasDictIn K C = true) (po : PySem.W.plainOver K C = true) (sa : PySem.W.findIn K (.ref C) "__setattr__" = some (some (.builtin "object.__setattr__")))
    (ha : PySem.W.findIn K (.ref C) "__class__" = some (some (.builtin "object.__class__"))) (hn : PySem.W.specialIn K (.builtin "object.__class__") "__get__" = some (some (.builtin "getset_descriptor.__get__"))) (ht : PySem.W.takesIn K (.builtin "object.__class__") = some true)
    (hm : PySem.W.mroIn K C (.type "object") = some true) (t : PySem.W.typeIn K (.ref C) = some (.type "type")) (u : PySem.W.subIn K (.type "tuple") (.ref C) = some false) (nf : PySem.W.notFirst K C (.type "tuple") = true) : IsC K C := by
  refine ⟨⟨pg, hd, po, sa⟩, ha, hn, ht, hm, if_pos (beq_self_eq_true _), ?_, nf⟩
  have hc : (PySem.W.clsIn K C).isSome = true := by
    obtain ⟨cd, hc, _⟩ := PySem.W.any_some hd
    rw [hc]; rfl
  show (if (Value.type "tuple" == Value.ref C) = true then some true else PySem.W.kitCls K (.type "tuple") (.ref C)) = some false
  rw [if_neg (by rw [show (Value.type "tuple" == Value.ref C) = false from rfl]; decide)]
  show (if ((PySem.W.clsIn K C).isSome && PySem.W.typeIn K (.ref C) == some (.type "type")) = true then PySem.W.subIn K (.type "tuple") (.ref C) else none) = some false
  rw [hc, t, if_pos (by simp)]
  exact u
theorem aIsO.ins {K : PySem.W.Frag} {m : Mu} {d : D} {fs : List (Str × D)} {R : Bool → Prop} (T : IsC K C) (hi : InsAt m d C fs) (h : R true) : aIsO K C m d R := by
  refine ⟨.ref C, true, fun v H hs t => ?_, T.self, h⟩
  obtain ⟨p, dx, gs, z, h1, _⟩ := hi.at hs t
  subst z
  exact .base (.ins h1 T.cl T.ha T.hn T.ht T.hm)
theorem aIsO.tup {K : PySem.W.Frag} {m : Mu} {ds : List D} {R : Bool → Prop} (T : IsC K C) (h : R false) : aIsO K C m (.tup ds) R := ⟨.type "tuple", false, fun v H hs t => tyx t rfl, T.tup, h⟩
theorem aIsO.ty {K : PySem.W.Frag} {m : Mu} {d : D} {n : String} {k : Bool} {R : Bool → Prop} (hn : d.tyN = some n) (hk : PySem.W.kitOne K (.type n) (.ref C) = some k) (h : R k) : aIsO K C m d R := ⟨.type n, k, fun v H hs t => tyx t hn, hk, h⟩
theorem W.isiO {x : Str} {p2 : Pos} (hm : NB c.X.mg "isinstance") (hmC : c.X.mg x = some (.ref C)) (h : CE c e Δ μ (fun d m => aIsO c.K C m d fun k => Q (.bl k) m) Ex) (hg : Gl c.X "isinstance" := by rfl) (hgC : Gl c.X x := by rfl) (hdT : (x == ("__debug__" : Str)) = false := by decide)
    (he : starEach [e, .Name x p2] c.X.env = (false, eval e c.X.env) :: starEach [.Name x p2] c.X.env := by rfl) (he2 : starEach [.Name x p2] c.X.env = (false, eval (.Name x p2) c.X.env) :: starEach [] c.X.env := by rfl)
    (hpl : (backTo pos (starEach [.Name x p2] c.X.env)).any (·.1) = false := by rfl) : CE c (.Call (.Name "isinstance" p) [e, .Name x p2] [] pos) Δ μ Q Ex :=
  CE.isiC hm hmC h hg hgC hdT he he2 hpl
/-! ### o.f += e -/
def aFA (c : Ctx) (m : Mu) (d1 : D) (f : Str) (R : Addr → Addr → List (Str × D) → Int → Prop) : Prop := ∃ C fs a i, d1 = .loc a ∧ m a = some (.o C fs) ∧ FldC c.K C f ∧ lookF f fs = some (.int i) ∧ fs.length < 1000 ∧ R C a fs i
theorem aFA.mk {m : Mu} {a C : Addr} {fs : List (Str × D)} {i : Int} {f : Str} {R : Addr → Addr → List (Str × D) → Int → Prop} (hm : m a = some (.o C fs)) (hf : FldC c.K C f) (hl : lookF f fs = some (.int i)) (hn : fs.length < 1000) (h : R C a fs i) : aFA c m (.loc a) f R := ⟨C, fs, a, i, rfl, hm, hf, hl, hn, h⟩
theorem S.fldAdd {f : Str} (h : CE c o Δ μ (fun d1 m => aFA c m d1 f fun C a fs i => CE c e Δ m (fun d2 m1 => aI d2 fun j => m1 a = some (.o C fs) ∧ E.nx Δ (m1.set a (.o C (setF f (.int (i + j)) fs)))) E.ex) E.ex) : CS c (.AugAssign (.Attribute o f p) .Add e pos) Δ μ E :=
  CS.fldAdd (h.imp fun d1 m ⟨C, fs, a, i, z, hm, hf, hl, hn, q⟩ => ⟨C, fs, a, i, z, hm, hf.c, hf.n, hl, hn, q⟩)
/-! ### a for over few items, turn by turn -/
def RunL (c : Ctx) (g : TGD) (body : List Stmt) (E : DE) : List D → Sl → Mu → Prop
  | [], Δ, m => E.nx Δ m
  | d :: r, Δ, m => ∃ Δ2, g d Δ = some Δ2 ∧ CSs c body Δ2 m { E with nx := RunL c g body E r, ct := RunL c g body E r, bk := E.nx }
abbrev ForD (c : Ctx) (g : TGD) (body : List Stmt) (E : DE) (Δ : Sl) (ds : List D) (m : Mu) : Prop := ∃ I : Nat → Sl → Mu → Prop, I 0 Δ m ∧
      (∀ i d Δ' m', ds[i]? = some d → I i Δ' m' → ∃ Δ2, g d Δ' = some Δ2 ∧ CSs c body Δ2 m' { E with nx := I (i + 1), ct := I (i + 1), bk := E.nx }) ∧ (∀ Δ' m', I ds.length Δ' m' → E.nx Δ' m')
theorem ForD.run {g : TGD} {body : List Stmt} {ds : List D} {m : Mu} (h : RunL c g body E ds Δ m) : ForD c g body E Δ ds m := by
  refine ⟨fun i Δ' m' => RunL c g body E (ds.drop i) Δ' m', h, fun i d Δ' m' hd hI => ?_, fun Δ' m' hI => ?_⟩
  · have hl := (List.getElem?_eq_some_iff.mp hd).1
    have e : ds.drop i = d :: ds.drop (i + 1) := by
      rw [List.drop_eq_getElem_cons hl, (List.getElem?_eq_some_iff.mp hd).2]
    simp only [e] at hI
    exact hI
  · simp only [List.drop_length] at hI
    exact hI
theorem ForD.inv {g : TGD} {body : List Stmt} {ds : List D} {m : Mu} (I : Nat → Sl → Mu → Prop) (h0 : I 0 Δ m) (h1 : ∀ i d Δ' m', ds[i]? = some d → I i Δ' m' → ∃ Δ2, g d Δ' = some Δ2 ∧ CSs c body Δ2 m' { E with nx := I (i + 1), ct := I (i + 1), bk := E.nx }) (h2 : ∀ Δ' m', I ds.length Δ' m' → E.nx Δ' m') : ForD c g body E Δ ds m := ⟨I, h0, h1, h2⟩
/-! ### int(s) -/
def aInt (d : D) (R : Int → Prop) : Prop := ∃ s n, d = .str s ∧ PySem.intText? s = some n ∧ s.length ≤ 640 ∧ R n
theorem W.intS (hm : NB c.X.mg "int") (h : CE c e Δ μ (fun d m => aInt d fun n => Q (.int n) m) Ex) (hg : Gl c.X "int" := by rfl)
    (he : starEach [e] c.X.env = (false, eval e c.X.env) :: starEach [] c.X.env := by rfl) (hpl : (backTo pos (starEach [] c.X.env)).any (·.1) = false := by rfl) : CE c (.Call (.Name "int" p) [e] [] pos) Δ μ Q Ex := CE.intS hm h hg he hpl
end
end AM
namespace AM
open PySem L2 PySem.Spec PyProof.Rows
theorem S.for {c : Ctx} {tg e : Expr} {Δ : Sl} {μ : Mu} {pos : Pos} {E : DE} {g : TGD} {body : List Stmt} (hc : c.X.calm = true) (hg : CG c tg g) (h : CI c tg e Δ μ (fun ds m => ForD c g body E Δ ds m) E.ex) (hf : ∀ x, foldedSetIterable e c.X.env x = pure x := by intro _; rfl) : CS c (.For tg e body [] pos) Δ μ E := CS.for hc hg h hf
theorem Dc.g {K : PySem.W.Frag} {mg : Str → Option Value} {x : Str} {C : Addr} {qual : Str} {st : Stmt} {ps : List Str} (h : Dc K mg x C qual st ps) : mg x = some (.ref C) := let ⟨_, _, _, _, g, _⟩ := h.ex; g
end AM

set_option autoImplicit false
set_option maxRecDepth 100000
set_option maxHeartbeats 1000000
/-! an own exception over ValueError, whose __init__ says super().__init__(text) and sets one field. -/
namespace AM
open PySem L2 PySem.Spec PyProof.Rows

def Exm (K : PySem.W.Frag) (C D : Addr) (b : Bool) : Prop := PySem.W.exmOne K (.ref C) (.ref D) = some b
theorem exm_mk {K : PySem.W.Frag} {C D : Addr} {b : Bool} (h : PySem.W.subIn K (.ref D) (.type "BaseException") = some true) (i : PySem.W.isClsIn K D = true) (t : PySem.W.typeIn K (.ref D) = some (.type "type")) (u : PySem.W.subIn K (.ref C) (.ref D) = some b) : Exm K C D b := by
  show (if (PySem.W.subIn K (.ref D) (.type "BaseException") == some true) = true then PySem.W.kitCls K (.ref C) (.ref D) else none) = some b
  rw [if_pos (by rw [h]; rfl)]
  show (if ((PySem.W.clsIn K D).isSome && PySem.W.typeIn K (.ref D) == some (.type "type")) = true then PySem.W.subIn K (.ref C) (.ref D) else none) = some b
  have hc : (PySem.W.clsIn K D).isSome = true := i
  rw [hc, t, if_pos (by simp)]
  exact u
/-- the heap at the entry of such an __init__ -/
def iwHeap (C : Addr) (hp : Heap) (v : Value) : Heap := (hp.push (PySem.W.kdv_tup [v])).push (PySem.HandSPX.excO C hp.objs.size)
/-- what the def does: the exception gets a dict with the one field -/
def IwCode (P : Program) (w : World) (K : PySem.W.Frag) (mg : Str → Option Value) (C fI : Addr) (f : Str) : Prop :=
  ∀ (A : Around) (hp : Heap) (g : Array GenState) (d : Drawn) (t : Nat) (os : OsState) (v : Value) (R : Result → Shared → Prop), A.depth < recursionLimit → A.units + 64 < cLine → L2.Mod K mg hp →
    (∀ (h' : Heap) (tk : Nat) (dx t1 : Addr), (∀ b o, b ≠ hp.objs.size + 1 → (iwHeap C hp v).get? b = some o → h'.get? b = some o) → (iwHeap C hp v).objs.size ≤ dx →
      h'.get? (hp.objs.size + 1) = some ({ cls := .ref C, dict := some dx, data := .fields #[.ref t1, .none, .none, .none, .bool false, .none] } : Obj) → h'.Ns1 dx (fun y => if y = f then some v else none) →
      R (.ok (.ret .none)) ⟨h', g, d, tk, os⟩) →
    codeAny (model P w) A (.call (.ref fI) ⟨[.ref (hp.objs.size + 1), v], []⟩) R ⟨iwHeap C hp v, g, d, t, os⟩
structure IwC (P : Program) (w : World) (K : PySem.W.Frag) (mg : Str → Option Value) (x : Str) (C fI : Addr) (f : Str) : Prop where
  t : OexC K C
  i : PySem.W.findIn K (.ref C) "__init__" = some (some (.ref fI))
  ty : PySem.W.typeIn K (.ref fI) = some (.type "function")
  k : PySem.W.keepIn K (.ref C) = true
  g : mg x = some (.ref C)
  c : IwCode P w K mg C fI f
def tIw (C : Addr) (f : Str) (ta : TA) : L2.St → Hp → XK → Prop := fun σ H Q => ta σ H fun vs H1 => ∃ v, vs = [v] ∧ ∀ d, H1 d = none → Q (.ref C) (some d) (upd H1 d (.xd [(f, v)]))
section
variable {X : Cx} {e : Expr} {ta : TA} {x f : Str} {C fI : Addr} {p pos : Pos}
theorem pmk_iw (T : IwC X.prog X.w X.K X.mg x C fI f) (hr : Room 2 X.A) (hg : Gl X x) (ha : PA X [e] ta)
    (hdb : (x == ("__debug__" : Str)) = false := by decide) (he : starEach [e] X.env = (false, eval e X.env) :: starEach [] X.env := by rfl) (hpl : (backTo pos (starEach [] X.env)).any (·.1) = false := by rfl) :
    L2N.PMk X (.Call (.Name x p) [e] [] pos) (tIw C f ta) := by
  intro pins s σ H Q I h
  obtain ⟨nm, q, N, bs, bm, sn, sub, ab, col, dd, k0, k1, k2, k3, k5, hC, hbm⟩ := T.t.cls
  refine wpAny_Call_Name_kw (ld_glob I hg T.g ?_ hdb)
  refine PySem.W.callWith_K (h₀ := X.base) I.ok.mod.kin T.k (thn (ha.run pos pins s σ H _ I h) fun us s1 ⟨vs, H1, I1, r1, v, ev, q1⟩ => ⟨I1.kIn, ?_⟩) he hpl
  subst ev
  obtain ⟨u, rfl, ru⟩ := vals1 r1
  show wpAny _ _ (call (.ref C) [u]) _ _ _
  obtain ⟨hp, g, dr, tk, os⟩ := s1
  have hsz : hp.objs.size ≤ hp.objs.size + 1 := Nat.le_succ _
  have hn : H1 (hp.objs.size + 1) = none := I1.hok.fresh hsz
  have kk : ∀ b o, hp.get? b = some o → (iwHeap C hp u).get? b = some o := fun b o z => Heap.get?_push_of_some _ (Heap.get?_push_of_some _ z)
  have hget : (iwHeap C hp u).get? (hp.objs.size + 1) = some (PySem.HandSPX.excO C hp.objs.size) := by unfold iwHeap; heap_get
  have I2 : Inv X pins σ (upd H1 (hp.objs.size + 1) (exo (hp.objs.size + 1) C none)) ⟨iwHeap C hp u, g, dr, tk, os⟩ :=
    I1.laid (t' := tk) (a := hp.objs.size + 1) (o := exo (hp.objs.size + 1) C none) (h' := iwHeap C hp u) kk hsz (exo_ok hget)
  have hus : [u].length ≤ sizeLine := by rw [sizeLine_eq]; show 1 ≤ _; omega
  have M1 : L2.Mod X.K X.mg hp := by
    have z := I1.ok.mod
    have kb : ∀ b o, X.base.get? b = some o → hp.get? b = some o := fun b o y => (I1.env0.bs b o y).1
    obtain ⟨mb, hb1, hb2⟩ := z.blt
    exact ⟨z.kin.keeps kb, z.glob.keeps kb, ⟨mb, hb1.keeps kb, hb2⟩, z.nolimit.keeps kb⟩
  refine wpAny_call (PySem.HandSPX.call_own PySem.F.excBase_ValueError (fun Y => PySem.HandSPX.refsVE_contains Y bm hbm) (I1.kIn _ _ hC) (PySem.W.looks_findIn I1.kIn T.i) (fun self => PySem.W.bind_fn I1.kIn self T.ty) hus
    (T.c _ hp g dr tk os u _ (hr.make C [u] []).depth (by have := (hr.make C [u] []).un; omega) M1 fun h' tk' dx t1 k hdx hx hns => ⟨rfl, ?_⟩))
  generalize hea : hp.objs.size + 1 = a at *
  have e : upd H1 a (exo a C none) a = some (exo a C none) := upd_same
  have hnd : upd H1 a (exo a C none) dx = none := I2.hok.fresh hdx
  have nd : ∀ {b : Addr} {o : Obj}, (iwHeap C hp u).get? b = some o → b ≠ dx := fun {b o} q => Nat.ne_of_lt (Nat.lt_of_lt_of_le (Heap.lt_size q) hdx)
  have na : ∀ {b : Addr}, upd H1 a (exo a C none) b = none → b ≠ a := fun {b} n z => by
    rw [z, e] at n
    cases n
  have dne : dx ≠ a := na hnd
  have Un1 : Un (frs X.stack) [] (upd H1 a (exo a C none)) (upd (upd (upd H1 a (exo a C none)) dx (exd dx [(f, v)])) a (exo a C (some dx))) (iwHeap C hp u) h' := {
    keep := fun b o q n _ _ => k b o (na n) q
    slot := fun b o q n _ _ => ⟨o.slots, k b o (na n) q⟩
    free := fun b o q n _ => by rw [upd_ne (na n), upd_ne (nd q)]; exact n
    there := fun b o q _ => by
      by_cases hb : b = a
      · exact ⟨_, by rw [hb]; exact hx⟩
      · exact ⟨o, k b o hb q⟩
    tups := fun b xs q => by rw [upd_ne (at_ne e q exo_tup), upd_ne (ne_of_none q hnd)]; exact q
    frzs := fun b o v q => by rw [upd_ne (at_ne e q exo_frz), upd_ne (ne_of_none q hnd)]; exact q
    tbls := fun b ps q => ⟨#[], by rw [upd_ne (at_ne e q exo_tbl), upd_ne (ne_of_none q hnd), q]; simp⟩ }
  have hok : HOk X.prog X.w (upd (upd (upd H1 a (exo a C none)) dx (exd dx [(f, v)])) a (exo a C (some dx))) h' := fun b o q => by
    by_cases hb : b = a
    · subst hb
      rw [upd_same] at q
      cases q
      exact exo_ok hx
    · rw [upd_ne hb] at q
      by_cases hd : b = dx
      · subst hd
        rw [upd_same] at q
        cases q
        exact exd_ok hns (relO_put (fs := []) ru fun g => True.intro)
      · rw [upd_ne hd] at q
        exact (I2.hok b o q).stay (fun c v hc z => k c v (by
            rcases hc with hc | hc
            · rw [hc]
              exact hb
            · exact at_ne e hc exo_own) z)
          (fun c hc => by rw [upd_ne (at_ne e hc exo_own), upd_ne (ne_of_none hc hnd)]; exact hc) (fun c xs hc => by rw [upd_ne (at_ne e hc exo_tup), upd_ne (ne_of_none hc hnd)]; exact hc)
  have hd1 : H1 dx = none := by rw [upd_ne dne] at hnd; exact hnd
  obtain ⟨t0, G, J, kG, ge, hoe, na9⟩ := L2.mk_end0 (d2 := dr) (t2 := tk') I1 (by omega) kk Un1 hok rfl I1.bare upd_same (by rw [upd_ne dne]; exact upd_same) hd1
  refine ⟨a, _, _, ⟨G, g, dr, tk', os⟩, _, .ref C, some dx, rfl, J, kG, ge, hoe, ⟨rfl, rfl, fun ws hw => by cases hw; rfl⟩, rfl, rfl, na9, rfl, I1.bare, raises_own T.t.exC T.t.tyC, ?_⟩
  have eH : upd (del (upd (upd (upd H1 a (exo a C none)) dx (exd dx [(f, v)])) a (exo a C (some dx))) a) dx (.xd [(f, v)]) = upd H1 dx (.xd [(f, v)]) := by
    funext b
    by_cases hb : b = dx
    · rw [hb, upd_same, upd_same]
    · rw [upd_ne hb, upd_ne hb]
      by_cases hb2 : b = a
      · rw [hb2, del_same, hn]
      · rw [del_ne hb2, upd_ne hb2, upd_ne hb, upd_ne hb2]
  rw [eH]
  exact q1 dx hd1
end

/-! ### the def itself: super().__init__(text); self.f = f -/
section
open PySem.W (Frag ksEnv ksFn ks_superObj ks_newsPush)
variable {P : Program} {w : World} {A : Around} {E : Value → Shared → Prop} {s : Shared} {h₀ : Heap} {L : Addr} {m mg mb : Str → Option Value} {news : List (Addr × Obj)} {K : PySem.W.Frag} {x C D f cc cda so : Addr} {ox : Obj} {odx : Option Obj}
theorem iw_node {body : List Stmt} {q : Str} {scope : Scope} {p0 p1 : Pos} {attr : Str} {whole : Sem Value} {fd : FuncData} {ar : Arg} {vs : Array Value} {file : Str} {tf : Tok} {oc ccl cl : Value} {od cdd cld : Option Addr} {osl ccs csl : Array (Option Value)} {cdD : ClassData} {Q : Value → Shared → Prop}
    (F : Fr h₀ L s.heap m) (X₀ : K.In h₀) (N : News h₀ L s.heap news) (hg : s.heap.Ns mainGlobals mg) (hb : s.heap.Ns builtinsNs mb) (hms : mg "super" = none) (hbs : mb "super" = some (.type "super"))
    (hf : K.lookup f = some ⟨oc, od, .func fd, osl⟩) (hp : (fd.params.posonlyargs ++ fd.params.args).head? = some ar) (hv : m ar.arg = some (.ref x)) (I : PySem.W.InstAt s.heap x ox C odx)
    (hcode : K.lookup cda = some ⟨ccl, cdd, .fields vs, ccs⟩) (hvs : vs[2]? = some (.str file tf)) (hfile : ((P.main.file : Str) == file) = true)
    (hcell : K.lookup cc = some ⟨cl, cld, .cell (some (.ref D)), csl⟩) (hD : PySem.W.clsIn K D = some cdD) (hsub : PySem.W.mroIn K C (.ref D) = some true)
    (hat : (attr == ("__class__" : Str)) = false) (hks : scope.names.lookup ("super" : Str) = some .globalImplicit) (hkc : scope.names.lookup ("__class__" : Str) = some .free) (hka : scope.names.lookup ar.arg = some .local) (hk : scope.kind = .function)
    (htop : (P.main.scope.names.lookup ("super" : Str)).isSome = false)
    (h : ∀ so h', Fr h₀ L h' m → News h₀ L h' ((so, ks_superObj D x C) :: news) → (∀ p ∈ news, p.1 < so) → Q (.ref so) { s with heap := h' }) :
    _root_.PySem.wpAt (model P w) A (.func body (ksEnv q scope L f (.ref cda) cc)) (attributeBase (.Call (.Name "super" p0) [] [] p1) attr (ksEnv q scope L f (.ref cda) cc) whole) Q E s := by
  have X : K.In s.heap := X₀.keeps F.keep
  obtain ⟨hh, g, d, t, os⟩ := s
  obtain ⟨oD, hD1, hD2⟩ : ∃ oD, hh.get? D = some oD ∧ oD.data = .cls cdD := by
    unfold PySem.W.clsIn at hD
    split at hD
    · rename_i c d cd' sl ho
      cases hD
      exact ⟨_, X _ _ ho, rfl⟩
    · cases hD
  refine ks_wpAt_super_base (env := ksEnv q scope L f (.ref cda) cc) hks hkc hat rfl (X _ _ hf) rfl hp rfl (X _ _ hcode) rfl hvs hfile htop ?_
  refine PySem.W.ks_loadName_global hk hks (PySem.Calls.loadGlobal_builtin (env := ksEnv q scope L f (.ref cda) cc) hg hms hb hbs ⟨rfl, ?_⟩)
  refine wpAny_loadName_free hk hkc rfl ⟨_, X _ _ hcell, rfl⟩ ?_
  refine wpAny_loadName_local hk hka F.ns hv ?_
  refine ks_wpAny_isType_cls hD1 hD2 ⟨rfl, ?_⟩
  refine ks_wpAny_call_super hD1 hD2 I.at_ I.cls (fun c e => ?_) (PySem.W.looks_mroIn X hsub) (fun h' e k => ?_)
  · have := I.no
    unfold PySem.W.notCls at this
    rw [e] at this
    exact Bool.noConfusion this
  · obtain ⟨F', N', l'⟩ := ks_newsPush (s := ⟨hh, g, d, t, os⟩) F N rfl e k
    exact h _ _ F' N' l'
end

/-- what the written part says of such a class and its def -/
structure IwR (K : PySem.W.Frag) (C fI cda cc : Addr) (qual : Str) (st : Stmt) (f : Str) (file : Str) : Prop where
  lk : ∃ oc od kV dc pm an ct osl, K.lookup fI = some ⟨oc, od, .func (PySem.W.ksFn "__init__" qual (defArgs st) (defBody st) (defScope st) .none kV dc pm an (.ref cda) ct cc), osl⟩
  cd : PySem.W.codeIn K (.ref cda) qual = true
  code : ∃ ccl cdd vs ccs tf, K.lookup cda = some ⟨ccl, cdd, .fields vs, ccs⟩ ∧ vs[2]? = some (.str file tf)
  cell : ∃ cl cld csl, K.lookup cc = some ⟨cl, cld, .cell (some (.ref C)), csl⟩
  sub : PySem.W.mroIn K C (.ref C) = some true
  opq : PySem.W.nsIn K cStatics "thirdparty.any" = some none
  sup : PySem.W.ks_superIn K C C "__init__" = some (some (.builtin "ValueError.__init__"))
  ve : PySem.W.subIn K (.ref C) (.type "ValueError") = some true
  exc : PySem.W.excInitIn K C [.type "ValueError", .type "Exception", .type "BaseException", .type "object"] "ValueError.__new__" = true
  fld : PySem.W.findIn K (.ref C) f = some none
/-- the body -/
structure IwB (st : Stmt) (f : Str) (p0 p1 p2 p3 p4 p5 p6 p7 p8 p9 : Pos) (txt : Str) (kk : Nat) : Prop where
  body : defBody st = [.Expr (.Call (.Attribute (.Call (.Name "super" p0) [] [] p1) "__init__" p2) [.Constant (.str txt) kk p3] [] p4) p5, .Assign [.Attribute (.Name "self" p6) f p7] (.Name f p8) p9]
  ar : (((defArgs st).posonlyargs ++ (defArgs st).args).head?).map (·.arg) = some ("self" : Str)
  ne : f ≠ ("self" : Str)
  db : (f == ("__debug__" : Str)) = false
  bnd : ∀ (kV doc pm : Value) (an : Option Addr) (cdv ct : Value) (cc : Addr) (qual : Str) (u v : Value), bindArgs (PySem.W.ksFn "__init__" qual (defArgs st) (defBody st) (defScope st) .none kV doc pm an cdv ct cc) ⟨[u, v], []⟩ = pure [(("self" : Str), u), (f, v)]
  nc : ∀ x ∈ (defScope st).names, x.2 ≠ .cell
  s1 : (defScope st).names.lookup ("self" : Str) = some .local
  s2 : (defScope st).names.lookup f = some .local
  s3 : (defScope st).names.lookup ("super" : Str) = some .globalImplicit
  s4 : (defScope st).names.lookup ("__class__" : Str) = some .free
  co : (defScope st).isCoroutine = false
  gn : (defScope st).isGenerator = false
  kd : (defScope st).kind = .function
  he : ∀ (q : Str) (L a : Addr) (cd : Value) (cc : Addr), ∃ pl : Sem Bool, eval (.Call (.Attribute (.Call (.Name "super" p0) [] [] p1) "__init__" p2) [.Constant (.str txt) kk p3] [] p4) (PySem.W.ksEnv q (defScope st) L a cd cc) = (do
    let ov ← attributeBase (.Call (.Name "super" p0) [] [] p1) "__init__" (PySem.W.ksEnv q (defScope st) L a cd cc) (eval (.Call (.Name "super" p0) [] [] p1) (PySem.W.ksEnv q (defScope st) L a cd cc))
    standAt p2.atName
    let (f, first) ← holding [ov] (getMethod ov "__init__" pl)
    callWith p4 f first (backTo p4 (starEach [.Constant (.str txt) kk p3] (PySem.W.ksEnv q (defScope st) L a cd cc))) [])
  hi : ∀ (q : Str) (L a : Addr) (cd : Value) (cc : Addr), interactive (PySem.W.ksEnv q (defScope st) L a cd cc) = false
  w1 : ∀ (q : Str) (L a : Addr) (cd : Value) (cc : Addr), swapsWith (.Call (.Attribute (.Call (.Name "super" p0) [] [] p1) "__init__" p2) [.Constant (.str txt) kk p3] [] p4) none p5.line (PySem.W.ksEnv q (defScope st) L a cd cc) = pure false
  w2 : ∀ (q : Str) (L a : Addr) (cd : Value) (cc : Addr), swapsWith (.Name f p8) (some (.Attribute (.Name "self" p6) f p7)) p9.line (PySem.W.ksEnv q (defScope st) L a cd cc) = pure false
section
variable {P : Program} {w : World} {K : PySem.W.Frag} {mg : Str → Option Value} {C fI cda cc : Addr} {qual f file txt : Str} {st : Stmt} {p0 p1 p2 p3 p4 p5 p6 p7 p8 p9 : Pos} {kk : Nat}
theorem iw_code (T : IwR K C fI cda cc qual st f file) (B : IwB st f p0 p1 p2 p3 p4 p5 p6 p7 p8 p9 txt kk) (O : OexC K C) (hfile : ((P.main.file : Str) == file) = true) (htop : (P.main.scope.names.lookup ("super" : Str)).isSome = false) (hsup : mg "super" = none) : IwCode P w K mg C fI f := by
  intro A hp g d t os v R hdep hun M h
  obtain ⟨oc, od, kV, dc, pm, an, ct, osl, lk⟩ := T.lk
  obtain ⟨ccl, cdd, vs, ccs, tf, hcode, hvs⟩ := T.code
  obtain ⟨cl, cld, csl, hcell⟩ := T.cell
  obtain ⟨nm, q, N0, bs, bm, sn, sub, ab, col, dd, k0, k1, k2, k3, k5, hC, hbm⟩ := O.cls
  have hcl : PySem.W.clsIn K C = some { name := nm, bases := bs, mro := .ref C :: bm, ns := N0, qualname := q, hasDict := true, slotNames := sn, subclasses := sub, abstract := ab, collection := col, hasDel := false } := by unfold PySem.W.clsIn; rw [hC] <;> rfl
  have hbody := B.body
  obtain ⟨mb, hb1, hb2⟩ := M.blt
  have kp : ∀ b o, hp.get? b = some o → (iwHeap C hp v).get? b = some o := fun b o z => Heap.get?_push_of_some _ (Heap.get?_push_of_some _ z)
  have kin2 : K.In (iwHeap C hp v) := M.kin.keeps kp
  have gete : (iwHeap C hp v).get? (hp.objs.size + 1) = some (PySem.W.excObj C hp.objs.size none .none) := by unfold iwHeap; heap_get
  have gett : (iwHeap C hp v).get? hp.objs.size = some (PySem.W.excTup [v]) := by unfold iwHeap; heap_get
  have hsz : (iwHeap C hp v).objs.size = hp.objs.size + 2 := by unfold iwHeap; rw [Heap.size_push, Heap.size_push]
  have hnone : ∀ n, hp.get? (hp.objs.size + n) = none := fun n => Heap.get?_none_of_le (Nat.le_add_right _ _)
  refine ks_codeAny_call_defAt (fd := PySem.W.ksFn "__init__" qual (defArgs st) (defBody st) (defScope st) .none kV dc pm an (.ref cda) ct cc) (body := defBody st) (binds := [(("self" : Str), .ref (hp.objs.size + 1)), (f, v)]) hdep (kin2 _ _ lk) rfl (M.nolimit.keeps kp) (PySem.W.codeRec_of kin2 T.cd) rfl (BindsTo.of_eq (B.bnd _ _ _ _ _ _ _ _ _ _)) B.nc (fun x hx => ?_) (fun h₁ hns hk₁ => ?_) B.co B.gn B.kd
  · rcases List.mem_cons.mp hx with rfl | hx
    · exact B.s1
    · rw [List.mem_singleton.mp hx]; exact B.s2
  have keep1 : ∀ b o, hp.get? b = some o → h₁.get? b = some o := fun b o z => hk₁ b o (kp b o z)
  have e1 : (([(("self" : Str), Value.ref (hp.objs.size + 1)), (f, v)] : List (Str × Value)).reverse.lookup ("self" : Str)) = some (.ref (hp.objs.size + 1)) := by
    show List.lookup ("self" : Str) [(f, v), (("self" : Str), Value.ref (hp.objs.size + 1))] = _
    have : (("self" : Str) == f) = false := by simpa using Ne.symm B.ne
    simp [List.lookup, this]
  have e2 : (([(("self" : Str), Value.ref (hp.objs.size + 1)), (f, v)] : List (Str × Value)).reverse.lookup f) = some v := by
    show List.lookup f [(f, v), (("self" : Str), Value.ref (hp.objs.size + 1))] = _
    simp [List.lookup]
  have F1 : Fr hp (iwHeap C hp v).objs.size h₁ (fun x => [(("self" : Str), Value.ref (hp.objs.size + 1)), (f, v)].reverse.lookup x) := ⟨hns, keep1, by rw [hsz]; omega⟩
  have N1 : News hp (iwHeap C hp v).objs.size h₁ [(hp.objs.size + 1, PySem.W.excObj C hp.objs.size none .none), (hp.objs.size, PySem.W.excTup [v])] := fun p hp' => by
    rcases List.mem_cons.mp hp' with rfl | hp'
    · exact ⟨hk₁ _ _ gete, by rw [hsz]; show hp.objs.size + 1 ≠ _; omega, hnone 1⟩
    · rw [List.mem_singleton.mp hp']
      exact ⟨hk₁ _ _ gett, by rw [hsz]; show hp.objs.size ≠ _; omega, hnone 0⟩
  have nte : hp.objs.size ≠ hp.objs.size + 1 := by omega
  generalize hea : hp.objs.size + 1 = e at *
  obtain ⟨ar, har1, har2⟩ : ∃ ar, ((defArgs st).posonlyargs ++ (defArgs st).args).head? = some ar ∧ ar.arg = ("self" : Str) := by
    have := B.ar
    cases z : ((defArgs st).posonlyargs ++ (defArgs st).args).head? with
    | none => rw [z] at this; cases this
    | some ar => rw [z] at this; exact ⟨ar, rfl, Option.some.inj this⟩
  show _root_.PySem.wpAt _ _ (.func (defBody st) (PySem.W.ksEnv qual (defScope st) (iwHeap C hp v).objs.size fI (.ref cda) cc)) (execs (defBody st) (PySem.W.ksEnv qual (defScope st) (iwHeap C hp v).objs.size fI (.ref cda) cc)) _ _ _
  rw [hbody]
  obtain ⟨pl, he⟩ := B.he qual (iwHeap C hp v).objs.size fI (.ref cda) cc
  refine ks_wpAt_execs_cons (ks_wpAt_Expr_any (ks_wpAt_MethodCall (pl := pl) ?_ he) (B.hi _ _ _ _ _) (B.w1 _ _ _ _ _))
  refine iw_node (mg := mg) (mb := mb) (x := e) (C := C) F1 M.kin N1 (M.glob.keeps keep1) (hb1.keeps keep1) hsup (by rw [hb2 _ (by decide)]; first | rfl | kernel_rfl) lk har1 (by rw [har2]; exact e1) (PySem.W.InstAt.of_exc0 N1 List.mem_cons_self) hcode hvs hfile hcell hcl T.sub (by decide) B.s3 B.s4 (by rw [har2]; exact B.s1) B.kd htop (fun so h2 F2 N2 l2 => ?_)
  refine PySem.W.kxs_method PySem.W.kxs_ValueError F2 M.kin N2 List.mem_cons_self (PySem.W.InstAt.of_exc0 N2 (List.mem_cons_of_mem _ List.mem_cons_self)) T.opq T.sup T.ve (by decide) (fun u h3 F3 N3 l3 => ?_)
  refine PySem.W.kxs_callWith1 N3 List.mem_cons_self ?_ rfl rfl
  show wpAny _ _ (spliced ((false, eval (.Constant (.str txt) kk p3) (PySem.W.ksEnv qual (defScope st) (iwHeap C hp v).objs.size fI (.ref cda) cc)) :: [])) _ _ _
  refine Calls.spliced_cons (wpAny_Constant_str (Calls.spliced_nil ⟨PySem.W.kxs_at N3 List.mem_cons_self, ?_⟩))
  have sone : so ≠ e := fun z => by have := l2 (e, _) List.mem_cons_self; rw [z] at this; exact absurd this (Nat.lt_irrefl _)
  have uone : u ≠ e := fun z => by have := l3 (e, _) (List.mem_cons_of_mem _ List.mem_cons_self); rw [z] at this; exact absurd this (Nat.lt_irrefl _)
  refine PySem.W.kxs_call F3 M.kin N3 PySem.F.excBase_ValueError T.exc List.mem_cons_self (.tail uone (.tail sone (.head fun p hp' => by rw [List.mem_singleton.mp hp']; exact nte))) (by rw [sizeLine_eq]; show 1 ≤ _; omega) (fun t' h4 F4 N4 l4 => ?_)
  have X4 : K.In h4 := M.kin.keeps F4.keep
  have N4e : h4.get? e = some (PySem.W.excObj C t' none .none) := (N4 (e, _) (by simp)).1
  have N4t : h4.get? hp.objs.size = some (PySem.W.excTup [v]) := (N4 (hp.objs.size, _) (by simp)).1
  dsimp only
  have kind : ∀ {y : Str}, (defScope st).names.lookup y = some .local → (PySem.W.ksEnv qual (defScope st) (iwHeap C hp v).objs.size fI (.ref cda) cc).kindOf y = some .local := fun z => z
  refine ks_wpAt_execs_cons (ks_wpAt_Assign_Attr ?_ (B.w2 _ _ _ _ _))
  refine wpAt_of_wpAny (wpAny_Name (wpAny_loadName_local B.kd (kind B.s2) F4.ns e2 ?_) B.db)
  refine wpAny_Name (wpAny_loadName_local B.kd (kind B.s1) F4.ns e1 ?_) (by decide)
  try dsimp only
  refine PySem.W.set_plain X4 (ox := PySem.W.excObj C t' none .none) (od := none) ⟨N4e, rfl, rfl, trivial⟩ O.sa ?_
  try dsimp only
  refine PySem.HandSPX.exc_osa X4 N4e hcl (show PySem.HandSPX.refsVE (.ref C :: bm) = true from hbm) rfl T.fld (fun h5 tk dx k5 dn dne hx hn => ?_)
  try dsimp only
  refine wpAt_of_wpAny (wpAny_execs_nil ?_)
  have hlast : e < h4.objs.size := Heap.lt_size N4e
  refine h h5 _ dx t' (fun b o hb hbo => ?_) (by rw [hsz]; omega) hx hn
  have hlt : b < (iwHeap C hp v).objs.size := Heap.lt_size hbo
  by_cases hbt : b = hp.objs.size
  · subst hbt
    rw [gett] at hbo
    rw [← hbo]
    exact k5 _ _ hb N4t
  · have hb3 : hp.get? b = some o := by
      have z : (iwHeap C hp v).get? b = hp.get? b := by
        unfold iwHeap
        rw [Heap.get?_push_ne _ _ _ (by first | (rw [Heap.size_push, hea]; exact hb) | (rw [Heap.size_push]; exact hb)), Heap.get?_push_ne _ _ _ hbt]
      rw [← z]; exact hbo
    exact k5 b o hb (F4.keep b o hb3)
end

/-! ### raise X(e); try: .. except X as n: y = n.f -/
section
variable {c : Ctx} {e : Expr} {Δ : Sl} {μ : Mu} {E : DE} {x f n y : Str} {C Ci fI : Addr} {p pos pos2 : Pos}
theorem CS.raiseIw {k : Nat} (T : IwC c.X.prog c.X.w c.K c.X.mg x C fI f) (hr : Room k c.X.A) (hk : 2 ≤ k) (hc : c.X.calm = true) (h : CE c e Δ μ (fun d m => E.ex C (some [(f, d)]) Δ m) E.ex) (hg : Gl c.X x := by rfl) (hdb : (x == ("__debug__" : Str)) = false := by decide)
    (he : starEach [e] c.X.env = (false, eval e c.X.env) :: starEach [] c.X.env := by rfl) (hpl : (backTo pos (starEach [] c.X.env)).any (·.1) = false := by rfl) : CS c (.Raise (some (.Call (.Name x p) [e] [] pos)) none pos2) Δ μ E := by
  intro σ H ok hs Ev S
  refine ⟨_, L2N.ps_raise hc c.tk (pmk_iw T (hr.mono hk) hg pa_w hdb he hpl), ?_⟩
  have hA : CA c [e] Δ μ (fun ds m => ∃ d, ds = [d] ∧ E.ex C (some [(f, d)]) Δ m) E.ex := CA.cons (h.imp fun d m q => CA.nil ⟨d, rfl, q⟩) he
  refine hA σ H ok hs _ (fun vs ds m1 H1 e1 t1 q1 => ?_) (S.want ok)
  obtain ⟨d, ed, q⟩ := q1
  subst ed
  cases t1 with
  | @cons v _ _ _ t1 r =>
    cases r
    refine ⟨v, rfl, fun a ha => ?_⟩
    have s1 := same_new (o := .xd [(f, v)]) ha
    have e2 := e1.trans (evo_same e1.s s1)
    exact S.ex _ _ C (some [(f, d)]) _ _ _ _ e2 (ok.evo e2) ⟨rfl, a, _, rfl, upd_same, .cons (t1.keep (keeps_same s1)) .nil⟩ q
end

/-- what is further said of such a class -/
structure IwO (K : PySem.W.Frag) (mg : Str → Option Value) (x : Str) (C fI : Addr) : Prop where
  t : OexC K C
  i : PySem.W.findIn K (.ref C) "__init__" = some (some (.ref fI))
  ty : PySem.W.typeIn K (.ref fI) = some (.type "function")
  k : PySem.W.keepIn K (.ref C) = true
  g : mg x = some (.ref C)
  f : XfC K C
theorem iw_ok {P : Program} {w : World} {K : PySem.W.Frag} {mg : Str → Option Value} {x : Str} {C fI cda cc : Addr} {qual f file txt : Str} {st : Stmt} {p0 p1 p2 p3 p4 p5 p6 p7 p8 p9 : Pos} {kk : Nat} (T : IwR K C fI cda cc qual st f file) (O : IwO K mg x C fI) (B : IwB st f p0 p1 p2 p3 p4 p5 p6 p7 p8 p9 txt kk)
    (hfile : ((P.main.file : Str) == file) = true) (htop : (P.main.scope.names.lookup ("super" : Str)).isSome = false) (hsup : mg "super" = none) : IwC P w K mg x C fI f := ⟨O.t, O.i, O.ty, O.k, O.g, iw_code T B O.t hfile htop hsup⟩
section
variable {K : PySem.W.Frag} {h : Heap} {mg : Str → Option Value} {C fI cda cc : Addr} {x qual f file nm q : Str} {st : Stmt} {oc kV dc pm ct ccl cl : Value} {od an cdd cld : Option Addr} {osl ccs csl : Array (Option Value)} {vs : Array Value} {tf : Tok}
theorem iwr_mk (lk : K.lookup fI = some ⟨oc, od, .func (PySem.W.ksFn "__init__" qual (defArgs st) (defBody st) (defScope st) .none kV dc pm an (.ref cda) ct cc), osl⟩) (cd : PySem.W.codeIn K (.ref cda) qual = true)
    (co : K.lookup cda = some ⟨ccl, cdd, .fields vs, ccs⟩) (fv : vs[2]? = some (.str file tf)) (ce : K.lookup cc = some ⟨cl, cld, .cell (some (.ref C)), csl⟩) (sub : PySem.W.mroIn K C (.ref C) = some true) (opq : PySem.W.nsIn K cStatics "thirdparty.any" = some none)
    (sup : PySem.W.ks_superIn K C C "__init__" = some (some (.builtin "ValueError.__init__"))) (ve : PySem.W.subIn K (.ref C) (.type "ValueError") = some true)
    (exc : PySem.W.excInitIn K C [.type "ValueError", .type "Exception", .type "BaseException", .type "object"] "ValueError.__new__" = true) (fld : PySem.W.findIn K (.ref C) f = some none) : IwR K C fI cda cc qual st f file :=
  ⟨⟨oc, od, kV, dc, pm, an, ct, osl, lk⟩, cd, ⟨ccl, cdd, vs, ccs, tf, co, fv⟩, ⟨cl, cld, csl, ce⟩, sub, opq, sup, ve, exc, fld⟩
theorem iwo_mk (X : K.In h) (G : h.Ns mainGlobals mg) {N : Addr} {bs bm : List Value} {sn} {sub} {ab col} {dd} {k0 k1 k2 k3 k5} (g : PySem.W.nsIn K mainGlobals x = some (some (.ref C))) (lc : K.lookup C = some (excClassObj nm q C N bs bm true sn sub ab col dd k0 k1 k2 k3 k5 "ValueError.__new__")) (rv : PySem.HandSPX.refsVE bm = true)
    (sa : PySem.W.findIn K (.ref C) "__setattr__" = some (some (.builtin "object.__setattr__"))) (eC : PySem.W.subIn K (.ref C) (.type "BaseException") = some true) (tC : PySem.W.typeIn K (.ref C) = some (.type "type")) (kC : PySem.W.keepIn K (.ref C) = true)
    (i : PySem.W.findIn K (.ref C) "__init__" = some (some (.ref fI))) (ty : PySem.W.typeIn K (.ref fI) = some (.type "function")) (ga : PySem.W.findIn K (.ref C) "__getattribute__" = some (some (.builtin "BaseException.__getattribute__"))) (gg : PySem.W.findIn K (.ref C) "__getattr__" = some none) (hd : PySem.W.hasDictIn K C = true) : IwO K mg x C fI :=
  ⟨⟨⟨nm, q, N, bs, bm, sn, sub, ab, col, dd, k0, k1, k2, k3, k5, lc, rv⟩, sa, eC, tC, kC⟩, i, ty, kC, PySem.W.mg_of X G g, ⟨ga, gg, eC, hd⟩⟩
end
end AM

set_option autoImplicit false
set_option maxRecDepth 100000
set_option maxHeartbeats 1000000
/-! code that runs while an exception is handled (k12): defs that are called there, isinstance of that exception, all, a comprehension over range -/
namespace AM
open PySem L2 PySem.Spec PyProof.Rows

/-! ### defs that are called while p is handled -/
structure FnP (P : Program) (w : World) (K : PySem.W.Frag) (mg : Str → Option Value) (base : Heap) (k : Nat) (f : Addr) (fd : FuncData) (ps : List Str) (p : Addr × Obj) (sp : Sp) : Prop where
  len : ∀ vs H Q E, sp vs H Q E → vs.length = ps.length
  go : ∀ (A : Around) (outer : List Env) (s : Shared) (H : Hp) (us : List Value) (vs : List V) (Q : VK) (E : XK), L2H.RoomH k A → L2H.Hot1 A p → L2H.PinOk outer H s p → Env0 P w K mg base A outer s H → BindsTo s fd ⟨us, []⟩ (ps.zip us) → Vals vs us → sp vs H Q E →
    codeAny (model P w) A (.call (.ref f) ⟨us, []⟩) (CR CX0 outer P w H s Q E) s
abbrev pX (P : Program) (w : World) (K : PySem.W.Frag) (mg : Str → Option Value) (base : Heap) (N : List Str) (qual : Str) (sc : Scope) (f : Addr) (cdv : Value) (A : Around) (outer : List Env) (s : Shared) (H : Hp) (E : XK) (p : Addr × Obj) : Cx :=
  L2H.cxH CX0 P w K mg base N qual sc f cdv A outer s H E p
section
variable {P : Program} {w : World} {K : PySem.W.Frag} {mg : Str → Option Value} {base : Heap}
theorem fnP_mk {x qual : Str} {st : Stmt} {f : Addr} {fd : FuncData} {N ps : List Str} {k : Nat} {p : Addr × Obj} {sp : Sp} (F : Fun K x qual st f fd) (S : FnScope N ps (defScope st)) (len : ∀ vs H Q E, sp vs H Q E → vs.length = ps.length)
    (body : ∀ (cdv : Value) (A : Around) (outer : List Env) (s : Shared) (H : Hp) (vs : List V) (Q : VK) (E : XK), L2H.Hot1 A p → L2H.RoomH k (A.deeper (envOfC qual (defScope st) s.heap.objs.size f cdv)) → sp vs H Q E →
      ∃ t, PSs (pX P w K mg base N qual (defScope st) f cdv A outer s H E p).nox (defBody st) t ∧ t { nx := fun _ H' => Q .non H', rt := Q } (L2.start N vs) H) : FnP P w K mg base (k + 1) f fd ps p sp := by
  obtain ⟨oc, od, kV, dc, pm, an, cdv, ct, sl, rfl, lk, hcd⟩ := F.ex
  refine ⟨len, fun A outer s H us vs Q E room hot pin e0 bd vv hsp => ?_⟩
  have e1 : ∀ b o, base.get? b = some o → s.heap.get? b = some o := fun b o z => (e0.bs b o z).1
  have kin := e0.mod.kin.keeps e1
  have par : ∀ y ∈ ps.zip us, (defScope st).names.lookup y.1 = some .local ∨ ((defScope st).names.lookup y.1 = some .cell ∧ ((cellsFrom (s.heap.objs.size + 1) (defScope st).names []).lookup y.1).isSome = true) := fun ⟨n, v⟩ hy =>
    (S.par n (List.of_mem_zip hy).1).elim .inl fun q => .inr ⟨q, PySem.W.cellsFrom_some _ _ _ (.inl q)⟩
  refine codeAny_call_function room.depth (kin _ _ lk) rfl S.co S.gen rfl (PySem.W.codeRec_of kin hcd) (bd _ _ _ _ (wpAny_newFunctionEnv_cells S.kind par fun env he s1 x => ?_))
  subst he
  obtain ⟨t, ht, hq⟩ := body _ A outer s H vs Q E hot (room.deeper _) hsp
  have I := L2H.inv_startH (CX := CX0) (E := E) (cd := cdv) (f := f) (qual := qual) S pin e0 (len _ _ _ _ hsp) vv x
  refine ⟨(e0.mod.nolimit.keeps e1).keeps x.toInCall.keep, codeAny_func (wpAny_mono (ht.nox.run [] s1 _ H _ I hq) (fun fl s2 hs => ?_) fun _ _ z => z)⟩
  cases fl with
  | next =>
    obtain ⟨_, H', J, q⟩ := hs
    exact ⟨V.non, H', J.os, J.bare, J.base, J.hok, rfl, q⟩
  | ret u =>
    obtain ⟨v, _, H', J, rv, q⟩ := hs
    exact ⟨v, H', J.os, J.bare, J.base, J.hok, rv, q⟩
  | brk => exact hs.elim fun _ z => z.elim fun _ z => z.2.elim
  | cont => exact hs.elim fun _ z => z.elim fun _ z => z.2.elim
abbrev FnPD (P : Program) (w : World) (K : PySem.W.Frag) (mg : Str → Option Value) (base : Heap) (k : Nat) (f : Addr) (fd : FuncData) (ps : List Str) (p : Addr × Obj) (s : SpD) : Prop := FnP P w K mg base k f fd ps p (toSp K s)
/-- the context of such a def's body -/
def pctx (P : Program) (w : World) (K : PySem.W.Frag) (mg : Str → Option Value) (base : Heap) (N : List Str) (qual : Str) (sc : Scope) (f : Addr) (cdv : Value) (A : Around) (outer : List Env) (s : Shared) (H : Hp) (E : XK) (p : Addr × Obj) : Ctx :=
  ⟨(pX P w K mg base N qual sc f cdv A outer s H E p).nox, fun _ _ _ _ => False, AM.noN, PassesOwn.never⟩
theorem okP {x qual : Str} {st : Stmt} {f : Addr} {fd : FuncData} {N ps : List Str} {k : Nat} {p : Addr × Obj} {s : SpD} (F : Fun K x qual st f fd) (S : FnScope N ps (defScope st)) (len : ∀ ds m Q E, s ds m Q E → ds.length = ps.length)
    (body : ∀ (cdv : Value) (A : Around) (outer : List Env) (s0 : Shared) (H : Hp) (E : XK), L2H.Hot1 A p → L2H.RoomH k (A.deeper (envOfC qual (defScope st) s0.heap.objs.size f cdv)) → ∀ ds m Q Ex, s ds m Q Ex →
      CSs (pctx P w K mg base N qual (defScope st) f cdv A outer s0 H E p) (defBody st) (startD N ds) m { nx := fun _ m => Q .non m, rt := Q }) : FnPD P w K mg base (k + 1) f fd ps p s := by
  refine fnP_mk F S (fun vs H Q E ⟨ds, m, _, _, h1, _, h2, _⟩ => h1.length.trans (len _ _ _ _ h2)) (fun cdv A outer s0 H vs QV E hot room ⟨ds, m, Q, Ex, h1, h2, h3, h4, h5⟩ => ?_)
  exact body cdv A outer s0 H E hot room ds m Q Ex h3 (L2.start N vs) H (ok_start h1) h2 { nx := fun _ H' => QV .non H', rt := QV }
    ⟨fun _ _ m' H' e _ q => h4 _ _ m' H' e .non q, h4, fun _ _ _ _ _ _ z => z.elim, fun _ _ _ _ _ _ z => z.elim, fun x y C o _ _ m' H' e _ z q => q.elim⟩
structure FnPG (P : Program) (w : World) (K : PySem.W.Frag) (mg : Str → Option Value) (base : Heap) (x : Str) (k : Nat) (p : Addr × Obj) (s : SpD) : Prop where
  ex : ∃ (f : Addr) (fd : FuncData) (ps : List Str), FnPD P w K mg base k f fd ps p s ∧ mg x = some (.ref f) ∧ PySem.W.keepIn K (.ref f) = true ∧ Binds K fd ps []
theorem gP12 {x : Str} {st : Stmt} {N ps : List Str} {k : Nat} {p : Addr × Obj} {s : SpD} (h : Df K mg x st ps) (S : FnScope N ps (defScope st)) (len : ∀ ds m Q E, s ds m Q E → ds.length = ps.length)
    (body : ∀ (f : Addr) (cdv : Value) (A : Around) (outer : List Env) (s0 : Shared) (H : Hp) (E : XK), L2H.Hot1 A p → L2H.RoomH k (A.deeper (envOfC x (defScope st) s0.heap.objs.size f cdv)) → ∀ ds m Q Ex, s ds m Q Ex →
      CSs (pctx P w K mg base N x (defScope st) f cdv A outer s0 H E p) (defBody st) (startD N ds) m { nx := fun _ m => Q .non m, rt := Q }) : FnPG P w K mg base x (k + 1) p s := by
  obtain ⟨f, fd, F, hm, hb⟩ := h
  exact ⟨f, fd, ps, okP F S len (body f), hm, F.kp, hb⟩
end
/-- the exception p is handled here -/
def InHot (c : Ctx) (p : Addr × Obj) : Prop := L2H.Hot1 c.X.A p ∧ p ∈ c.X.pn
section
variable {c : Ctx} {e : Expr} {es : List Expr} {Δ : Sl} {μ : Mu} {Q : D → Mu → Prop} {Ex : XD} {pos q : Pos} {x : Str} {k j : Nat} {p : Addr × Obj} {s : SpD}
theorem W.callP (F : FnPG c.X.prog c.X.w c.K c.X.mg c.X.base x k p s) (hh : InHot c p) (hr : L2H.RoomH j c.X.A) (hl : k ≤ j) (h : CA c (e :: es) Δ μ (fun ds m => s ds m Q (fun _ _ _ => False)) Ex) (hg : Gl c.X x := by rfl) (hdb : (x == ("__debug__" : Str)) = false := by decide)
    (he : starEach (e :: es) c.X.env = (false, eval e c.X.env) :: starEach es c.X.env := by rfl) (hpl : (backTo pos (starEach es c.X.env)).any (·.1) = false := by rfl) : CE c (.Call (.Name x q) (e :: es) [] pos) Δ μ Q Ex := by
  intro σ H ok hs QV hQ hX
  obtain ⟨f, fd, ps, G, hm, hk, hb⟩ := F.ex
  refine ⟨fun σ H QV => wA c.X (e :: es) σ H fun vs H1 => toSp c.K s vs H1 QV (fun _ _ _ => False), ⟨fun pins s0 σ H QV I hw => ?_⟩, h σ H ok hs _ (fun vs ds m H' ev t z => ?_) hX⟩
  · refine wpAny_Call_Name_kw (ld_glob I hg hm ?_ hdb)
    refine PySem.W.callWith_K (h₀ := c.X.base) I.ok.mod.kin hk (thn (pa_w.run pos pins s0 σ H _ I hw) fun us s1 ⟨vs, H1, I1, r, z⟩ => ⟨I1.kIn, ?_⟩) he hpl
    obtain ⟨hot, hp⟩ := hh
    obtain ⟨g1, g2, g3, g4, g5⟩ := I1.pin p (List.mem_append_left _ hp)
    have lu : us.length = ps.length := r.length.symm.trans (G.len _ _ _ _ z)
    have bd := hb s1 us I1.kIn (by rw [List.append_nil]; exact lu)
    rw [List.append_nil] at bd
    refine wpAny_call (codeAny_mono (G.go c.X.A c.X.stack s1 H1 us vs QV _ ⟨by have := hr.dp; omega, by have := hr.un; omega⟩ hot ⟨g1, g2, fun hm2 => (List.mem_cons.mp (I1.stkSub p.1 hm2)).elim g3 g4, g5⟩ I1.env0 bd r z) fun rs s2 hq => ?_)
    cases rs with
    | error er => exact hq.elim
    | ok fl =>
      cases fl with
      | ret u => exact I1.after hq
      | next => exact hq.elim
      | brk => exact hq.elim
      | cont => exact hq.elim
  · exact toSp_of t ev.s z (WantV.evo hQ ev) fun _ _ _ _ _ _ _ _ z2 => z2.elim
end

/-! ### isinstance of the exception -/
/-- what isinstance asks of the exception's class -/
structure XcC (K : PySem.W.Frag) (C : Addr) : Prop where
  hc : PySem.W.isClsIn K C = true
  hg : PySem.W.findIn K (.ref C) "__getattribute__" = some (some (.builtin "BaseException.__getattribute__"))
  hk : PySem.W.findIn K (.ref C) "__getattr__" = some none
  hs : PySem.W.subIn K (.ref C) (.type "BaseException") = some true
  ha : PySem.W.findIn K (.ref C) "__class__" = some (some (.builtin "object.__class__"))
  hn : PySem.W.specialIn K (.builtin "object.__class__") "__get__" = some (some (.builtin "getset_descriptor.__get__"))
  ht : PySem.W.takesIn K (.builtin "object.__class__") = some true
  hm : PySem.W.mroIn K C (.type "object") = some true
def rIsX (K : PySem.W.Frag) (C : Addr) (dd : Option Addr) (a : Addr) : List V → Hp → VK → Prop := fun xs H Q => ∃ (c : V) (cv : Value) (b : Bool), xs = [.ref a, c] ∧ (∀ u, RelV c u → u = cv) ∧ (∀ dx, dd = some dx → ∃ gs, H dx = some (.xd gs)) ∧ PySem.W.kitOne K (.ref C) cv = some b ∧ Q (.bl b) H
theorem cr_isX {X : Cx} {p : Addr × Obj} {C : Addr} {dd : Option Addr} (T : XcC X.K C) (hp : p ∈ X.pn) (hz : Zc (.ref C) dd p.2) (hf : ∃ vs, p.2.data = .fields vs) : CallR X (.builtin "isinstance") (rIsX X.K C dd p.1) := by
  intro pins s σ H xs us Q I r h
  obtain ⟨c, cv, b, rfl, hcv, hdx, hk, q⟩ := h
  cases r with
  | @cons _ u0 _ _ rx rr =>
    cases rr with
    | @cons _ u1 _ _ rt rr =>
      cases rr
      obtain rfl : u0 = Value.ref p.1 := rx
      obtain rfl := hcv _ rt
      have g := (I.pin p (List.mem_append_left _ hp)).1
      obtain ⟨vs, hv⟩ := hf
      obtain ⟨z1, z2⟩ := hz
      have nc : PySem.W.notCls p.2 = true := by unfold PySem.W.notCls; rw [hv] <;> rfl
      obtain ⟨od, J⟩ : ∃ od, PySem.W.InstAt s.heap p.1 p.2 C od := by
        cases dd with
        | none => exact ⟨none, g, z1, nc, by rw [z2]; trivial⟩
        | some dx =>
          obtain ⟨gs, hx⟩ := hdx dx rfl
          obtain ⟨mA, ⟨o, es, ep, ho, _⟩, _⟩ : ObjOk X.prog X.w H s.heap dx (.xd gs) := I.hok dx _ hx
          exact ⟨some o, g, z1, nc, by rw [z2]; exact ho⟩
      exact PySem.W.kia_one (PySem.W.kitx_exc (od := od) T.hc T.hg T.hk T.hs T.ha T.hn T.ht T.hm) I.kIn J hk (fun z => nomatch z) fun tk => ⟨.bl b, H, I.kept (t' := tk) fun _ _ z => z, rfl, q⟩
/-- the exception p as data: without a dict, with one -/
def ExD (p : Addr × Obj) : Option Addr → D → Prop
  | none, d => d = .loc p.1
  | some dx, d => ∃ fs, d = .exc p.1 dx fs
section
variable {c : Ctx} {e : Expr} {Δ : Sl} {μ : Mu} {Q : D → Mu → Prop} {Ex : XD} {pos q : Pos} {p : Addr × Obj} {C : Addr} {dd : Option Addr} {b : Bool} {y : Str} {p2 : Pos}
theorem isX_at {vs : List V} {H : Hp} {m : Mu} {d : D} {v c1 : V} {cv : Value} {QV : VK} (hcv : ∀ u, RelV c1 u → u = cv) (hk : PySem.W.kitOne c.K (.ref C) cv = some b) (hd : ExD p dd d) (t : Dt c.K m H v d) (q : QV (.bl b) H) : rIsX c.K C dd p.1 [v, c1] H QV := by
  cases dd with
  | none =>
    obtain rfl : d = .loc p.1 := hd
    cases t
    exact ⟨_, cv, b, rfl, hcv, fun _ z => (by cases z), hk, q⟩
  | some dx =>
    obtain ⟨fs, rfl⟩ := hd
    cases t with
    | exc h1 h2 => exact ⟨_, cv, b, rfl, hcv, fun _ z => (by cases z; exact ⟨_, h1⟩), hk, q⟩
/-- isinstance(e, C2), C2 an own class -/
theorem W.isX {C2 : Addr} (T : XcC c.K C) (hp : p ∈ c.X.pn) (hz : Zc (.ref C) dd p.2) (hf : ∃ vs, p.2.data = .fields vs) (hk : PySem.W.kitOne c.K (.ref C) (.ref C2) = some b) (hm : c.X.mg "isinstance" = none) (hmC : c.X.mg y = some (.ref C2))
    (h : CE c e Δ μ (fun d m => ExD p dd d ∧ Q (.bl b) m) Ex) (hg : Gl c.X "isinstance" := by rfl) (hgC : Gl c.X y := by rfl) (hdT : (y == ("__debug__" : Str)) = false := by decide)
    (he : starEach [e, .Name y p2] c.X.env = (false, eval e c.X.env) :: starEach [.Name y p2] c.X.env := by rfl) (he2 : starEach [.Name y p2] c.X.env = (false, eval (.Name y p2) c.X.env) :: starEach [] c.X.env := by rfl)
    (hpl : (backTo pos (starEach [.Name y p2] c.X.env)).any (·.1) = false := by rfl) : CE c (.Call (.Name "isinstance" q) [e, .Name y p2] [] pos) Δ μ Q Ex :=
  CE.cb (cr_isX T hp hz hf) hm bv_isinstance (CA.cons (h.imp fun d m ⟨hd, q⟩ => CA.cons (CE.k (v := .ref C2) (d := .loc C2) (pe_glob hgC hmC rfl hdT) (fun _ _ => .loc _) (CA.nil fun vs H QV hH t hQ => by
    cases t with
    | cons t1 r =>
      cases r with
      | cons t2 r =>
        cases r; cases t2
        exact isX_at (vs := []) (cv := .ref C2) (fun u ru => ru) hk hd t1 (hQ _ _ _ _ (Evo.refl hH) (.bl _) q))) he2) he) hg (by decide) (by decide) he hpl
/-- isinstance(e, T), T a built-in class -/
theorem W.isXT {TS : String} (T : XcC c.K C) (hp : p ∈ c.X.pn) (hz : Zc (.ref C) dd p.2) (hf : ∃ vs, p.2.data = .fields vs) (hk : PySem.W.kitOne c.K (.ref C) (.type TS) = some b) (hm : c.X.mg "isinstance" = none) (hmT : c.X.mg y = none) (hvT : bootBuiltins y = some (.type TS))
    (h : CE c e Δ μ (fun d m => ExD p dd d ∧ Q (.bl b) m) Ex) (hg : Gl c.X "isinstance" := by rfl) (hgT : Gl c.X y := by rfl) (hnT : y ≠ "__name__" := by decide) (hdT : (y == ("__debug__" : Str)) = false := by decide)
    (he : starEach [e, .Name y p2] c.X.env = (false, eval e c.X.env) :: starEach [.Name y p2] c.X.env := by rfl) (he2 : starEach [.Name y p2] c.X.env = (false, eval (.Name y p2) c.X.env) :: starEach [] c.X.env := by rfl)
    (hpl : (backTo pos (starEach [.Name y p2] c.X.env)).any (·.1) = false := by rfl) : CE c (.Call (.Name "isinstance" q) [e, .Name y p2] [] pos) Δ μ Q Ex :=
  CE.cb (cr_isX T hp hz hf) hm bv_isinstance (CA.cons (h.imp fun d m ⟨hd, q⟩ => CA.cons (CE.k (v := .ty TS) (d := .ty TS) (pe_bltn hgT hmT hvT rfl hnT hdT) (fun _ _ => .ty _) (CA.nil fun vs H QV hH t hQ => by
    cases t with
    | cons t1 r =>
      cases r with
      | cons t2 r =>
        cases r; cases t2
        exact isX_at (vs := []) (cv := .type TS) (fun u ru => ru) hk hd t1 (hQ _ _ _ _ (Evo.refl hH) (.bl _) q))) he2) he) hg (by decide) (by decide) he hpl
end
end AM

set_option autoImplicit false
set_option maxRecDepth 100000
set_option maxHeartbeats 1000000
/-! all(..) while an exception is handled -/
namespace AM
open PySem L2 PySem.Spec PyProof.Rows
section
variable {prog : Program} {w : World} {A : Around} {E : Value → Shared → Prop} {s : Shared}
/-- a list's walk ends while x1 is handled -/
theorem next_endH {it l x1 : Addr} {i : Nat} {items : Array Value} {Q : Option Value → Shared → Prop} (hot : HotX.HotAt A x1 s.heap) (ne : x1 ≠ it) (hit : s.heap.IsListIter it l i) (hl : s.heap.IsList l items) (hx : items[i]? = none)
    (hQ : ∀ h', Heap.ExtBut it s.heap h' → Q none { s with heap := h' }) : wpAny (model prog w) A (pyNext (.ref it)) Q E s := by
  obtain ⟨o, ho, hc, hd⟩ := id hit
  obtain ⟨ol, hol, _, nl, hdl⟩ := hl
  obtain ⟨hh, o1, vs1, e1, d1, c1⟩ := hot
  unfold pyNext
  refine wpAny_bind (wpAny_attempt (wpAny_callSpecial?_slot (name := Str.ofString "__next__") hit.typeIs slot_listiter_next (wpAny_call_entry slot_listiter_next hit.typeIs entry_listiter_next ?_ (args_listiter_next _))))
  show wpAny _ _ (field (.ref it) 0 >>= _) _ _ _
  refine wpAny_bind (wpAny_field ho hd (x := .ref l) rfl ?_)
  show wpAny _ _ (if (Value.ref l == Value.none) = true then _ else _) _ _ _
  rw [if_neg (show ¬ ((Value.ref l == Value.none) = true) from Bool.false_ne_true)]
  show wpAny _ _ (field (.ref it) 1 >>= _) _ _ _
  refine wpAny_bind (wpAny_field ho hd (x := .int i 0) rfl ?_)
  show wpAny _ _ (seqItems? (.ref l) >>= _) _ _ _
  refine wpAny_bind (wpAny_seqItems hol hdl ?_); simp only [Int.toNat_natCast, hx]
  refine wpAny_bind (wpAny_rule (wpAny_bind (wpAny_setField ho hd (by simp) ?_)))
  show wpAny _ _ (newExc (.type "StopIteration") [] >>= _) _ _ _
  refine wpAny_bind ?_; simp only [newExc, newTuple]
  refine wpAny_bind (wpAny_newObj_type (wpAny_bind (m := firstArgMember _ _) (wpAny_of_eq (a := Value.none) (by first | rfl | (simp only [firstArgMember]; rfl)) (wpAny_newObj_type ?_ (by size_fits)))) (by size_fits))
  have keep : ∀ b o, b ≠ it → s.heap.get? b = some o → ∀ f g h, (((s.heap.update it f).push g).push h).get? b = some o := fun b o hb z f g h =>
    Heap.get?_push_of_some _ (Heap.get?_push_of_some _ (by rw [Heap.get?_update_other _ _ (Ne.symm hb)]; exact z))
  have hx1 := keep x1 o1 ne e1
  refine HotX.raiseNew_hot ⟨hh, o1, vs1, hx1 _ _ _, d1, c1⟩ (Nat.ne_of_lt (Heap.lt_size (Heap.get?_push_of_some _ (by rw [Heap.get?_update_other _ _ (Ne.symm ne)]; exact e1)))) (Heap.get?_push_size _ rfl) rfl (by first | (simp; done) | (simp; omega) | (simp only [Array.size_append]; simp; omega)) ?_
  refine wpAny_bind (wpAny_isInstance (T := "StopIteration") (b := true) ⟨_, Heap.get?_update_self _ (Heap.get?_push_size _ rfl) rfl, rfl⟩ isSubtype_stop (wpAny_pure (hQ _ fun b o hb z => ?_)))
  rw [Heap.get?_update_other _ _ (Nat.ne_of_gt (Heap.lt_size (Heap.get?_push_of_some _ (by rw [Heap.get?_update_other _ _ (Ne.symm hb)]; exact z))))]
  exact keep b o hb z _ _ _
/-- a list's walk while x1 is handled -/
theorem walks_listH (I ax x1 : Addr) (hne : ax ≠ I) (hn1 : x1 ≠ I) (items : Array Value) :
    PySem.Walks prog w A I [I, ax, x1] [I] items.size (fun i v => items[i]? = some v) (fun i h => (h.IsListIter I ax i ∧ h.IsList ax items) ∧ HotX.HotAt A x1 h) where
  sub := fun b hb => by simp at hb; simp [hb]
  frame := fun i h h' ⟨⟨a, b⟩, hh, o, vs, e, d, c⟩ hk => ⟨⟨a.at fun o e => hk I (by simp) o e, b.at fun o e => hk ax (by simp) o e⟩, hh, o, vs, hk x1 (by simp) o e, d, c⟩
  item := fun i s Q E hi ⟨⟨a, b⟩, hh, o, vs, e, d, c⟩ hQ => by
    refine wpAny_pyNext_list_item a b (x := items[i]) (by simp [hi]) fun h' hit' hs' => hQ _ h' s.toks (by simp [hi]) ⟨⟨hit', b.extBut hs'.extBut hne⟩, hh, o, vs, hs'.extBut x1 o hn1 e, d, c⟩ fun b o hb e => hs'.extBut b o (fun h => hb (by simp [h])) e
  done := fun s Q E ⟨⟨a, b⟩, hot⟩ hQ => next_endH hot hn1 a b (by simp) fun h' he' => hQ h' s.toks fun b o hb e => he' b o (fun h => hb (by simp [h])) e
  self := fun _ _ _ _ st hQ => wpAny_pyIter_listiter st.1.1 hQ
end
theorem cr_allH {X : Cx} (hc : L2H.HotC X) : CallR X (.builtin "all") (rAll X.K) := by
  intro pins s σ H vs us Q I r h
  obtain ⟨a, bs, rfl, hs, q⟩ := h
  obtain ⟨its, rv, hl, _⟩ := I.list hs
  rw [Vals.ref1 r]
  have hb := rv.bls
  obtain ⟨x1, hh, o1, vs1, e1, d1, c1⟩ := hc.at I
  refine call_all_walk (iter_any hl.isList fun s2 z st hne => ?_)
  subst z
  have n1 : x1 ≠ s.heap.objs.size := Nat.ne_of_lt (Heap.lt_size e1)
  refine ⟨_, _, _, _, _, _, _, rfl, walks_listH (A := X.A.in1) _ a x1 hne n1 its.toArray, ⟨st, hh, o1, vs1, Heap.get?_push_of_some _ e1, d1, c1⟩, truth_bools hb, fun h' tk hk => ⟨.bl _, H, I.kept fun b o eo => hk b o (fun hm => ?_) (Heap.get?_push_of_some _ eo), ?_, q⟩⟩
  · rw [List.mem_singleton.mp hm] at eo
    exact absurd (Heap.lt_size eo) (Nat.lt_irrefl _)
  · show Value.bool _ = Value.bool _
    rw [← L2.all_range, hb, List.size_toArray, List.length_map]
section
variable {c : Ctx} {e : Expr} {Δ : Sl} {μ : Mu} {Q : D → Mu → Prop} {Ex : XD} {pos p : Pos}
theorem W.allH {pe : Addr × Obj} (hh : InHot c pe) (hm : c.X.mg "all" = none) (h : CE c e Δ μ (fun d m => ∃ ns : List Bool, LstD m d (ns.map .bl) ∧ Q (.bl (ns.all id)) m) Ex) (hg : Gl c.X "all" := by rfl)
    (he : starEach [e] c.X.env = (false, eval e c.X.env) :: starEach [] c.X.env := by rfl) (hpl : (backTo pos (starEach [] c.X.env)).any (·.1) = false := by rfl) : CE c (.Call (.Name "all" p) [e] [] pos) Δ μ Q Ex :=
  CE.cb (cr_allH ⟨pe, hh.1, hh.2⟩) hm bv_all (CA.cons (h.imp fun d m ⟨ns, hs, q⟩ => CA.nil fun vs H QV hH t hQ => by
    cases t with
    | cons t1 r =>
      cases r
      obtain ⟨l, xs, z, hq, h2⟩ := hs.at hH t1
      subst z
      have e := h2.of_bls
      subst e
      exact ⟨l, ns, rfl, hq, hQ _ _ _ _ (Evo.refl hH) (.bl _) q⟩) he) hg (by decide) (by decide) he hpl
end
end AM

set_option autoImplicit false
set_option maxRecDepth 100000
set_option maxHeartbeats 1000000
/-! a comprehension over range while an exception is handled -/
namespace AM
open PySem L2 PySem.Spec PyProof.Rows
/-- the context of a block, with the handled exception pinned -/
abbrev bX (X : Cx) (p : Addr × Obj) (s : Shared) (H : Hp) (scope : Scope) (ce : Env) (fp : List Addr) : Cx := { X.blk s H scope ce fp with pn := [p] }
theorem inv_pin {Y : Cx} {p : Addr × Obj} {σ : L2.St} {H : Hp} {s : Shared} (I : Inv Y [] σ H s) (h1 : s.heap.get? p.1 = some p.2) (h2 : H p.1 = none) (h3 : p.1 ≠ Y.env.locals) (h4 : p.1 ∉ Y.fs) (h5 : ∀ v, p.2.data ≠ .cell v) : Inv { Y with pn := [p] } [] σ H s where
  ok := ⟨I.ok.mod, I.ok.kind, I.ok.glob, I.ok.blt, I.ok.above, I.ok.inj, I.ok.has, I.ok.cab, I.ok.hd, I.ok.frames, I.ok.stk, I.ok.exf, I.ok.bs, I.ok.bsz, I.ok.noex, I.ok.exfs, I.ok.funs, I.ok.frf⟩
  os := I.os
  bare := I.bare
  base := I.base
  loc := I.loc
  cell := I.cell
  free := I.free
  freeC := I.freeC
  pin := fun q hq => by
    obtain rfl : q = p := by simpa using (show q ∈ [p] ++ ([] : List (Addr × Obj)) from hq)
    exact ⟨h1, h2, h3, h4, h5⟩
  hok := I.hok
  len := I.len
section
variable {X : Cx} {p : Addr × Obj}
theorem pe_lcH {elt tg iter : Expr} {scope : Scope} {own : List (Str × Nat)} {pos : Pos} {wi : TI} {g : TG} {te : TE} (hot : L2H.Hot1 X.A p) (hpn : p ∈ X.pn) (hN : X.N.Nodup) (hi : L2H.PIH X tg iter wi) (ok : BlkOk X.N X.env.scope scope own)
    (hg : ∀ s H C cl fp, PG (bX X p s H scope (compEnvC scope cl C X.env) fp) tg g) (he : ∀ s H C cl fp, PE (bX X p s H scope (compEnvC scope cl C X.env) fp) elt te) (hs : ∀ x, foldedSetIterable iter X.env x = pure x := by intro _; rfl) :
    PE X (.ListComp elt [⟨tg, iter, [], 0⟩] scope pos) (tLc wi g tYes te (own.map (·.2))) := by
  refine ⟨fun pins s σ H Q I h => ?_⟩
  rw [eval_ListComp]
  have hf : ∀ y ∈ scope.names, y.2 = .free → ∃ c, X.env.cells.lookup y.1 = some c := fun y hy e => (ok.free y hy e).elim (fun k => I.ok.has _ (.inl k)) fun k => I.ok.has _ (.inr k)
  refine wpAny_comprehension_free (use := none) rfl hs (closure_ok hf) ok.kind (fun y hy e => by rw [ok.uniq y hy, e]) (thn (hi.run pins s σ H _ I h) fun xv s1 hx => thn hx fun itv s2 ⟨it, fp, tn, J, H2, e, I2, T, st2, f2, q⟩ => ?_)
  subst e
  refine wpAny_newObj_type (newEnv_comp ?_) (by show 0 ≤ sizeLine; decide)
  generalize hD : s2.heap.objs.size = L
  have nL : H2 L = none := I2.hok.fresh (Nat.le_of_eq hD)
  obtain ⟨W, ⟨m0, w0⟩, turn⟩ := q L nL
  generalize e3 : ({ s2 with heap := s2.heap.push { cls := .type "list", data := .seq ([] : List Value).toArray } } : Shared) = s3
  have h3 : s3.heap = s2.heap.push { cls := .type "list", data := .seq ([] : List Value).toArray } := (congrArg Shared.heap e3).symm
  have I3 : Inv X pins σ (upd H2 L (.lst [])) s3 := by
    subst e3
    exact I2.laid (t' := s2.toks) (fun b o z => Heap.get?_push_of_some _ z) (Nat.le_of_eq hD) ⟨Nat.zero_le _, [], 0, .nil, by rw [← hD]; exact Heap.get?_push_size _ rfl⟩
  have small : ∀ b ∈ fp, b < s2.heap.objs.size := fun b hb => let ⟨o, z, _⟩ := T.obj _ _ st2 b hb; Heap.lt_size z
  have f3 : ∀ b ∈ fp, FpOk X pins (upd H2 L (.lst [])) b ∧ b < s3.heap.objs.size := fun b hb => by
    have lt := small b hb
    have ne : b ≠ L := by rw [← hD]; exact Nat.ne_of_lt lt
    exact ⟨⟨by rw [upd_ne ne]; exact (f2 b hb).1, (f2 b hb).2⟩, by rw [h3, Heap.size_push]; exact Nat.lt_succ_of_lt lt⟩
  have st3 : tn 0 s3.heap := T.keep _ _ _ st2 fun b _ o z => by rw [h3]; exact Heap.get?_push_of_some _ z
  obtain ⟨p1, p2, p3, p4, p5⟩ := I3.pin p (List.mem_append_left _ hpn)
  have pstk : p.1 ∉ frs X.stack := fun hm => (List.mem_cons.mp (I3.stkSub p.1 hm)).elim p3 p4
  have B := block_start I3 ok hN f3
  have fq : ∀ b ∈ fp, p.1 ≠ b := fun b hb => ((f3 b hb).1.2.2.2.2.2) p (List.mem_append_left _ hpn)
  clear e3
  suffices go : ∀ (ce : Env) (s4 : Shared), ce.locals = s3.heap.objs.size → (∀ b o, s3.heap.get? b = some o → s4.heap.get? b = some o) → Inv (X.blk s3 (upd H2 L (.lst [])) scope ce fp) [] (wipe σ (own.map (·.2))) (upd H2 L (.lst [])) s4 → PG (bX X p s3 (upd H2 L (.lst [])) scope ce fp) tg g → PE (bX X p s3 (upd H2 L (.lst [])) scope ce fp) elt te →
      codeAny (model X.prog X.w) X.A (.compStart (.ListComp elt [⟨tg, iter, [], 0⟩] scope pos) 0 (.ref it) (.ref L) ce) (compPost (model X.prog X.w) X.A X.xe none (EP X pins σ Q) (.ref L) s3.heap.objs.size) s4 from
    go _ { s3 with heap := pushCells (s3.heap.push { cls := .type "dict", data := .dict #[] }) scope.names } rfl (fun b o z => pushCells_keeps _ _ _ _ (Heap.get?_push_of_some _ z)) B (hg s3 _ _ _ fp) (he s3 _ _ _ fp)
  clear B hg he
  intro ce s4 cL k4 B pg pe
  revert B pg pe
  have w1 : W 0 m0 (upd H2 L (.lst [])) := w0
  have nf : ∀ b ∈ fp, (upd H2 L (.lst [])) b = none := fun b hb => (f3 b hb).1.1
  generalize upd H2 L (.lst []) = H3 at *
  intro B pg pe
  have B := inv_pin (p := p) B (k4 _ _ p1) p2 (by show p.1 ≠ ce.locals; rw [cL]; exact Nat.ne_of_lt (Heap.lt_size p1)) pstk p5
  have hhot : L2H.HotC (bX X p s3 H3 scope ce fp) := ⟨p, hot, List.mem_singleton.mpr rfl⟩
  have st4 : tn 0 s4.heap := T.keep _ _ _ st3 fun b _ o z => k4 b o z
  have stay : ∀ {σ' : L2.St} {H' : Hp} {s' : Shared}, Inv (bX X p s3 H3 scope ce fp) [] σ' H' s' → (∀ b ∈ fp, H' b = none) → ∀ b ∈ fp, FpOk (bX X p s3 H3 scope ce fp) [] H' b := fun J z b hb =>
    ⟨z b hb, (J.ok.exf b hb).1, J.ok.exfs b hb, .inl hb, fun x c e => (J.ok.exf b hb).2 x c e, fun q hq => by
      obtain rfl : q = p := by simpa using (show q ∈ [p] ++ ([] : List (Addr × Obj)) from hq)
      exact fq b hb⟩
  suffices lp : codeAny (model X.prog X.w) X.A (.compLoop (.ListComp elt [⟨tg, iter, [], 0⟩] scope pos) 0 (.ref it) (.ref L) ce) (compPost (model X.prog X.w) X.A X.xe none (EP X pins σ Q) (.ref L) s3.heap.objs.size) s4 from codeAny_compStart_list lp (T.self X.A 0 _ _ _ st4 lp)
  refine compLoop_any (fun n s' => ∃ i H', Inv (bX X p s3 H3 scope ce fp) [] (wipe σ (own.map (·.2))) H' s' ∧ tn i s'.heap ∧ (∀ b ∈ fp, H' b = none) ∧ W i n H') ?_ m0 ⟨0, H3, B, st4, nf, w1⟩
  · rintro n t ⟨i, J, IJ, sJ, nJ, wJ⟩
    rcases turn i n J wJ with ⟨halt, qe⟩ | ⟨go, Nx, hNx, step⟩
    · refine thnF (T.done (bX X p s3 H3 scope ce fp) rfl rfl rfl hhot i [] t _ J (fun _ _ => False) IJ (stay IJ nJ) sJ halt) fun r t1 ⟨er, J1⟩ => ?_
      subst er
      have back : Inv X pins σ J t1 := I3.call' (ch := fp) J1.os J1.base J1.hok J1.bare fun b hb => let ⟨_, k1, k2, k3, k4, k5⟩ := (f3 b hb).1; ⟨k3, k1, k4, k5⟩
      have nC : J s3.heap.objs.size = none := by rw [← cL]; exact J1.free
      obtain ⟨m, hn, _⟩ := J1.loc
      have hn : t1.heap.Ns s3.heap.objs.size m := by rw [← cL]; exact hn
      refine ⟨m, hn, fun h2 sb => ?_⟩
      obtain ⟨k0, k1, k2, k3, k4, k5⟩ := I3.fpOk (Nat.le_refl _) nC
      exact ⟨.ref L, J, back.turned (t' := t1.toks) (fun b o hb z => (sb.2 b hb).trans z) k0 k1 k3 k4 k5, rfl, qe⟩
    · refine thnF (T.item (bX X p s3 H3 scope ce fp) rfl rfl rfl hhot i [] t _ J (fun _ _ => False) IJ (stay IJ nJ) sJ go) fun r t1 ⟨u, er, z1⟩ => ?_
      subst er
      refine thnF z1 fun _ t2 ⟨x, J2, I2', r2, y2, q2, n2⟩ => ?_
      have pinned := I2'.pinned (stay I2' n2) (T.obj _ _ q2)
      refine thnF (pg.run _ t2 _ J2 x u _ pinned r2 (step x J2 y2)) fun _ t3 ⟨τ, J3, I3', wp, q3⟩ => ?_
      refine thnF ((pts_nil (X := bX X p s3 H3 scope ce fp)).run _ t3 τ J3 _ I3' q3) fun b t4 ⟨J4, I4', q4⟩ => ?_
      have again : ∀ {t' : Shared} {J' : Hp}, Inv (bX X p s3 H3 scope ce fp) ([] ++ pinsAt fp t2.heap) τ J' t' → Nx J' → ∃ m, m < n ∧ ∃ i J', Inv (bX X p s3 H3 scope ce fp) [] (wipe σ (own.map (·.2))) J' t' ∧ tn i t'.heap ∧ (∀ b ∈ fp, J' b = none) ∧ W i m J' := fun {t' J'} K' nx => by
        obtain ⟨m2, lt, w2⟩ := hNx J' nx
        have held : ∀ b ∈ fp, ∀ o, t2.heap.get? b = some o → t'.heap.get? b = some o ∧ J' b = none := fun b hb o eo =>
          let k := K'.pin (b, o) (List.mem_append_right _ (List.mem_append_right _ (mem_pinsAt hb eo)))
          ⟨k.1, k.2.1⟩
        refine ⟨m2, lt, i + 1, J', (K'.unpinned (pins := [])).weak (by rw [← wp, wipe_length]) (fun j v ev => ?_), T.keep _ _ _ q2 fun b hb o eo => (held b hb o eo).1, fun b hb => ?_, w2⟩
        · rw [← wp] at ev
          exact (wipe_some ev).1
        · obtain ⟨o, eo, _⟩ := T.obj _ _ q2 b hb
          exact (held b hb o eo).2
      cases b with
      | false => exact again I4' q4
      | true =>
        refine thnF (pe.run _ t4 τ J4 _ I4' q4) fun y t5 ⟨yv, J5, I5', r5, acc, hL5, small5, nx⟩ => ?_
        exact app_ok (X := bX X p s3 H3 scope ce fp) I5' hL5 small5 r5 fun t6 I6' => again I6' nx
end
end AM

set_option autoImplicit false
set_option maxRecDepth 100000
set_option maxHeartbeats 1000000
/-! [elt for y in range(a)] as data, while an exception is handled -/
namespace AM
open PySem L2 PySem.Spec PyProof.Rows
def Ctx.hot (c : Ctx) (p : Addr × Obj) (s : Shared) (H : Hp) (scope : Scope) (C : Addr) (cl : List (Str × Addr)) (fp : List Addr) : Ctx :=
  ⟨bX c.X p s H scope (compEnvC scope cl C c.X.env) fp, fun _ _ _ _ => False, AM.noN, PassesOwn.never⟩
abbrev AllH (c : Ctx) (p : Addr × Obj) (scope : Scope) (P : Ctx → Prop) : Prop := ∀ s H C cl fp, P (c.hot p s H scope C cl fp)
def teH (c : Ctx) (p : Addr × Obj) (scope : Scope) (elt : Expr) : TE := fun σ H Q => ∀ s H0 C cl fp, wE (c.hot p s H0 scope C cl fp).X elt σ H Q
theorem InHot.blk {c : Ctx} {p : Addr × Obj} (h : InHot c p) {scope : Scope} : ∀ s H C cl fp, InHot (c.hot p s H scope C cl fp) p := fun _ _ _ _ _ => ⟨h.1, List.mem_singleton.mpr rfl⟩
section
variable {c : Ctx} {a elt : Expr} {Δ : Sl} {μ : Mu} {Q : D → Mu → Prop} {Ex : XD} {pos q1 q2 yp : Pos} {p : Addr × Obj} {scope : Scope} {y : Str} {i n : Nat}
theorem W.lcH (f : Nat → D) (hh : InHot c p) (hN : c.X.N.Nodup) (hi : c.X.N[i]? = some y) (hm : c.X.mg "range" = none) (hn : n ≤ 100000) (h : CE c a Δ μ (fun d m => d = .int n ∧ m = μ) Ex)
    (he : ∀ j, j < n → ∀ acc L, μ L = none → AllH c p scope fun c => CE c elt ((Δ.set i none).set i (some (.int j))) (μ.set L (.l acc)) (fun r m2 => r = f j ∧ m2 = μ.set L (.l acc)) noX)
    (q : Q (.lst ((List.range n).map f)) μ) (ok : BlkOk c.X.N c.X.env.scope scope [(y, i)]) (hx : ∀ s H C cl fp, Loc (c.hot p s H scope C cl fp).X.env.scope y)
    (hf : ∀ s H C cl fp, (c.hot p s H scope C cl fp).X.fn y = true ∨ (c.hot p s H scope C cl fp).X.env.scope.names.lookup y = some .local) (hg : Gl c.X "range" := by rfl) (hst : starEach [a] c.X.env = [(false, eval a c.X.env)] := by rfl)
    (hs : ∀ x, foldedSetIterable (.Call (.Name "range" q1) [a] [] q2) c.X.env x = pure x := by intro _; rfl) :
    CE c (.ListComp elt [⟨.Name y yp, .Call (.Name "range" q1) [a] [] q2, [], 0⟩] scope pos) Δ μ Q Ex := by
  intro σ H okS hS QV hQ hX
  refine ⟨_, pe_lcH hh.1 hh.2 hN (L2H.pi_range1H hg hm (pa_cons pe_w pa_nil hst) hst) ok (fun s H C cl fp => pg_name (X := (c.hot p s H scope C cl fp).X) hN hi (hx s H C cl fp) (hf s H C cl fp))
    (te := teH c p scope elt) (fun s H C cl fp => ⟨fun pins s1 σ H1 Q I h => pe_w.run pins s1 σ H1 Q I (h s H C cl fp)⟩) hs, ?_⟩
  refine h σ H okS hS _ (fun v d m H1 ev t ⟨z1, z2⟩ => ?_) hX
  subst z1; replace z2 := z2.symm; subst z2
  cases t
  refine ⟨(n : Int), rfl, by omega, by omega, fun L hL => ?_⟩
  have hmL : μ L = none := ev.s.none hL
  have e0 : Evo c.K μ H1 (μ.set L (.l [])) (upd H1 L (.lst [])) := evo_new (m := .l []) ev.s (same_new (o := .lst []) hL) hL ⟨[], upd_same, .nil⟩
  refine ⟨fun j k H' => k = n - j ∧ j ≤ n ∧ Evo c.K μ H1 (μ.set L (.l ((List.range j).map f))) H', ⟨n, rfl, Nat.zero_le _, e0⟩, ?_⟩
  rintro j k H' ⟨rfl, hj, e1⟩
  by_cases hlt : j < n
  · refine .inr ⟨(show j < ((n : Nat) : Int).toNat from hlt), fun H2 => j + 1 ≤ n ∧ Evo c.K μ H1 (μ.set L (.l ((List.range (j + 1)).map f))) H2, fun H2 ⟨hl, r⟩ => ⟨n - (j + 1), by omega, rfl, hl, r⟩, fun x H2 yd => ?_⟩
    obtain ⟨rfl, rfl⟩ := yd
    have okw := ok_wipe (okS.evo (ev.trans e1)) [i]
    refine ⟨?_, ?_⟩
    · show (((σ.set i none).set i (some _)).set i none) = σ.set i none
      rw [List.set_set, List.set_set]
    · unfold tYes
      dsimp only
      rw [if_pos rfl]
      intro s5 H5 C5 cl5 fp5
      have okj := okw.set i (.int (j : Int))
      have ez : (0 : Int) + (j : Int) = (j : Int) := by omega
      rw [ez]
      refine he j hlt _ L hmL s5 H5 C5 cl5 fp5 _ _ okj e1.s _ (fun v2 d2 m2 H4 e4 t4 ⟨w1, w2⟩ => ?_) (fun _ _ _ _ _ _ _ _ z => z.elim)
      subst w1; subst w2
      obtain ⟨xs, h1, h2⟩ := e4.s L (.l ((List.range j).map f)) Mu.set_same
      have kk := keeps_set (m := .l ((List.range j).map f ++ [f j])) (o := .lst (xs ++ [v2])) e4.s (p := L) Mu.set_same
      have e5 := evo_set (m := .l ((List.range j).map f ++ [f j])) (o := .lst (xs ++ [v2])) e4.s (p := L) Mu.set_same ⟨_, upd_same, (h2.append (.cons t4 .nil)).keep kk⟩
      rw [Mu.set_set] at e5
      refine ⟨xs, h1, by rw [h2.length, List.length_map, List.length_range]; exact bigl (by omega), hlt, ?_⟩
      rw [List.range_succ, List.map_append]
      exact (e1.trans e4).trans e5
  · have ej : j = n := by omega
    subst ej
    refine .inl ⟨(show ((j : Nat) : Int).toNat ≤ j from Nat.le_refl _), ?_⟩
    have e2 := evo_del (p := L) e1.s
    have fr := frozen_l (p := L) e1.s Mu.set_same
    rw [Mu.del_set hmL] at e2 fr
    exact hQ _ _ _ _ ((ev.trans e1).trans e2) fr q
end
end AM

set_option autoImplicit false
set_option maxRecDepth 100000
set_option maxHeartbeats 1000000
/-! try: .. except X as n: suite, as data; what the suite may say -/
namespace AM
open PySem L2 PySem.Spec PyProof.Rows
def Ctx.sui (c : Ctx) (a : Addr) (pn : List (Addr × Obj)) : Ctx := ⟨c.X.suite a pn, fun _ _ _ _ => False, AM.noN, PassesOwn.never⟩
/-- the caught exception as data -/
def XdAt (a : Addr) : Option Addr → Option (List (Str × D)) → D → Prop
  | none, o, d => o = none ∧ d = .loc a
  | some dx, o, d => ∃ fs, o = some fs ∧ d = .exc a dx fs
theorem XdAt.exd {a : Addr} {oe : Obj} : ∀ {dd : Option Addr} {o : Option (List (Str × D))} {d : D}, XdAt a dd o d → ExD (a, oe) dd d
  | none, _, _, ⟨_, h⟩ => h
  | some _, _, _, ⟨fs, _, h⟩ => ⟨fs, h⟩
def DE.less (E : DE) (i : Nat) : DE := { nx := fun Δ m => E.nx (Δ.set i none) m, rt := E.rt, bk := fun Δ m => E.bk (Δ.set i none) m, ct := fun Δ m => E.ct (Δ.set i none) m }
/-- what the suite must do with an exception of class C -/
def SuiD (c : Ctx) (i : Nat) (su : List Stmt) (E : DE) (C : Addr) (o : Option (List (Str × D))) (Δ : Sl) (μ : Mu) : Prop :=
  ∀ (a : Addr) (oe : Obj) (pn : List (Addr × Obj)) (dd : Option Addr) (d : D), XdAt a dd o d → L2N.Zn (.ref C) dd oe → (∃ vs, oe.data = .fields vs) → CSs (c.sui a ((a, oe) :: pn)) su (Δ.set i (some d)) μ (E.less i)
theorem RoomH.mark {k : Nat} {A : Around} {v : Option Value} (r : L2H.RoomH k A) : L2H.RoomH k (A.mark v) := ⟨r.dp, r.un⟩
theorem InHot.sui {c : Ctx} {a : Addr} {oe : Obj} {pn : List (Addr × Obj)} {cls : Value} {d : Option Addr} (hz : L2N.Zn cls d oe) (hf : ∃ vs, oe.data = .fields vs) : InHot (c.sui a ((a, oe) :: pn)) (a, oe) := by
  obtain ⟨vs, e⟩ := hf
  exact ⟨⟨rfl, vs, e, hz.2.2 vs e⟩, List.mem_cons_self⟩
section
variable {c : Ctx} {a b e : Expr} {Δ : Sl} {μ : Mu} {Q : D → Mu → Prop} {QB : Bool → Mu → Prop} {E : DE} {Ex : XD} {pos p : Pos} {k i : Nat} {x n f : Str} {b₀ : Stmt} {suite body : List Stmt} {np pos' : Pos} {Ci : Addr}
theorem W.eqH (hr : L2H.RoomH k c.X.A) (h : CE c a Δ μ (fun d1 m => CE c b Δ m (fun d2 m' => aEq d1 d2 fun k => Q (.bl k) m') Ex) Ex) : CE c (.Compare a [.Eq] [b] pos) Δ μ Q Ex := CE.eq (by have := hr.un; omega) h
theorem T.eqH (hr : L2H.RoomH k c.X.A) (h : CE c a Δ μ (fun d1 m => CE c b Δ m (fun d2 m' => aEq d1 d2 fun k => QB k m') Ex) Ex) : CT c (.Compare a [.Eq] [b] pos) Δ μ QB Ex := CT.eq (by have := hr.un; omega) h
theorem W.neH (hr : L2H.RoomH k c.X.A) (h : CE c a Δ μ (fun d1 m => CE c b Δ m (fun d2 m' => aEq d1 d2 fun k => Q (.bl (!k)) m') Ex) Ex) : CE c (.Compare a [.NotEq] [b] pos) Δ μ Q Ex := CE.ne (by have := hr.un; omega) h
theorem T.neH (hr : L2H.RoomH k c.X.A) (h : CE c a Δ μ (fun d1 m => CE c b Δ m (fun d2 m' => aEq d1 d2 fun k => QB (!k) m') Ex) Ex) : CT c (.Compare a [.NotEq] [b] pos) Δ μ QB Ex := CT.ne (by have := hr.un; omega) h
theorem CS.tryAs (hs1 : c.X.stack = c.X.env :: c.X.outer) (hf : c.X.env.frame = some c.X.env.locals) (hN : c.X.N.Nodup) (hi : c.X.N[i]? = some n) (hln : c.X.env.kindOf n = some .local) (hc : Names c.X x (.ref Ci))
    (hb : ∀ (W : L2.WX) (pn : List (Addr × Obj)) (xe : Value → Shared → Prop) (tk : L2N.Takes (c.X.tr pn xe) W) (po : PassesOwn (model c.X.prog c.X.w) c.X.A c.X.env xe), CSs ⟨c.X.tr pn xe, W, tk, po⟩ body Δ μ
      { E with ex := fun C o Δ' m' => ∃ b, PySem.W.exmOne c.K (.ref C) (.ref Ci) = some b ∧ (b = true → SuiD c i (b₀ :: suite) E C o Δ' m') ∧ (b = false → E.ex C o Δ' m') }) :
    CS c (.Try body [.ExceptHandler (some (.Name x np)) (some n) (b₀ :: suite) pos'] [] [] pos) Δ μ E := by
  intro σ H ok hs Ev S
  refine ⟨_, L2N.ps_try_as (i := i) (tb := fun W D σ H => ∀ pn xe, L2N.Takes (c.X.tr pn xe) W → PassesOwn (model c.X.prog c.X.w) c.X.A c.X.env xe → wSs (c.X.tr pn xe) body D σ H)
    (ts := fun a cls d D σ H => ∀ oe pn, L2N.Zn cls d oe → (∃ vs, oe.data = .fields vs) → wSs (c.X.suite a ((a, oe) :: pn)) (b₀ :: suite) D σ H) hs1 hf hN hi hln hc c.tk
    (fun W pn xe tk po => ⟨fun pins s σ H D I h => pss_w.run pins s σ H D I (h pn xe tk po)⟩)
    (fun a oe cls d pn hz hfd => ⟨fun pins s σ H D I h => pss_w.run pins s σ H D I (h oe pn hz hfd)⟩), ?_⟩
  intro pn xe tk po
  refine hb _ pn xe tk po σ H ok hs Ev ⟨S.nx, S.rt, S.bk, S.ct, fun cls dict C o σ' Δ' m' H' ev ok' xa q => ?_⟩
  obtain ⟨b, hb1, hyes, hno⟩ := q
  have ec : cls = .ref C := by cases o <;> exact xa.1
  refine ⟨b, by rw [ec]; exact hb1, fun hbt a ha oe pn2 hz hfd => ?_, fun hbf => S.ex _ _ _ _ _ _ _ _ ev ok' xa (hno hbf)⟩
  rw [ec] at hz
  obtain ⟨d, hxd, hdt⟩ : ∃ d, XdAt a dict o d ∧ Dt c.K m' H' (.ref a) d := by
    cases o with
    | none => obtain ⟨_, rfl⟩ := xa; exact ⟨_, ⟨rfl, rfl⟩, .loc a⟩
    | some fs => obtain ⟨_, dx, gs, rfl, h1, h2⟩ := xa; exact ⟨_, ⟨fs, rfl, rfl⟩, .exc h1 h2⟩
  refine hyes hbt a oe pn2 dict d hxd hz hfd _ H' (ok'.set i hdt) ev.s _ ⟨fun σ2 Δ2 m2 H2 e2 o2 q => ?_, S.rt.evo ev, fun σ2 Δ2 m2 H2 e2 o2 q => ?_, fun σ2 Δ2 m2 H2 e2 o2 q => ?_, fun _ _ _ _ _ _ _ _ _ _ _ z => z.elim⟩
  · exact S.nx _ _ _ _ (ev.trans e2) (o2.unset i) q
  · exact S.bk _ _ _ _ (ev.trans e2) (o2.unset i) q
  · exact S.ct _ _ _ _ (ev.trans e2) (o2.unset i) q
theorem W.xf {A : Addr} {oe : Obj} {pn : List (Addr × Obj)} {C dx : Addr} (XF : XfC c.K C) (hno : PySem.W.findIn c.K (.ref C) f = some none) (hz : Zc (.ref C) (some dx) oe) (hfd : ∃ vs, oe.data = .fields vs)
    (h : CE (c.sui A ((A, oe) :: pn)) e Δ μ (fun d m => ∃ fs v, d = .exc A dx fs ∧ lookF f fs = some v ∧ Q v m) Ex) (hb : attributeBase e f c.X.env (eval e c.X.env) = eval e c.X.env := by rfl) : CE (c.sui A ((A, oe) :: pn)) (.Attribute e f pos) Δ μ Q Ex := by
  intro σ H ok hs QV hQ hX
  refine ⟨_, pe_xf (X := c.X) XF hno hz hfd pe_w hb, h σ H ok hs _ (fun v d m H1 ev t ⟨fs, w, z1, z2, q⟩ => ?_) hX⟩
  subst z1
  cases t with
  | exc h1 h2 =>
    obtain ⟨u, l, du⟩ := h2.look z2
    exact ⟨rfl, rfl, dx, _, u, rfl, h1, l, hQ _ _ _ _ ev du q⟩
end
/-! ### a def's body, the facts of a class -/
theorem pctx_hot {P : Program} {w : World} {K : PySem.W.Frag} {mg : Str → Option Value} {base : Heap} {N : List Str} {qual : Str} {sc : Scope} {f : Addr} {cdv : Value} {A : Around} {outer : List Env} {s : Shared} {H : Hp} {E : XK} {p : Addr × Obj} (h : L2H.Hot1 A p) :
    InHot (pctx P w K mg base N qual sc f cdv A outer s H E p) p := ⟨h, List.mem_singleton.mpr rfl⟩
theorem xcc_mk {K : PySem.W.Frag} {C : Addr} (hc : PySem.W.isClsIn K C = true) (hg : PySem.W.findIn K (.ref C) "__getattribute__" = some (some (.builtin "BaseException.__getattribute__"))) (hk : PySem.W.findIn K (.ref C) "__getattr__" = some none)
    (hs : PySem.W.subIn K (.ref C) (.type "BaseException") = some true) (ha : PySem.W.findIn K (.ref C) "__class__" = some (some (.builtin "object.__class__"))) (hn : PySem.W.specialIn K (.builtin "object.__class__") "__get__" = some (some (.builtin "getset_descriptor.__get__")))
    (ht : PySem.W.takesIn K (.builtin "object.__class__") = some true) (hm : PySem.W.mroIn K C (.type "object") = some true) : XcC K C := ⟨hc, hg, hk, hs, ha, hn, ht, hm⟩
theorem names_mk {X : Cx} {x : Str} {C : Addr} (g : X.mg x = some (.ref C)) (hg : Gl X x := by rfl) (hdb : (x == ("__debug__" : Str)) = false := by decide) : Names X x (.ref C) := ⟨hg, hdb, .inl g⟩
def Mg (mg : Str → Option Value) (x : Str) (C : Addr) : Prop := mg x = some (.ref C)
theorem mgE {K : PySem.W.Frag} {h : Heap} {mg : Str → Option Value} {x : Str} {C : Addr} (X : K.In h) (G : h.Ns mainGlobals mg) (g : PySem.W.nsIn K mainGlobals x = some (some (.ref C))) : Mg mg x C := PySem.W.mg_of X G g
def Kit (K : PySem.W.Frag) (C : Addr) (v : Value) (b : Bool) : Prop := PySem.W.kitOne K (.ref C) v = some b
theorem kit_mk {K : PySem.W.Frag} {C : Addr} {v : Value} {b : Bool} (h : PySem.W.kitOne K (.ref C) v = some b) : Kit K C v b := h
end AM

set_option autoImplicit false
set_option maxRecDepth 100000
set_option maxHeartbeats 1000000
set_option hygiene false
set_option pp.maxSteps 300
open PySem L2 PySem.Spec PyProof.Rows
namespace AM

def topS (i : Nat) : Stmt := PySem.Challenge.pw_lightchains_k12_errors_apart.main.body.getD i (.Pass ⟨0, 0, 0, 0⟩)
abbrev topF : Str := PySem.Challenge.pw_lightchains_k12_errors_apart.main.file
abbrev s_InvalidWord___init__ : Stmt := inClass (topS 8) 0
abbrev s__law_random : Stmt := topS 10
abbrev s__law_below : Stmt := topS 11
abbrev s__law_pick : Stmt := topS 12
abbrev s__law_equal : Stmt := topS 13
abbrev s__law_thrown : Stmt := topS 14
abbrev s__law_classes : Stmt := topS 15
abbrev s_law : Stmt := topS 16
theorem sc__law_random : FnScope ["_law_script", "_law_salt", "_law_seed", "_law_cell"] ["_law_script", "_law_salt"] (defScope s__law_random) := ⟨rfl, rfl, rfl, by decide +kernel, rfl, by decide +kernel, by decide +kernel⟩
theorem sc__law_below : FnScope ["_law_d", "_law_size", "_law_result"] ["_law_d", "_law_size"] (defScope s__law_below) := ⟨rfl, rfl, rfl, by decide +kernel, rfl, by decide +kernel, by decide +kernel⟩
theorem sc__law_pick : FnScope ["_law_d", "_law_items"] ["_law_d", "_law_items"] (defScope s__law_pick) := ⟨rfl, rfl, rfl, by decide +kernel, rfl, by decide +kernel, by decide +kernel⟩
theorem sc__law_equal : FnScope ["_law_actual", "_law_expected", "_law_key", "_law_k"] ["_law_actual", "_law_expected"] (defScope s__law_equal) := ⟨rfl, rfl, rfl, by decide +kernel, rfl, by decide +kernel, by decide +kernel⟩
theorem sc__law_thrown : FnScope ["_law_k", "_law_one"] ["_law_k", "_law_one"] (defScope s__law_thrown) := ⟨rfl, rfl, rfl, by decide +kernel, rfl, by decide +kernel, by decide +kernel⟩
theorem sc__law_classes : FnScope ["_law_e", "_law_found"] ["_law_e"] (defScope s__law_classes) := ⟨rfl, rfl, rfl, by decide +kernel, rfl, by decide +kernel, by decide +kernel⟩
theorem sc_law : FnScope ["_law_script", "_law_d", "_law_k", "_law_one", "_law_good", "_law_e", "_law_other"] ["_law_script"] (defScope s_law) := ⟨rfl, rfl, rfl, by decide +kernel, rfl, by decide +kernel, by decide +kernel⟩
structure Mod (K : PySem.W.Frag) (mg : Str → Option Value) where
  NB_int : NB mg "int"
  NB_abs : NB mg "abs"
  NB_len : NB mg "len"
  NB_isinstance : NB mg "isinstance"
  NB_bool : NB mg "bool"
  NB_str : NB mg "str"
  NB_dict : NB mg "dict"
  NB_all : NB mg "all"
  NB_tuple : NB mg "tuple"
  NB_list : NB mg "list"
  NB_sorted : NB mg "sorted"
  NB_range : NB mg "range"
  NB_ValueError : NB mg "ValueError"
  A_BadShape : Addr
  x_BadShape : ExcC K mg "BadShape" A_BadShape
  A_BadPattern : Addr
  x_BadPattern : ExcC K mg "BadPattern" A_BadPattern
  A_BadLength : Addr
  x_BadLength : ExcC K mg "BadLength" A_BadLength
  A_BadTime : Addr
  x_BadTime : ExcC K mg "BadTime" A_BadTime
  A_BadLamp : Addr
  x_BadLamp : ExcC K mg "BadLamp" A_BadLamp
  A_NotComparable : Addr
  x_NotComparable : ExcC K mg "NotComparable" A_NotComparable
  A_InvalidWord : Addr
  V_InvalidWord : Addr
  Y_InvalidWord : Addr
  Z_InvalidWord : Addr
  NB_super : NB mg "super"
  IR_InvalidWord : IwR K A_InvalidWord V_InvalidWord Y_InvalidWord Z_InvalidWord "InvalidWord.__init__" s_InvalidWord___init__ "index" PySem.Challenge.pw_lightchains_k12_errors_apart.main.file
  IO_InvalidWord : IwO K mg "InvalidWord" A_InvalidWord V_InvalidWord
  A_LightError : Addr
  G_LightError : Mg mg "LightError" A_LightError
  X_BadShape_LightError : Exm K A_BadShape A_LightError true
  T_BadShape : XcC K A_BadShape
  VE_BadShape : Kit K A_BadShape (.type "ValueError") true
  O_BadShape_BadShape : Kit K A_BadShape (.ref A_BadShape) true
  O_BadShape_BadPattern : Kit K A_BadShape (.ref A_BadPattern) false
  O_BadShape_BadLength : Kit K A_BadShape (.ref A_BadLength) false
  O_BadShape_BadTime : Kit K A_BadShape (.ref A_BadTime) false
  O_BadShape_BadLamp : Kit K A_BadShape (.ref A_BadLamp) false
  O_BadShape_NotComparable : Kit K A_BadShape (.ref A_NotComparable) false
  O_BadShape_InvalidWord : Kit K A_BadShape (.ref A_InvalidWord) false
  X_BadPattern_LightError : Exm K A_BadPattern A_LightError true
  T_BadPattern : XcC K A_BadPattern
  VE_BadPattern : Kit K A_BadPattern (.type "ValueError") true
  O_BadPattern_BadShape : Kit K A_BadPattern (.ref A_BadShape) false
  O_BadPattern_BadPattern : Kit K A_BadPattern (.ref A_BadPattern) true
  O_BadPattern_BadLength : Kit K A_BadPattern (.ref A_BadLength) false
  O_BadPattern_BadTime : Kit K A_BadPattern (.ref A_BadTime) false
  O_BadPattern_BadLamp : Kit K A_BadPattern (.ref A_BadLamp) false
  O_BadPattern_NotComparable : Kit K A_BadPattern (.ref A_NotComparable) false
  O_BadPattern_InvalidWord : Kit K A_BadPattern (.ref A_InvalidWord) false
  X_BadLength_LightError : Exm K A_BadLength A_LightError true
  T_BadLength : XcC K A_BadLength
  VE_BadLength : Kit K A_BadLength (.type "ValueError") true
  O_BadLength_BadShape : Kit K A_BadLength (.ref A_BadShape) false
  O_BadLength_BadPattern : Kit K A_BadLength (.ref A_BadPattern) false
  O_BadLength_BadLength : Kit K A_BadLength (.ref A_BadLength) true
  O_BadLength_BadTime : Kit K A_BadLength (.ref A_BadTime) false
  O_BadLength_BadLamp : Kit K A_BadLength (.ref A_BadLamp) false
  O_BadLength_NotComparable : Kit K A_BadLength (.ref A_NotComparable) false
  O_BadLength_InvalidWord : Kit K A_BadLength (.ref A_InvalidWord) false
  X_BadTime_LightError : Exm K A_BadTime A_LightError true
  T_BadTime : XcC K A_BadTime
  VE_BadTime : Kit K A_BadTime (.type "ValueError") true
  O_BadTime_BadShape : Kit K A_BadTime (.ref A_BadShape) false
  O_BadTime_BadPattern : Kit K A_BadTime (.ref A_BadPattern) false
  O_BadTime_BadLength : Kit K A_BadTime (.ref A_BadLength) false
  O_BadTime_BadTime : Kit K A_BadTime (.ref A_BadTime) true
  O_BadTime_BadLamp : Kit K A_BadTime (.ref A_BadLamp) false
  O_BadTime_NotComparable : Kit K A_BadTime (.ref A_NotComparable) false
  O_BadTime_InvalidWord : Kit K A_BadTime (.ref A_InvalidWord) false
  X_BadLamp_LightError : Exm K A_BadLamp A_LightError true
  T_BadLamp : XcC K A_BadLamp
  VE_BadLamp : Kit K A_BadLamp (.type "ValueError") true
  O_BadLamp_BadShape : Kit K A_BadLamp (.ref A_BadShape) false
  O_BadLamp_BadPattern : Kit K A_BadLamp (.ref A_BadPattern) false
  O_BadLamp_BadLength : Kit K A_BadLamp (.ref A_BadLength) false
  O_BadLamp_BadTime : Kit K A_BadLamp (.ref A_BadTime) false
  O_BadLamp_BadLamp : Kit K A_BadLamp (.ref A_BadLamp) true
  O_BadLamp_NotComparable : Kit K A_BadLamp (.ref A_NotComparable) false
  O_BadLamp_InvalidWord : Kit K A_BadLamp (.ref A_InvalidWord) false
  X_NotComparable_LightError : Exm K A_NotComparable A_LightError true
  T_NotComparable : XcC K A_NotComparable
  VE_NotComparable : Kit K A_NotComparable (.type "ValueError") true
  O_NotComparable_BadShape : Kit K A_NotComparable (.ref A_BadShape) false
  O_NotComparable_BadPattern : Kit K A_NotComparable (.ref A_BadPattern) false
  O_NotComparable_BadLength : Kit K A_NotComparable (.ref A_BadLength) false
  O_NotComparable_BadTime : Kit K A_NotComparable (.ref A_BadTime) false
  O_NotComparable_BadLamp : Kit K A_NotComparable (.ref A_BadLamp) false
  O_NotComparable_NotComparable : Kit K A_NotComparable (.ref A_NotComparable) true
  O_NotComparable_InvalidWord : Kit K A_NotComparable (.ref A_InvalidWord) false
  X_InvalidWord_LightError : Exm K A_InvalidWord A_LightError true
  T_InvalidWord : XcC K A_InvalidWord
  VE_InvalidWord : Kit K A_InvalidWord (.type "ValueError") true
  O_InvalidWord_BadShape : Kit K A_InvalidWord (.ref A_BadShape) false
  O_InvalidWord_BadPattern : Kit K A_InvalidWord (.ref A_BadPattern) false
  O_InvalidWord_BadLength : Kit K A_InvalidWord (.ref A_BadLength) false
  O_InvalidWord_BadTime : Kit K A_InvalidWord (.ref A_BadTime) false
  O_InvalidWord_BadLamp : Kit K A_InvalidWord (.ref A_BadLamp) false
  O_InvalidWord_NotComparable : Kit K A_InvalidWord (.ref A_NotComparable) false
  O_InvalidWord_InvalidWord : Kit K A_InvalidWord (.ref A_InvalidWord) true
  D__law_random : Df K mg "_law_random" s__law_random ["_law_script", "_law_salt"]
  D__law_below : Df K mg "_law_below" s__law_below ["_law_d", "_law_size"]
  D__law_pick : Df K mg "_law_pick" s__law_pick ["_law_d", "_law_items"]
  D__law_equal : Df K mg "_law_equal" s__law_equal ["_law_actual", "_law_expected"]
  D__law_thrown : Df K mg "_law_thrown" s__law_thrown ["_law_k", "_law_one"]
  D__law_classes : Df K mg "_law_classes" s__law_classes ["_law_e"]
def shp (r : Bool) : Str := if r then "ring" else "chain"
end AM
set_option maxRecDepth 100000 in
set_option maxHeartbeats 0 in
theorem AM.early (h : PySem.Challenge.rw_lightchains_k12_errors_apart.row.wellSaid = true → PySem.Challenge.rw_lightchains_k12_errors_apart.row.Holds) : PySem.Challenge.rw_lightchains_k12_errors_apart.Holds := by
  w_on; o_law; exact h (by assumption)
set_option autoImplicit false
set_option maxRecDepth 100000
set_option maxHeartbeats 1000000
set_option hygiene false
open PySem L2 PySem.Spec PyProof.Rows
namespace AM

section
/-- what is asked of the program: its file, and that it has no super of its own -/
def IwP (P : Program) : Prop := ((P.main.file : Str) == (topF : Str)) = true ∧ (P.main.scope.names.lookup ("super" : Str)).isSome = false
theorem iw_body : ∃ p0 p1 p2 p3 p4 p5 p6 p7 p8 p9 txt kk, IwB s_InvalidWord___init__ "index" p0 p1 p2 p3 p4 p5 p6 p7 p8 p9 txt kk := by
  refine ⟨_, _, _, _, _, _, _, _, _, _, _, _, { body := rfl, ar := rfl, ne := by decide +kernel, db := by decide +kernel, bnd := fun _ _ _ _ _ _ _ _ _ _ => rfl, nc := by decide +kernel, s1 := rfl, s2 := rfl, s3 := rfl, s4 := rfl, co := rfl, gn := rfl, kd := rfl, he := fun _ _ _ _ _ => ⟨_, rfl⟩, hi := fun _ _ _ _ _ => rfl, w1 := fun _ _ _ _ _ => rfl, w2 := fun _ _ _ _ _ => rfl }⟩
theorem iw_c {P : Program} {w : World} {K : PySem.W.Frag} {mg : Str → Option Value} (M : Mod K mg) (hP : IwP P) : IwC P w K mg "InvalidWord" M.A_InvalidWord M.V_InvalidWord "index" := by
  obtain ⟨p0, p1, p2, p3, p4, p5, p6, p7, p8, p9, txt, kk, B⟩ := iw_body
  exact iw_ok M.IR_InvalidWord M.IO_InvalidWord B hP.1 hP.2 M.NB_super
end
end AM
set_option autoImplicit false
set_option maxRecDepth 100000
set_option maxHeartbeats 1000000
set_option hygiene false
open PySem L2 PySem.Spec PyProof.Rows
namespace AM

local macro_rules | `(tactic| wtm_at "vis") => `(tactic| first | exact .inl rfl | exact .inr (.inl rfl) | exact .inr (.inr rfl))
local macro_rules | `(tactic| wtm_at "loc") => `(tactic| first | exact .inl rfl | exact .inr rfl)
local macro_rules | `(tactic| wtm_at "ne") => `(tactic| first | assumption | exact Ne.symm (by assumption) | (intro z; subst z; simp_all; done))
local macro_rules | `(tactic| wtm_at "mu") => `(tactic| first | assumption | exact AM.Mu.set_same | (rw [AM.Mu.set_ne (by wtm_at "ne")]; wtm_at "mu"))
local macro_rules | `(tactic| wtm_at "pl") => `(tactic| first | exact ⟨_, rfl⟩ | assumption | exact AM.Pat.pl _)
local macro_rules | `(tactic| wtm_at "ar") => `(tactic| first | ((with_reducible first | show _ = some (AM.MO.o _ _) | show _ = some (AM.MO.l _)); wtm_at "mu") | ((with_reducible show AM.Pl _); wtm_at "pl") | assumption | omega | exact ⟨by omega, by omega⟩ | decide | (refine ⟨?_, ?_, ?_⟩ <;> omega) | (refine ⟨?_, ?_, ?_, ?_⟩ <;> omega) | (exact .inl ⟨by omega, by omega⟩) | (exact .inr ⟨by omega, by omega⟩) | (simp; omega) | exact of_decide_eq_true rfl | (simp; done) | fail)
local macro_rules | `(tactic| wtm_at "ca") => `(tactic| fail)
local macro_rules | `(tactic| wtm_at "tr") => `(tactic| fail)
local macro_rules | `(tactic| wtm_at "xm") => `(tactic| fail)
local macro_rules | `(tactic| wtm_at "ls") => `(tactic| first | exact .inl rfl | exact .inr ⟨_, rfl, by wtm_at "mu"⟩)
local macro_rules | `(tactic| wtm_at "io") => `(tactic| fail)
local macro_rules | `(tactic| wtm_at "mt") => `(tactic| fail)
local macro_rules | `(tactic| wtm_at "eo") => `(tactic| fail)
local macro_rules | `(tactic| wtm_at "eot") => `(tactic| fail)
local macro_rules | `(tactic| wtm_at "pr") => `(tactic| fail)
local macro_rules | `(tactic| wtm_at "lcL") => `(tactic| fail)
local macro_rules | `(tactic| wtm_at "nl") => `(tactic| fail)
local macro_rules | `(tactic| wtm_at "lk") => `(tactic| refine AM.aLook.mk rfl ?_)
local macro_rules | `(tactic| wtm_at "rz") => `(tactic| fail)
local macro_rules | `(tactic| wtm_at "ix") => `(tactic| assumption)
local macro_rules | `(tactic| wtm_at "if") => `(tactic| first | refine L2.iteT ?_ | refine L2.iteF ?_ | refine AM.ifT (by assumption) ?_ | refine AM.ifF (by assumption) ?_ | refine AM.ifDT (by first | with_reducible rfl | assumption | omega) ?_ | refine AM.ifDF (by first | assumption | omega) ?_ | refine AM.ifN ?_)
local macro_rules | `(tactic| wtm_at "ans") => `(tactic| first
  | ((with_reducible show AM.aII _ _ _); refine AM.aII.mk ?_)
  | ((with_reducible show AM.aI _ _); refine AM.aI.mk ?_)
  | ((with_reducible show AM.aB _ _); refine AM.aB.mk ?_)
  | ((with_reducible show AM.aS _ _); refine AM.aS.mk ?_)
  | ((with_reducible show AM.aIB _ _); first | refine AM.aIB.int ?_ | refine AM.aIB.bl ?_)
  | ((with_reducible show AM.aEq _ _ _); first | refine AM.aEq.int ?_ | refine AM.aEq.str ?_ | refine AM.aEq.bl ?_ | refine AM.aEq.py rfl rfl (by decide) (by decide) ?_ | refine AM.aEq.py (by decide +kernel) (by decide +kernel) (by decide +kernel) (by decide +kernel) ?_)
  | ((with_reducible show AM.aSeq _ _ _); first | refine AM.aSeq.tup ?_ | refine AM.aSeq.lst ?_ | refine AM.aSeq.loc (by wtm_at "mu") ?_)
  | ((with_reducible show AM.aLst _ _ _); first | refine AM.aLst.lst ?_ | refine AM.aLst.loc (by wtm_at "mu") ?_)
  | ((with_reducible show AM.aStay _ _); first | refine AM.aStay.lst ?_ | refine AM.aStay.fz ?_)
  | ((with_reducible show AM.aPut _ _ _ _); refine AM.aPut.mk (by wtm_at "mu") (by first | exact AM.ixN_0 | exact AM.ixN_1 | rfl) ?_)
  | ((with_reducible show AM.aFA _ _ _ _ _); refine AM.aFA.mk (by wtm_at "mu") (by wtm_at "fc") rfl (by wtm_at "ar") ?_)
  | ((with_reducible show AM.aEqO _ _ _ _ _ _ _); refine ⟨_, by first | exact .inl rfl | exact .inr ⟨_, rfl, by wtm_at "mu"⟩, by first | exact .inl ⟨_, .inl rfl⟩ | exact .inr ⟨_, rfl, M.i_Lights.nf⟩, ?_⟩)
  | ((with_reducible show AM.aIS _ _); first | refine AM.aIS.str ?_ | refine AM.aIS.int (by exact AM.log_small (by omega) (by omega)) ?_)
  | ((with_reducible show AM.aIsO _ _ _ _ _); wtm_at "io")
  | ((with_reducible show AM.aIns _ _ _ _); first | refine AM.aIns.ins ?_ | refine AM.aIns.loc (by wtm_at "mu") ?_)
  | ((with_reducible show AM.HdD _ _ _ _ _ _ _); first | refine AM.HdD.hit (by wtm_at "xm") (fun _ _ => ?_) | refine AM.HdD.miss (by wtm_at "xm") ?_)
  | ((with_reducible show AM.aFz _ _ _); refine AM.aFz.mk (by wtm_at "mu") ?_)
  | ((with_reducible show AM.aTup _ _); refine AM.aTup.mk ?_)
  | ((with_reducible show AM.aLoc _ _ _); refine AM.aLoc.mk (by wtm_at "mu") ?_)
  | ((with_reducible show AM.aObj _ _ _); first | refine AM.aObj.ins ?_ | refine AM.aObj.loc (by wtm_at "mu") ?_)
  | ((with_reducible show AM.aAt _ _ _); refine AM.aAt.mk (by first | exact AM.atI_0 | exact AM.atI_1 | exact AM.atI_2 | rfl | wtm_at "ix") ?_)
  | ((with_reducible show AM.aTy _ _); refine AM.aTy.mk rfl ?_)
  | ((with_reducible show AM.aPlus _ _ _ _); first | refine AM.aPlus.int ?_ | refine AM.aPlus.tup (by wtm_at "ar") ?_ | refine AM.aPlus.lst (by wtm_at "ls") (by wtm_at "ls") (by wtm_at "ar") ?_)
  | ((with_reducible show AM.aTimes _ _ _ _); refine AM.aTimes.int (by wtm_at "ar") ?_)
  | ((with_reducible show AM.aSl _ _ _ _ _); first | refine AM.aSl.lst ?_ | refine AM.aSl.tup ?_ | refine AM.aSl.loc (by wtm_at "mu") ?_)
  | ((with_reducible show AM.aIn _ _ _ _); first | refine AM.aIn.str (.inl rfl) ?_ | refine AM.aIn.str (.inr (.inl rfl)) ?_ | refine AM.aIn.str (.inr (.inr ⟨_, rfl, by wtm_at "mu"⟩)) ?_ | refine AM.aIn.mk (.inl rfl) rfl rfl ?_ | refine AM.aIn.mk (.inr (.inl rfl)) rfl rfl ?_)
  | ((with_reducible show AM.aLook _ _ _); wtm_at "lk")
  | ((with_reducible show AM.aMeth _ _ _ _ _); first | refine AM.aMeth.ins rfl ?_ | refine AM.aMeth.loc (by wtm_at "mu") rfl ?_))
local macro_rules | `(tactic| wtm_at "bin") => `(tactic| first
  | ((with_reducible show AM.CE _ (Expr.BinOp _ Operator.Add _ _) _ _ _ _); refine AM.W.plus ?_)
  | ((with_reducible show AM.CE _ (Expr.BinOp _ Operator.Sub _ _) _ _ _ _); refine AM.W.sub ?_)
  | ((with_reducible show AM.CE _ (Expr.BinOp _ Operator.Mult _ _) _ _ _ _); refine AM.W.times ?_)
  | ((with_reducible show AM.CE _ (Expr.BinOp _ Operator.Mod _ _) _ _ _ _); refine AM.W.mod ?_)
  | ((with_reducible show AM.CE _ (Expr.BinOp _ Operator.FloorDiv _ _) _ _ _ _); refine AM.W.fdiv ?_)
  | ((with_reducible show AM.CE _ (Expr.BinOp _ Operator.Pow _ _) _ _ _ _); refine AM.W.pow ?_)
  | ((with_reducible show AM.CE _ (Expr.BinOp _ Operator.LShift _ _) _ _ _ _); refine AM.W.shl ?_)
  | ((with_reducible show AM.CE _ (Expr.BinOp _ Operator.RShift _ _) _ _ _ _); refine AM.W.shr ?_)
  | ((with_reducible show AM.CE _ (Expr.BinOp _ Operator.BitAnd _ _) _ _ _ _); refine AM.W.band ?_)
  | ((with_reducible show AM.CE _ (Expr.BinOp _ Operator.BitOr _ _) _ _ _ _); refine AM.W.bor ?_)
  | ((with_reducible show AM.CE _ (Expr.BinOp _ Operator.BitXor _ _) _ _ _ _); refine AM.W.bxor ?_))
local macro_rules | `(tactic| wtm_at "cmp") => `(tactic| first
  | wtm_at "eo"
  | ((with_reducible show AM.CE _ (Expr.Compare _ [CmpOp.Eq] _ _) _ _ _ _); refine AM.W.eq hr ?_)
  | ((with_reducible show AM.CE _ (Expr.Compare _ [CmpOp.NotEq] _ _) _ _ _ _); refine AM.W.ne hr ?_)
  | ((with_reducible show AM.CE _ (Expr.Compare _ [CmpOp.Lt] _ _) _ _ _ _); refine AM.W.lt ?_)
  | ((with_reducible show AM.CE _ (Expr.Compare _ [CmpOp.LtE] _ _) _ _ _ _); refine AM.W.le ?_)
  | ((with_reducible show AM.CE _ (Expr.Compare _ [CmpOp.Gt] _ _) _ _ _ _); refine AM.W.gt ?_)
  | ((with_reducible show AM.CE _ (Expr.Compare _ [CmpOp.GtE] _ _) _ _ _ _); refine AM.W.ge ?_)
  | ((with_reducible show AM.CE _ (Expr.Compare _ [CmpOp.In] _ _) _ _ _ _); refine AM.W.inq ?_)
  | ((with_reducible show AM.CE _ (Expr.Compare _ [CmpOp.NotIn] _ _) _ _ _ _); refine AM.W.notin ?_)
  | ((with_reducible show AM.CE _ (Expr.Compare _ [CmpOp.Is] [Expr.Constant Const.none _ _] _) _ _ _ _); refine AM.CE.isN ?_)
  | ((with_reducible show AM.CE _ (Expr.Compare _ [CmpOp.IsNot] [Expr.Constant Const.none _ _] _) _ _ _ _); refine AM.CE.notN ?_)
  | ((with_reducible show AM.CE _ (Expr.Compare _ [CmpOp.LtE, CmpOp.LtE] _ _) _ _ _ _); refine AM.W.lele ?_ (fun _ _ _ h1 h2 h3 => L2.pe_chain L2.op_le L2.op_le h1 h2 h3))
  | ((with_reducible show AM.CE _ (Expr.Compare _ [CmpOp.LtE, CmpOp.Lt] _ _) _ _ _ _); refine AM.W.lelt ?_ (fun _ _ _ h1 h2 h3 => L2.pe_chain L2.op_le L2.op_lt h1 h2 h3)))
local macro_rules | `(tactic| wtm_at "mt0") => `(tactic| first
  | ((with_reducible show AM.CE _ (Expr.Call (Expr.Attribute _ (Str.ofString "append") _) _ _ _) _ _ _ _); refine AM.W.append ?_ (by rfl) (fun _ _ h1 h2 => L2.pe_bm PySem.F.plainAttrs_list PySem.F.slot_list_append PySem.F.type_list_append L2.mt_append h1 h2))
  | ((with_reducible show AM.CE _ (Expr.Call (Expr.Attribute _ (Str.ofString "extend") _) _ _ _) _ _ _ _); refine AM.W.extend ?_ (by rfl) (fun _ _ h1 h2 => L2.pe_bm PySem.F.plainAttrs_list PySem.F.slot_list_extend PySem.F.type_list_extend L2.mt_extend h1 h2))
  | ((with_reducible show AM.CE _ (Expr.Call (Expr.Attribute _ (Str.ofString "pop") _) [] _ _) _ _ _ _); refine AM.W.pop ?_ (fun _ h1 => L2.pe_bm0 PySem.F.plainAttrs_list PySem.F.slot_list_pop PySem.F.type_list_pop L2.mt_pop h1))
  | ((with_reducible show AM.CE _ (Expr.Call (Expr.Attribute _ (Str.ofString "pop") _) _ _ _) _ _ _ _); refine AM.W.popAt ?_ (by rfl) (fun _ _ h1 h2 => L2.pe_bm PySem.F.plainAttrs_list PySem.F.slot_list_pop PySem.F.type_list_pop L2.mt_popAt h1 h2))
  | ((with_reducible show AM.CE _ (Expr.Call (Expr.Attribute _ (Str.ofString "join") _) _ _ _) _ _ _ _); refine AM.W.join ?_)
  | ((with_reducible show AM.CE _ (Expr.Call (Expr.Attribute _ (Str.ofString "split") _) _ _ _) _ _ _ _); refine AM.W.split ?_))
local macro_rules | `(tactic| wtm_at "e") => `(tactic| first
  | ((with_reducible show AM.CE _ (Expr.Name _ _) _ _ _ _); wtm_at "nm")
  | ((with_reducible show AM.CE _ (Expr.Constant _ _ _) _ _ _ _); first | refine AM.CE.int ?_ | refine AM.CE.str ?_ | refine AM.CE.bl ?_ | refine AM.CE.non ?_)
  | ((with_reducible show AM.CE _ (Expr.BinOp _ _ _ _) _ _ _ _); wtm_at "bin")
  | ((with_reducible show AM.CE _ (Expr.Compare _ _ _ _) _ _ _ _); wtm_at "cmp")
  | ((with_reducible show AM.CE _ (Expr.Call (Expr.Name _ _) _ _ _) _ _ _ _); wtm_at "fn")
  | ((with_reducible show AM.CE _ (Expr.Call (Expr.Attribute _ _ _) _ _ _) _ _ _ _); first | wtm_at "mt0" | wtm_at "mt")
  | ((with_reducible show AM.CE _ (Expr.Attribute _ _ _) _ _ _ _); first | wtm_at "pr" | refine AM.W.fld ?_)
  | ((with_reducible show AM.CE _ (Expr.Subscript _ (Expr.Slice _ _ none _) _) _ _ _ _); refine AM.W.sl ?_)
  | ((with_reducible show AM.CE _ (Expr.Subscript _ _ _) _ _ _ _); refine AM.W.ix ?_)
  | ((with_reducible show AM.CE _ (Expr.Tuple _ _ _) _ _ _ _); refine AM.W.tup ?_)
  | ((with_reducible show AM.CE _ (Expr.List _ _) _ _ _ _); first | wtm_at "nl" | refine AM.CE.lst ?_)
  | ((with_reducible show AM.CE _ (Expr.BoolOp _ [_] _) _ _ _ _); refine AM.CE.one ?_)
  | ((with_reducible show AM.CE _ (Expr.BoolOp BoolOp.And _ _) _ _ _ _); refine AM.W.and ?_)
  | ((with_reducible show AM.CE _ (Expr.BoolOp BoolOp.Or _ _) _ _ _ _); refine AM.W.or ?_)
  | ((with_reducible show AM.CE _ (Expr.UnaryOp UnaryOp.Not _ _) _ _ _ _); refine AM.W.not ?_)
  | ((with_reducible show AM.CE _ (Expr.UnaryOp UnaryOp.USub _ _) _ _ _ _); refine AM.W.neg ?_)
  | ((with_reducible show AM.CE _ (Expr.IfExp _ _ _ _) _ _ _ _); refine AM.CE.ifE ?_)
  | ((with_reducible show AM.CE _ (Expr.ListComp _ _ _ _) _ _ _ _); wtm_at "lc"))
local macro_rules | `(tactic| wtm_at "t") => `(tactic| first
  | wtm_at "eot"
  | ((with_reducible show AM.CT _ (Expr.Compare _ [CmpOp.Eq] _ _) _ _ _ _); refine AM.T.eq hr ?_)
  | ((with_reducible show AM.CT _ (Expr.Compare _ [CmpOp.NotEq] _ _) _ _ _ _); refine AM.T.ne hr ?_)
  | ((with_reducible show AM.CT _ (Expr.Compare _ [CmpOp.Lt] _ _) _ _ _ _); refine AM.T.lt ?_)
  | ((with_reducible show AM.CT _ (Expr.Compare _ [CmpOp.LtE] _ _) _ _ _ _); refine AM.T.le ?_)
  | ((with_reducible show AM.CT _ (Expr.Compare _ [CmpOp.Gt] _ _) _ _ _ _); refine AM.T.gt ?_)
  | ((with_reducible show AM.CT _ (Expr.Compare _ [CmpOp.GtE] _ _) _ _ _ _); refine AM.T.ge ?_)
  | ((with_reducible show AM.CT _ (Expr.Compare _ [CmpOp.In] _ _) _ _ _ _); refine AM.T.inq ?_)
  | ((with_reducible show AM.CT _ (Expr.Compare _ [CmpOp.NotIn] _ _) _ _ _ _); refine AM.T.notin ?_)
  | ((with_reducible show AM.CT _ (Expr.Compare _ [CmpOp.Is] [Expr.Constant Const.none _ _] _) _ _ _ _); refine AM.CT.isN ?_)
  | ((with_reducible show AM.CT _ (Expr.Compare _ [CmpOp.IsNot] [Expr.Constant Const.none _ _] _) _ _ _ _); refine AM.CT.notN ?_)
  | ((with_reducible show AM.CT _ (Expr.Compare _ [CmpOp.LtE, CmpOp.LtE] _ _) _ _ _ _); refine AM.T.lele ?_ (fun _ _ _ h1 h2 h3 => L2.pt_chain L2.op_le L2.op_le h1 h2 h3))
  | ((with_reducible show AM.CT _ (Expr.Compare _ [CmpOp.LtE, CmpOp.Lt] _ _) _ _ _ _); refine AM.T.lelt ?_ (fun _ _ _ h1 h2 h3 => L2.pt_chain L2.op_le L2.op_lt h1 h2 h3))
  | ((with_reducible show AM.CT _ (Expr.BoolOp _ _ _) _ _ _ _); refine AM.CT.w ?_)
  | ((with_reducible show AM.CT _ (Expr.UnaryOp UnaryOp.Not _ _) _ _ _ _); refine AM.CT.not ?_)
  | ((with_reducible show AM.CT _ (Expr.BinOp _ _ _ _) _ _ _ _); refine AM.T.int ?_)
  | refine AM.T.val ?_)
local macro_rules | `(tactic| wtm_at "w") => `(tactic| first
  | ((with_reducible show AM.CW _ (Expr.BoolOp BoolOp.And [_] _) _ _ _ _); refine AM.CW.and1 ?_)
  | ((with_reducible show AM.CW _ (Expr.BoolOp BoolOp.Or [_] _) _ _ _ _); refine AM.CW.or1 ?_)
  | ((with_reducible show AM.CW _ (Expr.BoolOp BoolOp.And _ _) _ _ _ _); refine AM.CW.and ?_)
  | ((with_reducible show AM.CW _ (Expr.BoolOp BoolOp.Or _ _) _ _ _ _); refine AM.CW.or ?_))
local macro_rules | `(tactic| wtm_at "ti") => `(tactic| fail)
local macro_rules | `(tactic| wtm_at "i") => `(tactic| first
  | wtm_at "ti"
  | ((with_reducible show AM.CI _ _ (Expr.Call (Expr.Name (Str.ofString "range") _) [_] _ _) _ _ _ _); refine AM.I.range1 (by wtm_at "nb") ?_)
  | ((with_reducible show AM.CI _ _ (Expr.Call (Expr.Name (Str.ofString "range") _) [_, _] _ _) _ _ _ _); refine AM.I.range2 (by wtm_at "nb") ?_)
  | ((with_reducible show AM.CI _ _ (Expr.Call (Expr.Name (Str.ofString "range") _) [_, _, _] _ _) _ _ _ _); refine AM.CI.range3 (by wtm_at "nb") ?_)
  | ((with_reducible show AM.CI _ _ (Expr.Call (Expr.Name (Str.ofString "enumerate") _) [_] _ _) _ _ _ _); refine AM.I.enum (by wtm_at "nb") ?_)
  | refine AM.I.list ?_)
local macro_rules | `(tactic| wtm_at "st") => `(tactic| first
  | ((with_reducible show AM.CS _ (Stmt.Assign [Expr.Name _ _] (Expr.ListComp _ _ _ _) _) _ _ _); wtm_at "slc")
  | ((with_reducible show AM.CS _ (Stmt.Assign [Expr.Name _ _] _ _) _ _ _); wtm_at "as")
  | ((with_reducible show AM.CS _ (Stmt.Assign [Expr.Tuple _ _ _] _ _) _ _ _); wtm_at "at")
  | ((with_reducible show AM.CS _ (Stmt.Assign [Expr.Attribute _ _ _] _ _) _ _ _); refine AM.S.fld ?_)
  | ((with_reducible show AM.CS _ (Stmt.Assign [Expr.Subscript _ _ _] _ _) _ _ _); refine AM.S.setIx ?_)
  | ((with_reducible show AM.CS _ (Stmt.AugAssign (Expr.Attribute _ _ _) Operator.Add _ _) _ _ _); refine AM.S.fldAdd ?_)
  | ((with_reducible show AM.CS _ (Stmt.Return _ _) _ _ _); first | wtm_at "rz" | refine AM.CS.ret ?_ | refine AM.CS.retN ?_)
  | ((with_reducible show AM.CS _ (Stmt.If _ _ _ _) _ _ _); refine AM.CS.ite ?_)
  | ((with_reducible show AM.CS _ (Stmt.Expr _ _) _ _ _); refine AM.CS.expr ?_)
  | ((with_reducible show AM.CS _ (Stmt.Raise _ _ _) _ _ _); wtm_at "ra")
  | ((with_reducible show AM.CS _ (Stmt.Pass _) _ _ _); refine AM.CS.pass ?_)
  | ((with_reducible show AM.CS _ (Stmt.Try _ _ _ _ _) _ _ _); wtm_at "tr")
  | ((with_reducible show AM.CS _ (Stmt.For _ _ _ _ _) _ _ _); wtm_at "fo"))
local macro_rules | `(tactic| wtm_at "s") => `(tactic| first
  | ((with_reducible show AM.CE _ _ _ _ _ _); wtm_at "e")
  | wtm_at "ans"
  | ((with_reducible show AM.CT _ _ _ _ _ _); wtm_at "t")
  | ((with_reducible show AM.CW _ _ _ _ _ _); wtm_at "w")
  | ((with_reducible show AM.CA _ _ _ _ _ _); first | refine AM.CA.nil ?_ | refine AM.A.star ?_ | refine AM.CA.cons ?_)
  | ((with_reducible show AM.CO _ _ _ _ _ _); first | refine AM.CO.none ?_ | refine AM.O.some ?_)
  | ((with_reducible show AM.CI _ _ _ _ _ _ _); wtm_at "i")
  | ((with_reducible show AM.CS _ _ _ _ _); wtm_at "st")
  | ((with_reducible show AM.CO _ _ _ _ _ _); first | refine AM.CO.none ?_ | refine AM.O.some ?_)
  | wtm_at "ca"
  | ((with_reducible show AM.CSs _ _ _ _ _); first | refine AM.CSs.nil ?_ | refine AM.CSs.one ?_ | refine AM.CSs.cons ?_)
  | ((with_reducible show (if _ then _ else _)); wtm_at "if")
  | ((with_reducible show (∃ _ _ _, D.loc _ = D.loc _ ∧ _)); refine ⟨_, _, _, rfl, by wtm_at "mu", ?_⟩)
  | ((with_reducible show (∃ _, AM.tgP _ _ _ _ = some _ ∧ _)); refine ⟨_, rfl, ?_⟩)
  | ((with_reducible show (∃ _ _, [_, _] = [_, _] ∧ _)); refine ⟨_, _, rfl, ?_⟩)
  | ((with_reducible show (AM.FldC _ _ _) ∧ _); refine ⟨by wtm_at "fc", ?_⟩)
  | ((with_reducible show _ ∧ _); refine ⟨by wtm_at "ar", ?_⟩))
local macro_rules | `(tactic| wtm_at "sp") => `(tactic| first | (refine AM.ifD (fun hc => ?_) (fun hc => ?_)) | (refine AM.ifN ?_) | (refine AM.ifB (fun hc => ?_) (fun hc => ?_)))
local macro_rules | `(tactic| wtm_at "go") => `(tactic| repeat (wtm_at "s"))
local macro_rules | `(tactic| wtm_at "all") => `(tactic| repeat' (first | wtm_at "s" | wtm_at "sp"))

section
section
variable {P : Program} {w : World} {K : PySem.W.Frag} {mg : Str → Option Value} {base : Heap} (M : Mod K mg)
include M
def S__law_random : SpD := fun ds m Q _ => ∃ (ns : List Int) (salt : Int), ds = [.fz (ns.map .int), .int salt] ∧ ns.length ≤ 63 ∧ 0 ≤ salt ∧ salt < 2147483647 ∧ ∀ a ds', m a = none → DrI ds' → Q (.loc a) (m.set a (.l ds'))
omit M in
theorem S__law_random.mk {ns : List Int} {salt : Int} {m : Mu} {Q : D → Mu → Prop} {E : Addr → Option (List (Str × D)) → Mu → Prop} (h : ns.length ≤ 63 ∧ 0 ≤ salt ∧ salt < 2147483647 ∧ ∀ a ds', m a = none → DrI ds' → Q (.loc a) (m.set a (.l ds'))) : S__law_random [.fz (ns.map .int), .int salt] m Q E := ⟨ns, salt, rfl, h⟩
section
local macro_rules | `(tactic| wtm_at "nm") => `(tactic| first
  | ((with_reducible show AM.CE _ (Expr.Name (Str.ofString "_law_script") _) _ _ _ _); refine AM.W.nm (i := 0) rfl rfl (by wtm_at "vis") ?_)
  | ((with_reducible show AM.CE _ (Expr.Name (Str.ofString "_law_salt") _) _ _ _ _); refine AM.W.nm (i := 1) rfl rfl (by wtm_at "vis") ?_)
  | ((with_reducible show AM.CE _ (Expr.Name (Str.ofString "_law_seed") _) _ _ _ _); refine AM.W.nm (i := 2) rfl rfl (by wtm_at "vis") ?_)
  | ((with_reducible show AM.CE _ (Expr.Name (Str.ofString "_law_cell") _) _ _ _ _); refine AM.W.nm (i := 3) rfl rfl (by wtm_at "vis") ?_))
local macro_rules | `(tactic| wtm_at "fn") => `(tactic| first
  | ((with_reducible show AM.CE _ (Expr.Call (Expr.Name (Str.ofString "int") _) _ _ _) _ _ _ _); refine AM.W.intI M.NB_int ?_)
  | ((with_reducible show AM.CE _ (Expr.Call (Expr.Name (Str.ofString "abs") _) _ _ _) _ _ _ _); refine AM.W.abs M.NB_abs ?_))
local macro_rules | `(tactic| wtm_at "as") => `(tactic| first
  | ((with_reducible show AM.CS _ (Stmt.Assign [Expr.Name (Str.ofString "_law_seed") _] _ _) _ _ _); refine AM.CS.set (i := 2) rfl (by wtm_at "loc") ?_ sc__law_random.nd (.inl rfl)))
local macro_rules | `(tactic| wtm_at "lc") => `(tactic| first
  | ((with_reducible show AM.CE _ (Expr.ListComp _ [⟨Expr.Name (Str.ofString "_law_cell") _, _, _, 0⟩] _ _) _ _ _ _); refine AM.CE.lc (own := [("_law_cell", 3)]) rfl sc__law_random.nd (L2.blkOk_by (own := [("_law_cell", 3)]) (N := ["_law_script", "_law_salt", "_law_seed", "_law_cell"]) (sc := defScope s__law_random) (by decide +kernel)) (AM.CGB.name rfl sc__law_random.nd (fun _ _ _ _ _ => by wtm_at "loc") (fun _ _ _ _ _ => by first | exact .inr rfl | exact .inl rfl)) ?_))
local macro_rules | `(tactic| wtm_at "lcL") => `(tactic| first
  | ((with_reducible show AM.CE _ (Expr.ListComp _ [⟨Expr.Name (Str.ofString "_law_cell") _, _, _, 0⟩] _ _) _ _ _ _); refine AM.CE.lcL (own := [("_law_cell", 3)]) rfl sc__law_random.nd (L2.blkOk_by (own := [("_law_cell", 3)]) (N := ["_law_script", "_law_salt", "_law_seed", "_law_cell"]) (sc := defScope s__law_random) (by decide +kernel)) (AM.CGB.name rfl sc__law_random.nd (fun _ _ _ _ _ => by wtm_at "loc") (fun _ _ _ _ _ => by first | exact .inr rfl | exact .inl rfl)) ?_))
local macro_rules | `(tactic| wtm_at "fo") => `(tactic| first
  | ((with_reducible show AM.CS _ (Stmt.For (Expr.Name (Str.ofString "_law_cell") _) _ _ _ _) _ _ _); refine AM.S.for rfl (AM.CG.name (i := 3) rfl (by wtm_at "loc") sc__law_random.nd (.inl rfl)) ?_))
theorem b__law_random : FnG P w K mg base "_law_random" 1 S__law_random :=
  gD M.D__law_random sc__law_random (fun ds m Q E ⟨v, l, h, _⟩ => by rw [h]; rfl) fun f cdv A outer s0 H E hr ds m Q Ex ⟨ns, salt, h, hl, h1, h2, q⟩ => by
    subst h
    wtm_at "go"
    refine ⟨fun i Δ' m' => ∃ (s : Int) (x : Option D), Δ' = [some (.fz (ns.map .int)), some (.int salt), some (.int s), x] ∧ m' = m ∧ 0 ≤ s ∧ s < 2147483647, ⟨salt, _, rfl, rfl, h1, h2⟩, fun i d Δ' m' hd2 ⟨s, x, hx, hm, g1, g2⟩ => ?_, fun Δ' m' ⟨s, x, hx, hm, g1, g2⟩ => ?_⟩
    · obtain ⟨k, hk, rfl⟩ := map_get hd2
      subst hx; subst hm
      refine ⟨_, rfl, ?_⟩
      wtm_at "go"
      exact ⟨_, _, rfl, rfl, by omega, by omega⟩
    · subst hx; subst hm
      refine CSs.one ?_
      refine CS.ret ?_
      refine W.plusL ?_
      wtm_at "go"
      refine LcD.filt (fun d => decide (1000000000000000000 ≤ intOf d)) id (by rw [List.length_map]; omega) (fun d acc L hd hL => ⟨_, rfl, fun s2 H2 C cl fp => ?_, fun hp s2 H2 C cl fp => ?_⟩) ?_
      · obtain ⟨k, hk, rfl⟩ := List.mem_map.mp hd
        wtm_at "go"
        refine ⟨?_, rfl⟩
        show decide ((10 : Int) ^ (18 : Int).toNat ≤ k) = decide (1000000000000000000 ≤ k)
        have : (10 : Int) ^ (18 : Int).toNat = 1000000000000000000 := rfl
        rw [this]
      · obtain ⟨k, hk, rfl⟩ := List.mem_map.mp hd
        wtm_at "go"
        exact rfl
      · have e : ∃ zs : List Int, ((ns.map D.int).filter (fun d => decide (1000000000000000000 ≤ intOf d))).map id = zs.map D.int ∧ zs.length ≤ 63 := by
          refine ⟨ns.filter (fun d => decide (1000000000000000000 ≤ d)), ?_, Nat.le_trans (List.length_filter_le _ _) hl⟩
          rw [List.map_id, List.filter_map]; rfl
        obtain ⟨zs, e, hz⟩ := e
        refine ⟨_, _, .inl rfl, .inl rfl, ?_, fun p hp => q p _ hp ?_⟩
        · rw [e, List.length_map]; show 2 + zs.length ≤ _; omega
        · rw [e]; exact DrI.mk g1 g2 (by omega)
end
def S__law_below : SpD := fun ds m Q _ => ∃ (a : Addr) (ds0 : List D) (size : Int), ds = [.loc a, .int size] ∧ m a = some (.l ds0) ∧ DrI ds0 ∧ 0 < size ∧ size < 1073741824 ∧ ∀ (r : Int) ds', 0 ≤ r → r < size → DrI ds' → Q (.int r) (m.set a (.l ds'))
omit M in
theorem S__law_below.mk {a : Addr} {size : Int} {m : Mu} {Q : D → Mu → Prop} {E : Addr → Option (List (Str × D)) → Mu → Prop} (h : aLoc m (.loc a) fun _ ds0 => DrI ds0 ∧ 0 < size ∧ size < 1073741824 ∧ ∀ (r : Int) ds', 0 ≤ r → r < size → DrI ds' → Q (.int r) (m.set a (.l ds'))) : S__law_below [.loc a, .int size] m Q E := by
  obtain ⟨l, ds0, z, h1, h2⟩ := h
  cases z
  exact ⟨a, ds0, size, rfl, h1, h2⟩
section
local macro_rules | `(tactic| wtm_at "nm") => `(tactic| first
  | ((with_reducible show AM.CE _ (Expr.Name (Str.ofString "_law_d") _) _ _ _ _); refine AM.W.nm (i := 0) rfl rfl (by wtm_at "vis") ?_)
  | ((with_reducible show AM.CE _ (Expr.Name (Str.ofString "_law_size") _) _ _ _ _); refine AM.W.nm (i := 1) rfl rfl (by wtm_at "vis") ?_)
  | ((with_reducible show AM.CE _ (Expr.Name (Str.ofString "_law_result") _) _ _ _ _); refine AM.W.nm (i := 2) rfl rfl (by wtm_at "vis") ?_))
local macro_rules | `(tactic| wtm_at "fn") => `(tactic| first
  | ((with_reducible show AM.CE _ (Expr.Call (Expr.Name (Str.ofString "int") _) _ _ _) _ _ _ _); refine AM.W.intI M.NB_int ?_)
  | ((with_reducible show AM.CE _ (Expr.Call (Expr.Name (Str.ofString "len") _) _ _ _) _ _ _ _); refine AM.W.len M.NB_len ?_))
local macro_rules | `(tactic| wtm_at "as") => `(tactic| first
  | ((with_reducible show AM.CS _ (Stmt.Assign [Expr.Name (Str.ofString "_law_result") _] _ _) _ _ _); refine AM.CS.set (i := 2) rfl (by wtm_at "loc") ?_ sc__law_below.nd (.inl rfl)))
theorem b__law_below : FnG P w K mg base "_law_below" 1 S__law_below :=
  gD M.D__law_below sc__law_below (fun ds m Q E ⟨v, l, _, h, _⟩ => by rw [h]; rfl) fun f cdv A outer s0 H E hr ds m Q Ex ⟨a, ds0, size, h, hm, ⟨x, y, zs, e, g1, g2, g3⟩, h1, h2, q⟩ => by
    subst h
    subst e
    wtm_at "all"
    · cases zs with
      | nil => exact absurd hc (by show ¬ (2 < ((2 : Nat) : Int)); decide)
      | cons z zs =>
        have hz : zs.length ≤ 99 := by rw [List.length_cons] at g3; omega
        refine ⟨2, .int z, by decide, ?_, rfl, ?_⟩
        · unfold seqIndex?
          simp; omega
        · wtm_at "all"
          all_goals rw [Mu.set_set]
          · rw [Mu.set_set]
            exact q _ _ (Int.emod_nonneg _ (by omega)) (Int.emod_lt_of_pos _ h1) (DrI.mk g1 g2 (by omega))
          · rw [Mu.set_set]
            exact q _ _ (Int.emod_nonneg _ (by omega)) (Int.emod_lt_of_pos _ h1) (DrI.mk (by omega) (by omega) (by omega))
    · exact q _ _ (Int.emod_nonneg _ (by omega)) (Int.emod_lt_of_pos _ h1) (DrI.mk (by omega) (by omega) (by omega))
    · wtm_at "go"
      exact q _ _ (Int.emod_nonneg _ (by omega)) (Int.emod_lt_of_pos _ h1) (DrI.mk g1 g2 (by omega))
    · exact q _ _ (Int.emod_nonneg _ (by omega)) (Int.emod_lt_of_pos _ h1) (DrI.mk (by omega) (by omega) (by omega))
end
end
end
section
section
variable {P : Program} {w : World} {K : PySem.W.Frag} {mg : Str → Option Value} {base : Heap} (M : Mod K mg)
include M
def S__law_pick : SpD := fun ds m Q _ => ∃ (a : Addr) (ds0 xs : List D), ds = [.loc a, .lst xs] ∧ m a = some (.l ds0) ∧ DrI ds0 ∧ 0 < xs.length ∧ xs.length ≤ 1000 ∧ ∀ d ds', d ∈ xs → DrI ds' → Q d (m.set a (.l ds'))
omit M in
theorem S__law_pick.mk {a : Addr} {xs : List D} {m : Mu} {Q : D → Mu → Prop} {E : Addr → Option (List (Str × D)) → Mu → Prop} (h : aLoc m (.loc a) fun _ ds0 => DrI ds0 ∧ 0 < xs.length ∧ xs.length ≤ 1000 ∧ ∀ d ds', d ∈ xs → DrI ds' → Q d (m.set a (.l ds'))) : S__law_pick [.loc a, .lst xs] m Q E := by
  obtain ⟨l, ds0, z, h1, h2⟩ := h
  cases z
  exact ⟨a, ds0, xs, rfl, h1, h2⟩
section
local macro_rules | `(tactic| wtm_at "nm") => `(tactic| first
  | ((with_reducible show AM.CE _ (Expr.Name (Str.ofString "_law_d") _) _ _ _ _); refine AM.W.nm (i := 0) rfl rfl (by wtm_at "vis") ?_)
  | ((with_reducible show AM.CE _ (Expr.Name (Str.ofString "_law_items") _) _ _ _ _); refine AM.W.nm (i := 1) rfl rfl (by wtm_at "vis") ?_))
local macro_rules | `(tactic| wtm_at "fn") => `(tactic| first
  | ((with_reducible show AM.CE _ (Expr.Call (Expr.Name (Str.ofString "_law_below") _) _ _ _) _ _ _ _); refine AM.W.call f__law_below hr (by first | decide | omega) ?_)
  | ((with_reducible show AM.CE _ (Expr.Call (Expr.Name (Str.ofString "len") _) _ _ _) _ _ _ _); refine AM.W.len M.NB_len ?_))
local macro_rules | `(tactic| wtm_at "ca") => `(tactic| first
  | ((with_reducible first | show AM.S__law_below _ _ _ _ | show AM.S__law_below _ _ _ _ _ | show AM.S__law_below _ _ _ _ _ _); first | refine AM.S__law_below.mk ?_ | refine AM.S__law_below.mk M ?_))
theorem b__law_pick : FnG P w K mg base "_law_pick" 2 S__law_pick :=
  gD M.D__law_pick sc__law_pick (fun ds m Q E ⟨v, l, _, h, _⟩ => by rw [h]; rfl) fun f cdv A outer s0 H E hr ds m Q Ex ⟨a, ds0, xs, h, hm, h1, h2, h3, q⟩ => by
    subst h
    have f__law_below := b__law_below (P := P) (w := w) (base := base) M
    wtm_at "go"
    intro r ds' g1 g2 g3
    wtm_at "go"
    have hr2 : r.toNat < xs.length := by omega
    refine aAt.mk (v := xs[r.toNat]) (atI_of (n := r.toNat) (by omega) (List.getElem?_eq_getElem hr2)) ?_
    exact q _ _ (List.getElem_mem hr2) g3
end
end
end
end AM
set_option autoImplicit false
set_option maxRecDepth 100000
set_option maxHeartbeats 1000000
set_option hygiene false
open PySem L2 PySem.Spec PyProof.Rows
namespace AM

local macro_rules | `(tactic| wtm_at "vis") => `(tactic| first | exact .inl rfl | exact .inr (.inl rfl) | exact .inr (.inr rfl))
local macro_rules | `(tactic| wtm_at "loc") => `(tactic| first | exact .inl rfl | exact .inr rfl)
local macro_rules | `(tactic| wtm_at "ne") => `(tactic| first | assumption | exact Ne.symm (by assumption) | (intro z; subst z; simp_all; done))
local macro_rules | `(tactic| wtm_at "mu") => `(tactic| first | assumption | exact AM.Mu.set_same | (rw [AM.Mu.set_ne (by wtm_at "ne")]; wtm_at "mu"))
local macro_rules | `(tactic| wtm_at "pl") => `(tactic| first | exact ⟨_, rfl⟩ | assumption | exact AM.Pat.pl _)
local macro_rules | `(tactic| wtm_at "ar") => `(tactic| first | ((with_reducible first | show _ = some (AM.MO.o _ _) | show _ = some (AM.MO.l _)); wtm_at "mu") | ((with_reducible show AM.Pl _); wtm_at "pl") | with_reducible assumption | omega | assumption | exact ⟨by omega, by omega⟩ | decide | (refine ⟨?_, ?_, ?_⟩ <;> omega) | (refine ⟨?_, ?_, ?_, ?_⟩ <;> omega) | (exact .inl ⟨by omega, by omega⟩) | (exact .inr ⟨by omega, by omega⟩) | (simp; omega) | exact of_decide_eq_true rfl | (simp; done))
local macro_rules | `(tactic| wtm_at "ca") => `(tactic| fail)
local macro_rules | `(tactic| wtm_at "tr") => `(tactic| fail)
local macro_rules | `(tactic| wtm_at "xm") => `(tactic| fail)
local macro_rules | `(tactic| wtm_at "ls") => `(tactic| first | exact .inl rfl | exact .inr ⟨_, rfl, by wtm_at "mu"⟩)
local macro_rules | `(tactic| wtm_at "io") => `(tactic| fail)
local macro_rules | `(tactic| wtm_at "mt") => `(tactic| fail)
local macro_rules | `(tactic| wtm_at "eo") => `(tactic| fail)
local macro_rules | `(tactic| wtm_at "eot") => `(tactic| fail)
local macro_rules | `(tactic| wtm_at "pr") => `(tactic| fail)
local macro_rules | `(tactic| wtm_at "lcL") => `(tactic| fail)
local macro_rules | `(tactic| wtm_at "nl") => `(tactic| fail)
local macro_rules | `(tactic| wtm_at "lk") => `(tactic| refine AM.aLook.mk rfl ?_)
local macro_rules | `(tactic| wtm_at "rz") => `(tactic| fail)
local macro_rules | `(tactic| wtm_at "ix") => `(tactic| assumption)
local macro_rules | `(tactic| wtm_at "if") => `(tactic| first | refine L2.iteT ?_ | refine L2.iteF ?_ | refine AM.ifT (by with_reducible assumption) ?_ | refine AM.ifF (by with_reducible assumption) ?_ | refine AM.ifDT (by first | with_reducible rfl | assumption | omega) ?_ | refine AM.ifDF (by first | assumption | omega) ?_ | refine AM.ifN ?_)
local macro_rules | `(tactic| wtm_at "ans") => `(tactic| first
  | ((with_reducible show AM.aII _ _ _); refine AM.aII.mk ?_)
  | ((with_reducible show AM.aI _ _); refine AM.aI.mk ?_)
  | ((with_reducible show AM.aB _ _); refine AM.aB.mk ?_)
  | ((with_reducible show AM.aS _ _); refine AM.aS.mk ?_)
  | ((with_reducible show AM.aIB _ _); first | refine AM.aIB.int ?_ | refine AM.aIB.bl ?_)
  | ((with_reducible show AM.aEq _ _ _); first | refine AM.aEq.int ?_ | refine AM.aEq.str ?_ | refine AM.aEq.bl ?_ | refine AM.aEq.py rfl rfl (by decide) (by decide) ?_ | refine AM.aEq.py (by decide +kernel) (by decide +kernel) (by decide +kernel) (by decide +kernel) ?_)
  | ((with_reducible show AM.aSeq _ _ _); first | refine AM.aSeq.tup ?_ | refine AM.aSeq.lst ?_ | refine AM.aSeq.loc (by wtm_at "mu") ?_)
  | ((with_reducible show AM.aLst _ _ _); first | refine AM.aLst.lst ?_ | refine AM.aLst.loc (by wtm_at "mu") ?_)
  | ((with_reducible show AM.aStay _ _); first | refine AM.aStay.lst ?_ | refine AM.aStay.fz ?_)
  | ((with_reducible show AM.aPut _ _ _ _); refine AM.aPut.mk (by wtm_at "mu") (by first | exact AM.ixN_0 | exact AM.ixN_1 | rfl) ?_)
  | ((with_reducible show AM.aFA _ _ _ _ _); refine AM.aFA.mk (by wtm_at "mu") (by wtm_at "fc") rfl (by wtm_at "ar") ?_)
  | ((with_reducible show AM.aEqO _ _ _ _ _ _ _); refine ⟨_, by first | exact .inl rfl | exact .inr ⟨_, rfl, by wtm_at "mu"⟩, by first | exact .inl ⟨_, .inl rfl⟩ | exact .inr ⟨_, rfl, M.i_Lights.nf⟩, ?_⟩)
  | ((with_reducible show AM.aIS _ _); first | refine AM.aIS.str ?_ | refine AM.aIS.int (by exact AM.log_small (by omega) (by omega)) ?_)
  | ((with_reducible show AM.aIsO _ _ _ _ _); wtm_at "io")
  | ((with_reducible show AM.aIns _ _ _ _); first | refine AM.aIns.ins ?_ | refine AM.aIns.loc (by wtm_at "mu") ?_)
  | ((with_reducible show AM.HdD _ _ _ _ _ _ _); first | refine AM.HdD.hit (by wtm_at "xm") (fun _ _ => ?_) | refine AM.HdD.miss (by wtm_at "xm") ?_)
  | ((with_reducible show AM.aFz _ _ _); refine AM.aFz.mk (by wtm_at "mu") ?_)
  | ((with_reducible show AM.aTup _ _); refine AM.aTup.mk ?_)
  | ((with_reducible show AM.aLoc _ _ _); refine AM.aLoc.mk (by wtm_at "mu") ?_)
  | ((with_reducible show AM.aObj _ _ _); first | refine AM.aObj.ins ?_ | refine AM.aObj.loc (by wtm_at "mu") ?_)
  | ((with_reducible show AM.aAt _ _ _); refine AM.aAt.mk (by first | exact AM.atI_0 | exact AM.atI_1 | exact AM.atI_2 | rfl | wtm_at "ix") ?_)
  | ((with_reducible show AM.aTy _ _); refine AM.aTy.mk rfl ?_)
  | ((with_reducible show AM.aPlus _ _ _ _); first | refine AM.aPlus.int ?_ | refine AM.aPlus.tup (by wtm_at "ar") ?_ | refine AM.aPlus.lst (by wtm_at "ls") (by wtm_at "ls") (by wtm_at "ar") ?_)
  | ((with_reducible show AM.aTimes _ _ _ _); refine AM.aTimes.int (by wtm_at "ar") ?_)
  | ((with_reducible show AM.aSl _ _ _ _ _); first | refine AM.aSl.lst ?_ | refine AM.aSl.tup ?_ | refine AM.aSl.loc (by wtm_at "mu") ?_)
  | ((with_reducible show AM.aIn _ _ _ _); first | refine AM.aIn.str (.inl rfl) ?_ | refine AM.aIn.str (.inr (.inl rfl)) ?_ | refine AM.aIn.str (.inr (.inr ⟨_, rfl, by wtm_at "mu"⟩)) ?_ | refine AM.aIn.mk (.inl rfl) rfl rfl ?_ | refine AM.aIn.mk (.inr (.inl rfl)) rfl rfl ?_)
  | ((with_reducible show AM.aLook _ _ _); wtm_at "lk")
  | ((with_reducible show AM.aMeth _ _ _ _ _); first | refine AM.aMeth.ins rfl ?_ | refine AM.aMeth.loc (by wtm_at "mu") rfl ?_))
local macro_rules | `(tactic| wtm_at "bin") => `(tactic| first
  | ((with_reducible show AM.CE _ (Expr.BinOp _ Operator.Add _ _) _ _ _ _); refine AM.W.plus ?_)
  | ((with_reducible show AM.CE _ (Expr.BinOp _ Operator.Sub _ _) _ _ _ _); refine AM.W.sub ?_)
  | ((with_reducible show AM.CE _ (Expr.BinOp _ Operator.Mult _ _) _ _ _ _); refine AM.W.times ?_)
  | ((with_reducible show AM.CE _ (Expr.BinOp _ Operator.Mod _ _) _ _ _ _); refine AM.W.mod ?_)
  | ((with_reducible show AM.CE _ (Expr.BinOp _ Operator.FloorDiv _ _) _ _ _ _); refine AM.W.fdiv ?_)
  | ((with_reducible show AM.CE _ (Expr.BinOp _ Operator.Pow _ _) _ _ _ _); refine AM.W.pow ?_)
  | ((with_reducible show AM.CE _ (Expr.BinOp _ Operator.LShift _ _) _ _ _ _); refine AM.W.shl ?_)
  | ((with_reducible show AM.CE _ (Expr.BinOp _ Operator.RShift _ _) _ _ _ _); refine AM.W.shr ?_)
  | ((with_reducible show AM.CE _ (Expr.BinOp _ Operator.BitAnd _ _) _ _ _ _); refine AM.W.band ?_)
  | ((with_reducible show AM.CE _ (Expr.BinOp _ Operator.BitOr _ _) _ _ _ _); refine AM.W.bor ?_)
  | ((with_reducible show AM.CE _ (Expr.BinOp _ Operator.BitXor _ _) _ _ _ _); refine AM.W.bxor ?_))
local macro_rules | `(tactic| wtm_at "cmp") => `(tactic| first
  | wtm_at "eo"
  | ((with_reducible show AM.CE _ (Expr.Compare _ [CmpOp.Eq] _ _) _ _ _ _); refine AM.W.eq hr ?_)
  | ((with_reducible show AM.CE _ (Expr.Compare _ [CmpOp.NotEq] _ _) _ _ _ _); refine AM.W.ne hr ?_)
  | ((with_reducible show AM.CE _ (Expr.Compare _ [CmpOp.Lt] _ _) _ _ _ _); refine AM.W.lt ?_)
  | ((with_reducible show AM.CE _ (Expr.Compare _ [CmpOp.LtE] _ _) _ _ _ _); refine AM.W.le ?_)
  | ((with_reducible show AM.CE _ (Expr.Compare _ [CmpOp.Gt] _ _) _ _ _ _); refine AM.W.gt ?_)
  | ((with_reducible show AM.CE _ (Expr.Compare _ [CmpOp.GtE] _ _) _ _ _ _); refine AM.W.ge ?_)
  | ((with_reducible show AM.CE _ (Expr.Compare _ [CmpOp.In] _ _) _ _ _ _); refine AM.W.inq ?_)
  | ((with_reducible show AM.CE _ (Expr.Compare _ [CmpOp.NotIn] _ _) _ _ _ _); refine AM.W.notin ?_)
  | ((with_reducible show AM.CE _ (Expr.Compare _ [CmpOp.Is] [Expr.Constant Const.none _ _] _) _ _ _ _); refine AM.CE.isN ?_)
  | ((with_reducible show AM.CE _ (Expr.Compare _ [CmpOp.IsNot] [Expr.Constant Const.none _ _] _) _ _ _ _); refine AM.CE.notN ?_)
  | ((with_reducible show AM.CE _ (Expr.Compare _ [CmpOp.LtE, CmpOp.LtE] _ _) _ _ _ _); refine AM.W.lele ?_ (fun _ _ _ h1 h2 h3 => L2.pe_chain L2.op_le L2.op_le h1 h2 h3))
  | ((with_reducible show AM.CE _ (Expr.Compare _ [CmpOp.LtE, CmpOp.Lt] _ _) _ _ _ _); refine AM.W.lelt ?_ (fun _ _ _ h1 h2 h3 => L2.pe_chain L2.op_le L2.op_lt h1 h2 h3)))
local macro_rules | `(tactic| wtm_at "mt0") => `(tactic| first
  | ((with_reducible show AM.CE _ (Expr.Call (Expr.Attribute _ (Str.ofString "append") _) _ _ _) _ _ _ _); refine AM.W.append ?_ (by rfl) (fun _ _ h1 h2 => L2.pe_bm PySem.F.plainAttrs_list PySem.F.slot_list_append PySem.F.type_list_append L2.mt_append h1 h2))
  | ((with_reducible show AM.CE _ (Expr.Call (Expr.Attribute _ (Str.ofString "extend") _) _ _ _) _ _ _ _); refine AM.W.extend ?_ (by rfl) (fun _ _ h1 h2 => L2.pe_bm PySem.F.plainAttrs_list PySem.F.slot_list_extend PySem.F.type_list_extend L2.mt_extend h1 h2))
  | ((with_reducible show AM.CE _ (Expr.Call (Expr.Attribute _ (Str.ofString "pop") _) [] _ _) _ _ _ _); refine AM.W.pop ?_ (fun _ h1 => L2.pe_bm0 PySem.F.plainAttrs_list PySem.F.slot_list_pop PySem.F.type_list_pop L2.mt_pop h1))
  | ((with_reducible show AM.CE _ (Expr.Call (Expr.Attribute _ (Str.ofString "pop") _) _ _ _) _ _ _ _); refine AM.W.popAt ?_ (by rfl) (fun _ _ h1 h2 => L2.pe_bm PySem.F.plainAttrs_list PySem.F.slot_list_pop PySem.F.type_list_pop L2.mt_popAt h1 h2))
  | ((with_reducible show AM.CE _ (Expr.Call (Expr.Attribute _ (Str.ofString "join") _) _ _ _) _ _ _ _); refine AM.W.join ?_)
  | ((with_reducible show AM.CE _ (Expr.Call (Expr.Attribute _ (Str.ofString "split") _) _ _ _) _ _ _ _); refine AM.W.split ?_))
local macro_rules | `(tactic| wtm_at "e") => `(tactic| first
  | ((with_reducible show AM.CE _ (Expr.Name _ _) _ _ _ _); wtm_at "nm")
  | ((with_reducible show AM.CE _ (Expr.Constant _ _ _) _ _ _ _); first | refine AM.CE.int ?_ | refine AM.CE.str ?_ | refine AM.CE.bl ?_ | refine AM.CE.non ?_)
  | ((with_reducible show AM.CE _ (Expr.BinOp _ _ _ _) _ _ _ _); wtm_at "bin")
  | ((with_reducible show AM.CE _ (Expr.Compare _ _ _ _) _ _ _ _); wtm_at "cmp")
  | ((with_reducible show AM.CE _ (Expr.Call (Expr.Name _ _) _ _ _) _ _ _ _); wtm_at "fn")
  | ((with_reducible show AM.CE _ (Expr.Call (Expr.Attribute _ _ _) _ _ _) _ _ _ _); first | wtm_at "mt0" | wtm_at "mt")
  | ((with_reducible show AM.CE _ (Expr.Attribute _ _ _) _ _ _ _); first | wtm_at "pr" | refine AM.W.fld ?_)
  | ((with_reducible show AM.CE _ (Expr.Subscript _ (Expr.Slice _ _ none _) _) _ _ _ _); refine AM.W.sl ?_)
  | ((with_reducible show AM.CE _ (Expr.Subscript _ _ _) _ _ _ _); refine AM.W.ix ?_)
  | ((with_reducible show AM.CE _ (Expr.Tuple _ _ _) _ _ _ _); refine AM.W.tup ?_)
  | ((with_reducible show AM.CE _ (Expr.List _ _) _ _ _ _); first | wtm_at "nl" | refine AM.CE.lst ?_)
  | ((with_reducible show AM.CE _ (Expr.BoolOp _ [_] _) _ _ _ _); refine AM.CE.one ?_)
  | ((with_reducible show AM.CE _ (Expr.BoolOp BoolOp.And _ _) _ _ _ _); refine AM.W.and ?_)
  | ((with_reducible show AM.CE _ (Expr.BoolOp BoolOp.Or _ _) _ _ _ _); refine AM.W.or ?_)
  | ((with_reducible show AM.CE _ (Expr.UnaryOp UnaryOp.Not _ _) _ _ _ _); refine AM.W.not ?_)
  | ((with_reducible show AM.CE _ (Expr.UnaryOp UnaryOp.USub _ _) _ _ _ _); refine AM.W.neg ?_)
  | ((with_reducible show AM.CE _ (Expr.IfExp _ _ _ _) _ _ _ _); refine AM.CE.ifE ?_)
  | ((with_reducible show AM.CE _ (Expr.ListComp _ _ _ _) _ _ _ _); wtm_at "lc"))
local macro_rules | `(tactic| wtm_at "t") => `(tactic| first
  | wtm_at "eot"
  | ((with_reducible show AM.CT _ (Expr.Compare _ [CmpOp.Eq] _ _) _ _ _ _); refine AM.T.eq hr ?_)
  | ((with_reducible show AM.CT _ (Expr.Compare _ [CmpOp.NotEq] _ _) _ _ _ _); refine AM.T.ne hr ?_)
  | ((with_reducible show AM.CT _ (Expr.Compare _ [CmpOp.Lt] _ _) _ _ _ _); refine AM.T.lt ?_)
  | ((with_reducible show AM.CT _ (Expr.Compare _ [CmpOp.LtE] _ _) _ _ _ _); refine AM.T.le ?_)
  | ((with_reducible show AM.CT _ (Expr.Compare _ [CmpOp.Gt] _ _) _ _ _ _); refine AM.T.gt ?_)
  | ((with_reducible show AM.CT _ (Expr.Compare _ [CmpOp.GtE] _ _) _ _ _ _); refine AM.T.ge ?_)
  | ((with_reducible show AM.CT _ (Expr.Compare _ [CmpOp.In] _ _) _ _ _ _); refine AM.T.inq ?_)
  | ((with_reducible show AM.CT _ (Expr.Compare _ [CmpOp.NotIn] _ _) _ _ _ _); refine AM.T.notin ?_)
  | ((with_reducible show AM.CT _ (Expr.Compare _ [CmpOp.Is] [Expr.Constant Const.none _ _] _) _ _ _ _); refine AM.CT.isN ?_)
  | ((with_reducible show AM.CT _ (Expr.Compare _ [CmpOp.IsNot] [Expr.Constant Const.none _ _] _) _ _ _ _); refine AM.CT.notN ?_)
  | ((with_reducible show AM.CT _ (Expr.Compare _ [CmpOp.LtE, CmpOp.LtE] _ _) _ _ _ _); refine AM.T.lele ?_ (fun _ _ _ h1 h2 h3 => L2.pt_chain L2.op_le L2.op_le h1 h2 h3))
  | ((with_reducible show AM.CT _ (Expr.Compare _ [CmpOp.LtE, CmpOp.Lt] _ _) _ _ _ _); refine AM.T.lelt ?_ (fun _ _ _ h1 h2 h3 => L2.pt_chain L2.op_le L2.op_lt h1 h2 h3))
  | ((with_reducible show AM.CT _ (Expr.BoolOp _ _ _) _ _ _ _); refine AM.CT.w ?_)
  | ((with_reducible show AM.CT _ (Expr.UnaryOp UnaryOp.Not _ _) _ _ _ _); refine AM.CT.not ?_)
  | ((with_reducible show AM.CT _ (Expr.BinOp _ _ _ _) _ _ _ _); refine AM.T.int ?_)
  | refine AM.T.val ?_)
local macro_rules | `(tactic| wtm_at "w") => `(tactic| first
  | ((with_reducible show AM.CW _ (Expr.BoolOp BoolOp.And [_] _) _ _ _ _); refine AM.CW.and1 ?_)
  | ((with_reducible show AM.CW _ (Expr.BoolOp BoolOp.Or [_] _) _ _ _ _); refine AM.CW.or1 ?_)
  | ((with_reducible show AM.CW _ (Expr.BoolOp BoolOp.And _ _) _ _ _ _); refine AM.CW.and ?_)
  | ((with_reducible show AM.CW _ (Expr.BoolOp BoolOp.Or _ _) _ _ _ _); refine AM.CW.or ?_))
local macro_rules | `(tactic| wtm_at "ti") => `(tactic| fail)
local macro_rules | `(tactic| wtm_at "i") => `(tactic| first
  | wtm_at "ti"
  | ((with_reducible show AM.CI _ _ (Expr.Call (Expr.Name (Str.ofString "range") _) [_] _ _) _ _ _ _); refine AM.I.range1 (by wtm_at "nb") ?_)
  | ((with_reducible show AM.CI _ _ (Expr.Call (Expr.Name (Str.ofString "range") _) [_, _] _ _) _ _ _ _); refine AM.I.range2 (by wtm_at "nb") ?_)
  | ((with_reducible show AM.CI _ _ (Expr.Call (Expr.Name (Str.ofString "range") _) [_, _, _] _ _) _ _ _ _); refine AM.CI.range3 (by wtm_at "nb") ?_)
  | ((with_reducible show AM.CI _ _ (Expr.Call (Expr.Name (Str.ofString "enumerate") _) [_] _ _) _ _ _ _); refine AM.I.enum (by wtm_at "nb") ?_)
  | refine AM.I.list ?_)
local macro_rules | `(tactic| wtm_at "st") => `(tactic| first
  | ((with_reducible show AM.CS _ (Stmt.Assign [Expr.Name _ _] (Expr.ListComp _ _ _ _) _) _ _ _); wtm_at "slc")
  | ((with_reducible show AM.CS _ (Stmt.Assign [Expr.Name _ _] _ _) _ _ _); wtm_at "as")
  | ((with_reducible show AM.CS _ (Stmt.Assign [Expr.Tuple _ _ _] _ _) _ _ _); wtm_at "at")
  | ((with_reducible show AM.CS _ (Stmt.Assign [Expr.Attribute _ _ _] _ _) _ _ _); refine AM.S.fld ?_)
  | ((with_reducible show AM.CS _ (Stmt.Assign [Expr.Subscript _ _ _] _ _) _ _ _); refine AM.S.setIx ?_)
  | ((with_reducible show AM.CS _ (Stmt.AugAssign (Expr.Attribute _ _ _) Operator.Add _ _) _ _ _); refine AM.S.fldAdd ?_)
  | ((with_reducible show AM.CS _ (Stmt.Return _ _) _ _ _); first | wtm_at "rz" | refine AM.CS.ret ?_ | refine AM.CS.retN ?_)
  | ((with_reducible show AM.CS _ (Stmt.If _ _ _ _) _ _ _); refine AM.CS.ite ?_)
  | ((with_reducible show AM.CS _ (Stmt.Expr _ _) _ _ _); refine AM.CS.expr ?_)
  | ((with_reducible show AM.CS _ (Stmt.Raise _ _ _) _ _ _); wtm_at "ra")
  | ((with_reducible show AM.CS _ (Stmt.Pass _) _ _ _); refine AM.CS.pass ?_)
  | ((with_reducible show AM.CS _ (Stmt.Try _ _ _ _ _) _ _ _); wtm_at "tr")
  | ((with_reducible show AM.CS _ (Stmt.For _ _ _ _ _) _ _ _); wtm_at "fo"))
local macro_rules | `(tactic| wtm_at "s") => `(tactic| first
  | ((with_reducible show AM.CE _ _ _ _ _ _); wtm_at "e")
  | ((with_reducible show AM.CA _ _ _ _ _ _); first | refine AM.CA.nil ?_ | refine AM.A.star ?_ | refine AM.CA.cons ?_)
  | ((with_reducible show AM.CT _ _ _ _ _ _); wtm_at "t")
  | ((with_reducible show AM.CSs _ _ _ _ _); first | refine AM.CSs.nil ?_ | refine AM.CSs.one ?_ | refine AM.CSs.cons ?_)
  | ((with_reducible show AM.CS _ _ _ _ _); wtm_at "st")
  | ((with_reducible show AM.CW _ _ _ _ _ _); wtm_at "w")
  | ((with_reducible show (if _ then _ else _)); wtm_at "if")
  | ((with_reducible show AM.CO _ _ _ _ _ _); first | refine AM.CO.none ?_ | refine AM.O.some ?_)
  | ((with_reducible show AM.CI _ _ _ _ _ _ _); wtm_at "i")
  | wtm_at "ans"
  | wtm_at "ca"
  | ((with_reducible show (∃ _ _ _, D.loc _ = D.loc _ ∧ _)); refine ⟨_, _, _, rfl, by wtm_at "mu", ?_⟩)
  | ((with_reducible show (∃ _, AM.tgP _ _ _ _ = some _ ∧ _)); refine ⟨_, rfl, ?_⟩)
  | ((with_reducible show (∃ _ _, [_, _] = [_, _] ∧ _)); refine ⟨_, _, rfl, ?_⟩)
  | ((with_reducible show (AM.FldC _ _ _) ∧ _); refine ⟨by wtm_at "fc", ?_⟩)
  | ((with_reducible show _ ∧ _); refine ⟨by wtm_at "ar", ?_⟩))
local macro_rules | `(tactic| wtm_at "sp") => `(tactic| first | (refine AM.ifD (fun hc => ?_) (fun hc => ?_)) | (refine AM.ifN ?_) | (refine AM.ifB (fun hc => ?_) (fun hc => ?_)))
local macro_rules | `(tactic| wtm_at "go") => `(tactic| repeat (wtm_at "s"))
local macro_rules | `(tactic| wtm_at "all") => `(tactic| repeat' (first | wtm_at "s" | wtm_at "sp"))

section
section
variable {P : Program} {w : World} {K : PySem.W.Frag} {mg : Str → Option Value} {base : Heap} (M : Mod K mg) (hP : IwP P)
include M hP
/-- the seven classes -/
def thr (k : Int) (d : D) (E : Addr → Option (List (Str × D)) → Mu → Prop) (m : Mu) : Prop :=
  if k = 0 then E M.A_BadShape none m else if k = 1 then E M.A_BadPattern none m else if k = 2 then E M.A_BadLength none m else if k = 3 then E M.A_BadTime none m else if k = 4 then E M.A_BadLamp none m else if k = 5 then E M.A_NotComparable none m else E M.A_InvalidWord (some [("index", d)]) m
def S__law_thrown : SpD := fun ds m Q E => ∃ (k : Int) (d : D), ds = [.int k, d] ∧ thr M k d E m
section
local macro_rules | `(tactic| wtm_at "nm") => `(tactic| first
  | ((with_reducible show AM.CE _ (Expr.Name (Str.ofString "_law_k") _) _ _ _ _); refine AM.W.nm (i := 0) rfl rfl (by wtm_at "vis") ?_)
  | ((with_reducible show AM.CE _ (Expr.Name (Str.ofString "_law_one") _) _ _ _ _); refine AM.W.nm (i := 1) rfl rfl (by wtm_at "vis") ?_))
local macro_rules | `(tactic| wtm_at "fn") => `(tactic| first
  | ((with_reducible show AM.CE _ (Expr.Call (Expr.Name (Str.ofString "InvalidWord") _) _ _ _) _ _ _ _); refine AM.W.makeX f_InvalidWord hr (by first | decide | omega) ?_)
  | ((with_reducible show AM.CE _ (Expr.Call (Expr.Name (Str.ofString "BadShape") _) _ _ _) _ _ _ _); refine AM.W.makeX f_BadShape hr (by first | decide | omega) ?_)
  | ((with_reducible show AM.CE _ (Expr.Call (Expr.Name (Str.ofString "BadPattern") _) _ _ _) _ _ _ _); refine AM.W.makeX f_BadPattern hr (by first | decide | omega) ?_)
  | ((with_reducible show AM.CE _ (Expr.Call (Expr.Name (Str.ofString "BadLength") _) _ _ _) _ _ _ _); refine AM.W.makeX f_BadLength hr (by first | decide | omega) ?_)
  | ((with_reducible show AM.CE _ (Expr.Call (Expr.Name (Str.ofString "BadTime") _) _ _ _) _ _ _ _); refine AM.W.makeX f_BadTime hr (by first | decide | omega) ?_)
  | ((with_reducible show AM.CE _ (Expr.Call (Expr.Name (Str.ofString "BadLamp") _) _ _ _) _ _ _ _); refine AM.W.makeX f_BadLamp hr (by first | decide | omega) ?_)
  | ((with_reducible show AM.CE _ (Expr.Call (Expr.Name (Str.ofString "NotComparable") _) _ _ _) _ _ _ _); refine AM.W.makeX f_NotComparable hr (by first | decide | omega) ?_))
local macro_rules | `(tactic| wtm_at "ra") => `(tactic| first
  | ((with_reducible show AM.CS _ (Stmt.Raise (some (Expr.Call (Expr.Name (Str.ofString "InvalidWord") _) [_] _ _)) none _) _ _ _); refine AM.CS.raiseIw (AM.iw_c M hP) hr (by first | decide | omega) rfl ?_)
  | ((with_reducible show AM.CS _ (Stmt.Raise (some (Expr.Call (Expr.Name (Str.ofString "BadShape") _) [] _ _)) none _) _ _ _); refine AM.CS.raise M.x_BadShape rfl ?_)
  | ((with_reducible show AM.CS _ (Stmt.Raise (some (Expr.Call (Expr.Name (Str.ofString "BadPattern") _) [] _ _)) none _) _ _ _); refine AM.CS.raise M.x_BadPattern rfl ?_)
  | ((with_reducible show AM.CS _ (Stmt.Raise (some (Expr.Call (Expr.Name (Str.ofString "BadLength") _) [] _ _)) none _) _ _ _); refine AM.CS.raise M.x_BadLength rfl ?_)
  | ((with_reducible show AM.CS _ (Stmt.Raise (some (Expr.Call (Expr.Name (Str.ofString "BadTime") _) [] _ _)) none _) _ _ _); refine AM.CS.raise M.x_BadTime rfl ?_)
  | ((with_reducible show AM.CS _ (Stmt.Raise (some (Expr.Call (Expr.Name (Str.ofString "BadLamp") _) [] _ _)) none _) _ _ _); refine AM.CS.raise M.x_BadLamp rfl ?_)
  | ((with_reducible show AM.CS _ (Stmt.Raise (some (Expr.Call (Expr.Name (Str.ofString "NotComparable") _) [] _ _)) none _) _ _ _); refine AM.CS.raise M.x_NotComparable rfl ?_))
theorem b__law_thrown : FnG P w K mg base "_law_thrown" 3 (S__law_thrown M) :=
  gD M.D__law_thrown sc__law_thrown (fun ds m Q E ⟨_, _, h, _⟩ => by rw [h]; rfl) fun f cdv A outer s0 H E hr ds m Q Ex ⟨k, d, h, q⟩ => by
    subst h
    unfold thr at q
    wtm_at "go"
    refine ifD (fun hc => ?_) (fun n0 => ?_)
    · rw [if_pos hc] at q
      wtm_at "go"
      exact q
    rw [if_neg n0] at q
    wtm_at "go"
    refine ifD (fun hc => ?_) (fun n1 => ?_)
    · rw [if_pos hc] at q
      wtm_at "go"
      exact q
    rw [if_neg n1] at q
    wtm_at "go"
    refine ifD (fun hc => ?_) (fun n2 => ?_)
    · rw [if_pos hc] at q
      wtm_at "go"
      exact q
    rw [if_neg n2] at q
    wtm_at "go"
    refine ifD (fun hc => ?_) (fun n3 => ?_)
    · rw [if_pos hc] at q
      wtm_at "go"
      exact q
    rw [if_neg n3] at q
    wtm_at "go"
    refine ifD (fun hc => ?_) (fun n4 => ?_)
    · rw [if_pos hc] at q
      wtm_at "go"
      exact q
    rw [if_neg n4] at q
    wtm_at "go"
    refine ifD (fun hc => ?_) (fun n5 => ?_)
    · rw [if_pos hc] at q
      wtm_at "go"
      exact q
    rw [if_neg n5] at q
    wtm_at "go"
    exact q
end
end
end
section
section
variable {P : Program} {w : World} {K : PySem.W.Frag} {mg : Str → Option Value} {base : Heap} (M : Mod K mg)
include M
/-- C is the k-th class -/
structure Cl (k : Nat) (C : Addr) : Prop where
  t : XcC K C
  v : PySem.W.kitOne K (.ref C) (.type "ValueError") = some true
  b0 : PySem.W.kitOne K (.ref C) (.ref M.A_BadShape) = some (decide (0 = k))
  b1 : PySem.W.kitOne K (.ref C) (.ref M.A_BadPattern) = some (decide (1 = k))
  b2 : PySem.W.kitOne K (.ref C) (.ref M.A_BadLength) = some (decide (2 = k))
  b3 : PySem.W.kitOne K (.ref C) (.ref M.A_BadTime) = some (decide (3 = k))
  b4 : PySem.W.kitOne K (.ref C) (.ref M.A_BadLamp) = some (decide (4 = k))
  b5 : PySem.W.kitOne K (.ref C) (.ref M.A_NotComparable) = some (decide (5 = k))
  b6 : PySem.W.kitOne K (.ref C) (.ref M.A_InvalidWord) = some (decide (6 = k))
theorem cl0 : Cl M 0 M.A_BadShape := ⟨M.T_BadShape, M.VE_BadShape, M.O_BadShape_BadShape, M.O_BadShape_BadPattern, M.O_BadShape_BadLength, M.O_BadShape_BadTime, M.O_BadShape_BadLamp, M.O_BadShape_NotComparable, M.O_BadShape_InvalidWord⟩
theorem cl1 : Cl M 1 M.A_BadPattern := ⟨M.T_BadPattern, M.VE_BadPattern, M.O_BadPattern_BadShape, M.O_BadPattern_BadPattern, M.O_BadPattern_BadLength, M.O_BadPattern_BadTime, M.O_BadPattern_BadLamp, M.O_BadPattern_NotComparable, M.O_BadPattern_InvalidWord⟩
theorem cl2 : Cl M 2 M.A_BadLength := ⟨M.T_BadLength, M.VE_BadLength, M.O_BadLength_BadShape, M.O_BadLength_BadPattern, M.O_BadLength_BadLength, M.O_BadLength_BadTime, M.O_BadLength_BadLamp, M.O_BadLength_NotComparable, M.O_BadLength_InvalidWord⟩
theorem cl3 : Cl M 3 M.A_BadTime := ⟨M.T_BadTime, M.VE_BadTime, M.O_BadTime_BadShape, M.O_BadTime_BadPattern, M.O_BadTime_BadLength, M.O_BadTime_BadTime, M.O_BadTime_BadLamp, M.O_BadTime_NotComparable, M.O_BadTime_InvalidWord⟩
theorem cl4 : Cl M 4 M.A_BadLamp := ⟨M.T_BadLamp, M.VE_BadLamp, M.O_BadLamp_BadShape, M.O_BadLamp_BadPattern, M.O_BadLamp_BadLength, M.O_BadLamp_BadTime, M.O_BadLamp_BadLamp, M.O_BadLamp_NotComparable, M.O_BadLamp_InvalidWord⟩
theorem cl5 : Cl M 5 M.A_NotComparable := ⟨M.T_NotComparable, M.VE_NotComparable, M.O_NotComparable_BadShape, M.O_NotComparable_BadPattern, M.O_NotComparable_BadLength, M.O_NotComparable_BadTime, M.O_NotComparable_BadLamp, M.O_NotComparable_NotComparable, M.O_NotComparable_InvalidWord⟩
theorem cl6 : Cl M 6 M.A_InvalidWord := ⟨M.T_InvalidWord, M.VE_InvalidWord, M.O_InvalidWord_BadShape, M.O_InvalidWord_BadPattern, M.O_InvalidWord_BadLength, M.O_InvalidWord_BadTime, M.O_InvalidWord_BadLamp, M.O_InvalidWord_NotComparable, M.O_InvalidWord_InvalidWord⟩
omit M in
def clsD (k : Nat) : D := .lst ((List.range 7).map fun j => .bl (decide (j = k)))
def S__law_classes (p : Addr × Obj) : SpD := fun ds m Q _ => ∃ (k : Nat) (C : Addr) (dd : Option Addr) (d : D), ds = [d] ∧ Cl M k C ∧ ExD p dd d ∧ Zc (.ref C) dd p.2 ∧ (∃ vs, p.2.data = .fields vs) ∧ Q (clsD k) m
section
local macro_rules | `(tactic| wtm_at "nm") => `(tactic| first
  | ((with_reducible show AM.CE _ (Expr.Name (Str.ofString "_law_e") _) _ _ _ _); refine AM.W.nm (i := 0) rfl rfl (by wtm_at "vis") ?_)
  | ((with_reducible show AM.CE _ (Expr.Name (Str.ofString "_law_found") _) _ _ _ _); refine AM.W.nm (i := 1) rfl rfl (by wtm_at "vis") ?_))
local macro_rules | `(tactic| wtm_at "io") => `(tactic| first
  | refine AM.aIsO.ins M.i_InvalidWord (.inl rfl) ?_
  | refine AM.aIsO.tup M.i_InvalidWord ?_)
local macro_rules | `(tactic| wtm_at "fn") => `(tactic| first
  | ((with_reducible show AM.CE _ (Expr.Call (Expr.Name (Str.ofString "isinstance") _) [_, Expr.Name (Str.ofString "InvalidWord") _] _ _) _ _ _ _); refine AM.W.isiO M.NB_isinstance M.D_InvalidWord.g ?_)
  | ((with_reducible show AM.CE _ (Expr.Call (Expr.Name (Str.ofString "BadShape") _) _ _ _) _ _ _ _); refine AM.W.makeX f_BadShape hr (by first | decide | omega) ?_)
  | ((with_reducible show AM.CE _ (Expr.Call (Expr.Name (Str.ofString "BadPattern") _) _ _ _) _ _ _ _); refine AM.W.makeX f_BadPattern hr (by first | decide | omega) ?_)
  | ((with_reducible show AM.CE _ (Expr.Call (Expr.Name (Str.ofString "BadLength") _) _ _ _) _ _ _ _); refine AM.W.makeX f_BadLength hr (by first | decide | omega) ?_)
  | ((with_reducible show AM.CE _ (Expr.Call (Expr.Name (Str.ofString "BadTime") _) _ _ _) _ _ _ _); refine AM.W.makeX f_BadTime hr (by first | decide | omega) ?_)
  | ((with_reducible show AM.CE _ (Expr.Call (Expr.Name (Str.ofString "BadLamp") _) _ _ _) _ _ _ _); refine AM.W.makeX f_BadLamp hr (by first | decide | omega) ?_)
  | ((with_reducible show AM.CE _ (Expr.Call (Expr.Name (Str.ofString "NotComparable") _) _ _ _) _ _ _ _); refine AM.W.makeX f_NotComparable hr (by first | decide | omega) ?_)
  | ((with_reducible show AM.CE _ (Expr.Call (Expr.Name (Str.ofString "InvalidWord") _) _ _ _) _ _ _ _); refine AM.W.makeX f_InvalidWord hr (by first | decide | omega) ?_))
local macro_rules | `(tactic| wtm_at "as") => `(tactic| first
  | ((with_reducible show AM.CS _ (Stmt.Assign [Expr.Name (Str.ofString "_law_found") _] _ _) _ _ _); refine AM.CS.set (i := 1) rfl (by wtm_at "loc") ?_ sc__law_classes.nd (.inl rfl)))
local macro_rules | `(tactic| wtm_at "eo") => `(tactic| first
  | ((with_reducible show AM.CE _ (Expr.Compare _ [CmpOp.Eq] _ _) _ _ _ _); refine AM.W.eqH hr ?_)
  | ((with_reducible show AM.CE _ (Expr.Compare _ [CmpOp.NotEq] _ _) _ _ _ _); refine AM.W.neH hr ?_))
local macro_rules | `(tactic| wtm_at "eot") => `(tactic| first
  | ((with_reducible show AM.CT _ (Expr.Compare _ [CmpOp.Eq] _ _) _ _ _ _); refine AM.T.eqH hr ?_)
  | ((with_reducible show AM.CT _ (Expr.Compare _ [CmpOp.NotEq] _ _) _ _ _ _); refine AM.T.neH hr ?_))
local macro_rules | `(tactic| wtm_at "fn") => `(tactic| first
  | ((with_reducible show AM.CE _ (Expr.Call (Expr.Name (Str.ofString "isinstance") _) [_, Expr.Name (Str.ofString "BadShape") _] _ _) _ _ _ _); refine AM.W.isX hxc hh.2 hz hfd k_BadShape M.NB_isinstance M.x_BadShape.g ?_)
  | ((with_reducible show AM.CE _ (Expr.Call (Expr.Name (Str.ofString "isinstance") _) [_, Expr.Name (Str.ofString "BadPattern") _] _ _) _ _ _ _); refine AM.W.isX hxc hh.2 hz hfd k_BadPattern M.NB_isinstance M.x_BadPattern.g ?_)
  | ((with_reducible show AM.CE _ (Expr.Call (Expr.Name (Str.ofString "isinstance") _) [_, Expr.Name (Str.ofString "BadLength") _] _ _) _ _ _ _); refine AM.W.isX hxc hh.2 hz hfd k_BadLength M.NB_isinstance M.x_BadLength.g ?_)
  | ((with_reducible show AM.CE _ (Expr.Call (Expr.Name (Str.ofString "isinstance") _) [_, Expr.Name (Str.ofString "BadTime") _] _ _) _ _ _ _); refine AM.W.isX hxc hh.2 hz hfd k_BadTime M.NB_isinstance M.x_BadTime.g ?_)
  | ((with_reducible show AM.CE _ (Expr.Call (Expr.Name (Str.ofString "isinstance") _) [_, Expr.Name (Str.ofString "BadLamp") _] _ _) _ _ _ _); refine AM.W.isX hxc hh.2 hz hfd k_BadLamp M.NB_isinstance M.x_BadLamp.g ?_)
  | ((with_reducible show AM.CE _ (Expr.Call (Expr.Name (Str.ofString "isinstance") _) [_, Expr.Name (Str.ofString "NotComparable") _] _ _) _ _ _ _); refine AM.W.isX hxc hh.2 hz hfd k_NotComparable M.NB_isinstance M.x_NotComparable.g ?_)
  | ((with_reducible show AM.CE _ (Expr.Call (Expr.Name (Str.ofString "isinstance") _) [_, Expr.Name (Str.ofString "InvalidWord") _] _ _) _ _ _ _); refine AM.W.isX hxc hh.2 hz hfd k_InvalidWord M.NB_isinstance M.IO_InvalidWord.g ?_))
theorem b__law_classes {p : Addr × Obj} : FnPG P w K mg base "_law_classes" 1 p (S__law_classes M p) :=
  gP12 M.D__law_classes sc__law_classes (fun ds m Q E ⟨_, _, _, _, h, _⟩ => by rw [h]; rfl) fun f cdv A outer s0 H E hot hr ds m Q Ex ⟨k, C, dd, d, h, hc, hd, hz, hfd, q⟩ => by
    subst h
    have hh := pctx_hot (P := P) (w := w) (K := K) (mg := mg) (base := base) (N := ["_law_e", "_law_found"]) (qual := "_law_classes") (sc := defScope s__law_classes) (f := f) (cdv := cdv) (A := A) (outer := outer) (s := s0) (H := H) (E := E) hot
    obtain ⟨hxc, _, k_BadShape, k_BadPattern, k_BadLength, k_BadTime, k_BadLamp, k_NotComparable, k_InvalidWord⟩ := hc
    wtm_at "go"
    exact q
end
end
end
section
def eqOk : Nat → D → Bool
  | n + 1, .tup ds => decide (ds.length ≤ 1000) && ds.all (eqOk n)
  | n + 1, .lst ds => decide (ds.length ≤ 100000) && ds.all (eqOk n)
  | _ + 1, .non => true
  | _ + 1, .bl _ => true
  | _ + 1, .int _ => true
  | _ + 1, .str _ => true
  | _, _ => false
theorem rng_map {ds : List D} : ∀ d ∈ rngD 0 1 ds.length, ∃ i : Nat, i < ds.length ∧ d = .int (i : Int) := fun d h => by
  obtain ⟨i, h1, h2⟩ := List.mem_map.mp h
  exact ⟨i, List.mem_range.mp h1, by rw [← h2]; congr 1; omega⟩
theorem all_true {n : Nat} : ((List.replicate n true).all id) = true := by
  rw [List.all_eq_true]; intro x h; exact (List.mem_replicate.mp h).2
theorem hot_in {c : Ctx} {p : Addr × Obj} {s : Shared} {H : Hp} {scope : Scope} {C : Addr} {cl : List (Str × Addr)} {fp : List Addr} {e : Expr} {Δ : Sl} {μ : Mu} {Q : D → Mu → Prop} {Ex : XD} (hh : InHot c p) (h : InHot (c.hot p s H scope C cl fp) p → CE (c.hot p s H scope C cl fp) e Δ μ Q Ex) : CE (c.hot p s H scope C cl fp) e Δ μ Q Ex := h (hh.blk _ _ _ _ _)
section
variable {P : Program} {w : World} {K : PySem.W.Frag} {mg : Str → Option Value} {base : Heap} (M : Mod K mg)
include M
def S__law_equal (n : Nat) : SpD := fun ds m Q _ => ∃ d, ds = [d, d] ∧ eqOk n d = true ∧ Q (.bl true) m
omit M in
theorem S__law_equal.mk {n : Nat} {d : D} {m : Mu} {Q : D → Mu → Prop} {E : Addr → Option (List (Str × D)) → Mu → Prop} (h : eqOk n d = true ∧ Q (.bl true) m) : S__law_equal n [d, d] m Q E := ⟨d, rfl, h⟩
section
local macro_rules | `(tactic| wtm_at "nm") => `(tactic| first
  | ((with_reducible show AM.CE _ (Expr.Name (Str.ofString "_law_actual") _) _ _ _ _); refine AM.W.nm (i := 0) rfl rfl (by wtm_at "vis") ?_)
  | ((with_reducible show AM.CE _ (Expr.Name (Str.ofString "_law_expected") _) _ _ _ _); refine AM.W.nm (i := 1) rfl rfl (by wtm_at "vis") ?_)
  | ((with_reducible show AM.CE _ (Expr.Name (Str.ofString "_law_key") _) _ _ _ _); refine AM.W.nm (i := 2) rfl rfl (by wtm_at "vis") ?_)
  | ((with_reducible show AM.CE _ (Expr.Name (Str.ofString "_law_k") _) _ _ _ _); refine AM.W.nm (i := 3) rfl rfl (by wtm_at "vis") ?_))
local macro_rules | `(tactic| wtm_at "fn") => `(tactic| first
  | ((with_reducible show AM.CE _ (Expr.Call (Expr.Name (Str.ofString "_law_equal") _) _ _ _) _ _ _ _); refine AM.W.callP f__law_equal hh hr (by first | decide | omega) ?_)
  | ((with_reducible show AM.CE _ (Expr.Call (Expr.Name (Str.ofString "int") _) _ _ _) _ _ _ _); refine AM.W.intI M.NB_int ?_)
  | ((with_reducible show AM.CE _ (Expr.Call (Expr.Name (Str.ofString "str") _) _ _ _) _ _ _ _); refine AM.W.strA M.NB_str ?_)
  | ((with_reducible show AM.CE _ (Expr.Call (Expr.Name (Str.ofString "all") _) _ _ _) _ _ _ _); refine AM.W.allH hh M.NB_all ?_)
  | ((with_reducible show AM.CE _ (Expr.Call (Expr.Name (Str.ofString "tuple") _) _ _ _) _ _ _ _); refine AM.W.tupleOf M.NB_tuple ?_)
  | ((with_reducible show AM.CE _ (Expr.Call (Expr.Name (Str.ofString "list") _) _ _ _) _ _ _ _); refine AM.W.listOf M.NB_list ?_)
  | ((with_reducible show AM.CE _ (Expr.Call (Expr.Name (Str.ofString "len") _) _ _ _) _ _ _ _); refine AM.W.len M.NB_len ?_)
  | ((with_reducible show AM.CE _ (Expr.Call (Expr.Name (Str.ofString "isinstance") _) [_, Expr.Name (Str.ofString "int") _] _ _) _ _ _ _); refine AM.W.isi AM.TyS.int M.NB_isinstance M.NB_int ?_)
  | ((with_reducible show AM.CE _ (Expr.Call (Expr.Name (Str.ofString "isinstance") _) [_, Expr.Name (Str.ofString "bool") _] _ _) _ _ _ _); refine AM.W.isi AM.TyS.bool M.NB_isinstance M.NB_bool ?_)
  | ((with_reducible show AM.CE _ (Expr.Call (Expr.Name (Str.ofString "isinstance") _) [_, Expr.Name (Str.ofString "str") _] _ _) _ _ _ _); refine AM.W.isi AM.TyS.str M.NB_isinstance M.NB_str ?_)
  | ((with_reducible show AM.CE _ (Expr.Call (Expr.Name (Str.ofString "isinstance") _) [_, Expr.Name (Str.ofString "tuple") _] _ _) _ _ _ _); refine AM.W.isi AM.TyS.tuple M.NB_isinstance M.NB_tuple ?_)
  | ((with_reducible show AM.CE _ (Expr.Call (Expr.Name (Str.ofString "isinstance") _) [_, Expr.Name (Str.ofString "list") _] _ _) _ _ _ _); refine AM.W.isi AM.TyS.list M.NB_isinstance M.NB_list ?_)
  | ((with_reducible show AM.CE _ (Expr.Call (Expr.Name (Str.ofString "isinstance") _) [_, Expr.Name (Str.ofString "dict") _] _ _) _ _ _ _); refine AM.W.isi AM.TyS.dict M.NB_isinstance M.NB_dict ?_))
local macro_rules | `(tactic| wtm_at "ca") => `(tactic| first
  | ((with_reducible first | show AM.S__law_equal _ _ _ _ | show AM.S__law_equal _ _ _ _ _ | show AM.S__law_equal _ _ _ _ _ _); first | refine AM.S__law_equal.mk ?_ | refine AM.S__law_equal.mk M ?_))
local macro_rules | `(tactic| wtm_at "nb") => `(tactic| first
  | exact M.NB_range)
local macro_rules | `(tactic| wtm_at "lc") => `(tactic| first
  | ((with_reducible show AM.CE _ (Expr.ListComp _ [⟨Expr.Name (Str.ofString "_law_k") _, _, _, 0⟩] _ _) _ _ _ _); refine AM.CE.lc (own := [("_law_k", 3)]) rfl sc__law_equal.nd (L2.blkOk_by (own := [("_law_k", 3)]) (N := ["_law_actual", "_law_expected", "_law_key", "_law_k"]) (sc := defScope s__law_equal) (by decide +kernel)) (AM.CGB.name rfl sc__law_equal.nd (fun _ _ _ _ _ => by wtm_at "loc") (fun _ _ _ _ _ => by first | exact .inr rfl | exact .inl rfl)) ?_)
  | ((with_reducible show AM.CE _ (Expr.ListComp _ [⟨Expr.Name (Str.ofString "_law_key") _, _, _, 0⟩] _ _) _ _ _ _); refine AM.CE.lc (own := [("_law_key", 2)]) rfl sc__law_equal.nd (L2.blkOk_by (own := [("_law_key", 2)]) (N := ["_law_actual", "_law_expected", "_law_key", "_law_k"]) (sc := defScope s__law_equal) (by decide +kernel)) (AM.CGB.name rfl sc__law_equal.nd (fun _ _ _ _ _ => by wtm_at "loc") (fun _ _ _ _ _ => by first | exact .inr rfl | exact .inl rfl)) ?_))
local macro_rules | `(tactic| wtm_at "lcL") => `(tactic| first
  | ((with_reducible show AM.CE _ (Expr.ListComp _ [⟨Expr.Name (Str.ofString "_law_k") _, _, _, 0⟩] _ _) _ _ _ _); refine AM.CE.lcL (own := [("_law_k", 3)]) rfl sc__law_equal.nd (L2.blkOk_by (own := [("_law_k", 3)]) (N := ["_law_actual", "_law_expected", "_law_key", "_law_k"]) (sc := defScope s__law_equal) (by decide +kernel)) (AM.CGB.name rfl sc__law_equal.nd (fun _ _ _ _ _ => by wtm_at "loc") (fun _ _ _ _ _ => by first | exact .inr rfl | exact .inl rfl)) ?_)
  | ((with_reducible show AM.CE _ (Expr.ListComp _ [⟨Expr.Name (Str.ofString "_law_key") _, _, _, 0⟩] _ _) _ _ _ _); refine AM.CE.lcL (own := [("_law_key", 2)]) rfl sc__law_equal.nd (L2.blkOk_by (own := [("_law_key", 2)]) (N := ["_law_actual", "_law_expected", "_law_key", "_law_k"]) (sc := defScope s__law_equal) (by decide +kernel)) (AM.CGB.name rfl sc__law_equal.nd (fun _ _ _ _ _ => by wtm_at "loc") (fun _ _ _ _ _ => by first | exact .inr rfl | exact .inl rfl)) ?_))
local macro_rules | `(tactic| wtm_at "eo") => `(tactic| first
  | ((with_reducible show AM.CE _ (Expr.Compare _ [CmpOp.Eq] _ _) _ _ _ _); refine AM.W.eqH hr ?_)
  | ((with_reducible show AM.CE _ (Expr.Compare _ [CmpOp.NotEq] _ _) _ _ _ _); refine AM.W.neH hr ?_))
local macro_rules | `(tactic| wtm_at "eot") => `(tactic| first
  | ((with_reducible show AM.CT _ (Expr.Compare _ [CmpOp.Eq] _ _) _ _ _ _); refine AM.T.eqH hr ?_)
  | ((with_reducible show AM.CT _ (Expr.Compare _ [CmpOp.NotEq] _ _) _ _ _ _); refine AM.T.neH hr ?_))
local macro_rules | `(tactic| wtm_at "fn") => `(tactic| first
  | ((with_reducible show AM.CE _ (Expr.Call (Expr.Name (Str.ofString "isinstance") _) [_, Expr.Name (Str.ofString "BadShape") _] _ _) _ _ _ _); refine AM.W.isX hxc hh.2 hz hfd k_BadShape M.NB_isinstance M.x_BadShape.g ?_)
  | ((with_reducible show AM.CE _ (Expr.Call (Expr.Name (Str.ofString "isinstance") _) [_, Expr.Name (Str.ofString "BadPattern") _] _ _) _ _ _ _); refine AM.W.isX hxc hh.2 hz hfd k_BadPattern M.NB_isinstance M.x_BadPattern.g ?_)
  | ((with_reducible show AM.CE _ (Expr.Call (Expr.Name (Str.ofString "isinstance") _) [_, Expr.Name (Str.ofString "BadLength") _] _ _) _ _ _ _); refine AM.W.isX hxc hh.2 hz hfd k_BadLength M.NB_isinstance M.x_BadLength.g ?_)
  | ((with_reducible show AM.CE _ (Expr.Call (Expr.Name (Str.ofString "isinstance") _) [_, Expr.Name (Str.ofString "BadTime") _] _ _) _ _ _ _); refine AM.W.isX hxc hh.2 hz hfd k_BadTime M.NB_isinstance M.x_BadTime.g ?_)
  | ((with_reducible show AM.CE _ (Expr.Call (Expr.Name (Str.ofString "isinstance") _) [_, Expr.Name (Str.ofString "BadLamp") _] _ _) _ _ _ _); refine AM.W.isX hxc hh.2 hz hfd k_BadLamp M.NB_isinstance M.x_BadLamp.g ?_)
  | ((with_reducible show AM.CE _ (Expr.Call (Expr.Name (Str.ofString "isinstance") _) [_, Expr.Name (Str.ofString "NotComparable") _] _ _) _ _ _ _); refine AM.W.isX hxc hh.2 hz hfd k_NotComparable M.NB_isinstance M.x_NotComparable.g ?_)
  | ((with_reducible show AM.CE _ (Expr.Call (Expr.Name (Str.ofString "isinstance") _) [_, Expr.Name (Str.ofString "InvalidWord") _] _ _) _ _ _ _); refine AM.W.isX hxc hh.2 hz hfd k_InvalidWord M.NB_isinstance M.IO_InvalidWord.g ?_))
theorem b__law_equal {p : Addr × Obj} : ∀ n, FnPG P w K mg base "_law_equal" (1 + n) p (S__law_equal n) := fun n => by
  induction n with
  | zero => exact gP12 (k := 0) M.D__law_equal sc__law_equal (fun ds m Q E ⟨v, h, h2, _⟩ => by rw [h]; rfl) fun f cdv A outer s0 H E hot hr ds m Q Ex ⟨v, h, h2, q⟩ => by cases v <;> cases h2
  | succ n ih =>
    refine gP12 (k := 1 + n) M.D__law_equal sc__law_equal (fun ds m Q E ⟨v, h, _⟩ => by rw [h]; rfl) fun f cdv A outer s0 H E hot hr ds m Q Ex ⟨v, h, h2, q⟩ => ?_
    subst h
    have f__law_equal := ih
    have hh := pctx_hot (P := P) (w := w) (K := K) (mg := mg) (base := base) (N := ["_law_actual", "_law_expected", "_law_key", "_law_k"]) (qual := "_law_equal") (sc := defScope s__law_equal) (f := f) (cdv := cdv) (A := A) (outer := outer) (s := s0) (H := H) (E := E) hot
    cases v <;> (try (cases h2; done))
    case succ.non => wtm_at "go"; exact q
    case succ.bl =>
      wtm_at "go"
      exact toQb q (by simp)
    case succ.int =>
      wtm_at "go"
      exact toQb q (by simp)
    case succ.str =>
      wtm_at "go"
      exact toQb q (by simp)
    case succ.tup xs _ =>
      unfold eqOk at h2
      rw [Bool.and_eq_true, decide_eq_true_eq, List.all_eq_true] at h2
      wtm_at "go"
      refine W.lcH (n := xs.length) (i := 3) (fun _ => .bl true) hh sc__law_equal.nd rfl M.NB_range (by omega) ?_ (fun j hj acc L hL s2 H2 C cl fp => ?_) ?_ (L2.blkOk_by (own := [("_law_k", 3)]) (N := ["_law_actual", "_law_expected", "_law_key", "_law_k"]) (sc := defScope s__law_equal) (by decide +kernel)) (fun _ _ _ _ _ => by wtm_at "loc") (fun _ _ _ _ _ => by first | exact .inr rfl | exact .inl rfl)
      · wtm_at "go"
        first | rfl | exact ⟨rfl, rfl⟩
      · have hx := h2.2 _ (List.getElem_mem hj)
        refine hot_in hh fun hh => ?_
        wtm_at "go"
        refine aAt.mk (v := xs[j]) (atI_nat (List.getElem?_eq_getElem hj)) ?_
        wtm_at "go"
        refine aAt.mk (v := xs[j]) (atI_nat (List.getElem?_eq_getElem hj)) ?_
        wtm_at "go"
        first | exact ⟨rfl, rfl⟩ | exact rfl
      · refine ⟨List.replicate xs.length true, ?_, toQb q all_true⟩
        rw [List.map_replicate]
        have er : (List.range xs.length).map (fun _ => D.bl true) = List.replicate xs.length (.bl true) := by
          rw [List.eq_replicate_iff]
          refine ⟨by rw [List.length_map, List.length_range], fun b hb => ?_⟩
          obtain ⟨_, _, rfl⟩ := List.mem_map.mp hb
          rfl
        rw [er]
        exact .inl rfl
    case succ.lst xs _ =>
      unfold eqOk at h2
      rw [Bool.and_eq_true, decide_eq_true_eq, List.all_eq_true] at h2
      wtm_at "go"
      refine W.lcH (n := xs.length) (i := 3) (fun _ => .bl true) hh sc__law_equal.nd rfl M.NB_range (by omega) ?_ (fun j hj acc L hL s2 H2 C cl fp => ?_) ?_ (L2.blkOk_by (own := [("_law_k", 3)]) (N := ["_law_actual", "_law_expected", "_law_key", "_law_k"]) (sc := defScope s__law_equal) (by decide +kernel)) (fun _ _ _ _ _ => by wtm_at "loc") (fun _ _ _ _ _ => by first | exact .inr rfl | exact .inl rfl)
      · wtm_at "go"
        first | rfl | exact ⟨rfl, rfl⟩
      · have hx := h2.2 _ (List.getElem_mem hj)
        refine hot_in hh fun hh => ?_
        wtm_at "go"
        refine aAt.mk (v := xs[j]) (atI_nat (List.getElem?_eq_getElem hj)) ?_
        wtm_at "go"
        refine aAt.mk (v := xs[j]) (atI_nat (List.getElem?_eq_getElem hj)) ?_
        wtm_at "go"
        first | exact ⟨rfl, rfl⟩ | exact rfl
      · refine ⟨List.replicate xs.length true, ?_, toQb q all_true⟩
        rw [List.map_replicate]
        have er : (List.range xs.length).map (fun _ => D.bl true) = List.replicate xs.length (.bl true) := by
          rw [List.eq_replicate_iff]
          refine ⟨by rw [List.length_map, List.length_range], fun b hb => ?_⟩
          obtain ⟨_, _, rfl⟩ := List.mem_map.mp hb
          rfl
        rw [er]
        exact .inl rfl
end
end
end
section
def ones : List D := [.str "a", .str "", .int 7, .non, .tup [.int 1], .lst [.int 2]]
theorem ones_ok : ∀ d ∈ ones, eqOk 3 d = true := by
  intro d h
  simp only [ones, List.mem_cons, List.not_mem_nil, or_false] at h
  rcases h with rfl | rfl | rfl | rfl | rfl | rfl <;> rfl
theorem clsD_ok : ∀ k, k < 7 → (clsD k).isPy = true ∧ (clsD k).py.depth ≤ 64 ∧ PyData.eqv (clsD k).py (clsD k).py = true := by decide +kernel
theorem hot_sui {c : Ctx} {a : Addr} {oe : Obj} {pn : List (Addr × Obj)} {C : Value} {d : Option Addr} {su : List Stmt} {Δ : Sl} {μ : Mu} {E : DE} (hz : L2N.Zn C d oe) (hf : ∃ vs, oe.data = .fields vs) (h : InHot (c.sui a ((a, oe) :: pn)) (a, oe) → CSs (c.sui a ((a, oe) :: pn)) su Δ μ E) : CSs (c.sui a ((a, oe) :: pn)) su Δ μ E := h (InHot.sui hz hf)
section
variable {P : Program} {w : World} {K : PySem.W.Frag} {mg : Str → Option Value} {base : Heap} (M : Mod K mg) (hP : IwP P)
include M
theorem thr_of {i : Nat} (hi : i < 7) {d : D} {E : Addr → Option (List (Str × D)) → Mu → Prop} {m : Mu} (h : ∀ (C : Addr) (o : Option (List (Str × D))), Cl M i C → PySem.W.exmOne K (.ref C) (.ref M.A_LightError) = some true → ((i ≠ 6 ∧ o = none) ∨ (i = 6 ∧ C = M.A_InvalidWord ∧ o = some [(Str.ofString "index", d)])) → E C o m) : thr M i d E m := by
  unfold thr
  match i, hi with
  | 0, _ => exact h _ _ (cl0 M) M.X_BadShape_LightError (.inl ⟨by decide, rfl⟩)
  | 1, _ => exact h _ _ (cl1 M) M.X_BadPattern_LightError (.inl ⟨by decide, rfl⟩)
  | 2, _ => exact h _ _ (cl2 M) M.X_BadLength_LightError (.inl ⟨by decide, rfl⟩)
  | 3, _ => exact h _ _ (cl3 M) M.X_BadTime_LightError (.inl ⟨by decide, rfl⟩)
  | 4, _ => exact h _ _ (cl4 M) M.X_BadLamp_LightError (.inl ⟨by decide, rfl⟩)
  | 5, _ => exact h _ _ (cl5 M) M.X_NotComparable_LightError (.inl ⟨by decide, rfl⟩)
  | 6, _ => exact h _ _ (cl6 M) M.X_InvalidWord_LightError (.inr ⟨rfl, rfl, rfl⟩)
include hP
section
local macro_rules | `(tactic| wtm_at "nm") => `(tactic| first
  | ((with_reducible show AM.CE _ (Expr.Name (Str.ofString "_law_script") _) _ _ _ _); refine AM.W.nm (i := 0) rfl rfl (by wtm_at "vis") ?_)
  | ((with_reducible show AM.CE _ (Expr.Name (Str.ofString "_law_d") _) _ _ _ _); refine AM.W.nm (i := 1) rfl rfl (by wtm_at "vis") ?_)
  | ((with_reducible show AM.CE _ (Expr.Name (Str.ofString "_law_k") _) _ _ _ _); refine AM.W.nm (i := 2) rfl rfl (by wtm_at "vis") ?_)
  | ((with_reducible show AM.CE _ (Expr.Name (Str.ofString "_law_one") _) _ _ _ _); refine AM.W.nm (i := 3) rfl rfl (by wtm_at "vis") ?_)
  | ((with_reducible show AM.CE _ (Expr.Name (Str.ofString "_law_good") _) _ _ _ _); refine AM.W.nm (i := 4) rfl rfl (by wtm_at "vis") ?_)
  | ((with_reducible show AM.CE _ (Expr.Name (Str.ofString "_law_e") _) _ _ _ _); refine AM.W.nm (i := 5) rfl rfl (by wtm_at "vis") ?_)
  | ((with_reducible show AM.CE _ (Expr.Name (Str.ofString "_law_other") _) _ _ _ _); refine AM.W.nm (i := 6) rfl rfl (by wtm_at "vis") ?_))
local macro_rules | `(tactic| wtm_at "fn") => `(tactic| first
  | ((with_reducible show AM.CE _ (Expr.Call (Expr.Name (Str.ofString "_law_random") _) _ _ _) _ _ _ _); refine AM.W.call f__law_random hr (by first | decide | omega) ?_)
  | ((with_reducible show AM.CE _ (Expr.Call (Expr.Name (Str.ofString "_law_pick") _) _ _ _) _ _ _ _); refine AM.W.call f__law_pick hr (by first | decide | omega) ?_)
  | ((with_reducible show AM.CE _ (Expr.Call (Expr.Name (Str.ofString "_law_thrown") _) _ _ _) _ _ _ _); refine AM.W.call f__law_thrown hr (by first | decide | omega) ?_)
  | ((with_reducible show AM.CE _ (Expr.Call (Expr.Name (Str.ofString "_law_equal") _) _ _ _) _ _ _ _); refine AM.W.call f__law_equal hr (by first | decide | omega) ?_)
  | ((with_reducible show AM.CE _ (Expr.Call (Expr.Name (Str.ofString "_law_classes") _) _ _ _) _ _ _ _); refine AM.W.call f__law_classes hr (by first | decide | omega) ?_)
  | ((with_reducible show AM.CE _ (Expr.Call (Expr.Name (Str.ofString "LightError") _) _ _ _) _ _ _ _); refine AM.W.makeX f_LightError hr (by first | decide | omega) ?_))
local macro_rules | `(tactic| wtm_at "ca") => `(tactic| first
  | ((with_reducible first | show AM.S__law_random _ _ _ _ | show AM.S__law_random _ _ _ _ _ | show AM.S__law_random _ _ _ _ _ _); first | refine AM.S__law_random.mk ?_ | refine AM.S__law_random.mk M ?_)
  | ((with_reducible first | show AM.S__law_pick _ _ _ _ | show AM.S__law_pick _ _ _ _ _ | show AM.S__law_pick _ _ _ _ _ _); first | refine AM.S__law_pick.mk ?_ | refine AM.S__law_pick.mk M ?_)
  | ((with_reducible first | show AM.S__law_thrown _ _ _ _ | show AM.S__law_thrown _ _ _ _ _ | show AM.S__law_thrown _ _ _ _ _ _); first | refine AM.S__law_thrown.mk ?_ | refine AM.S__law_thrown.mk M ?_)
  | ((with_reducible first | show AM.S__law_equal _ _ _ _ | show AM.S__law_equal _ _ _ _ _ | show AM.S__law_equal _ _ _ _ _ _); first | refine AM.S__law_equal.mk ?_ | refine AM.S__law_equal.mk M ?_)
  | ((with_reducible first | show AM.S__law_classes _ _ _ _ | show AM.S__law_classes _ _ _ _ _ | show AM.S__law_classes _ _ _ _ _ _); first | refine AM.S__law_classes.mk ?_ | refine AM.S__law_classes.mk M ?_))
local macro_rules | `(tactic| wtm_at "as") => `(tactic| first
  | ((with_reducible show AM.CS _ (Stmt.Assign [Expr.Name (Str.ofString "_law_d") _] _ _) _ _ _); refine AM.CS.set (i := 1) rfl (by wtm_at "loc") ?_ sc_law.nd (.inl rfl))
  | ((with_reducible show AM.CS _ (Stmt.Assign [Expr.Name (Str.ofString "_law_one") _] _ _) _ _ _); refine AM.CS.set (i := 3) rfl (by wtm_at "loc") ?_ sc_law.nd (.inl rfl))
  | ((with_reducible show AM.CS _ (Stmt.Assign [Expr.Name (Str.ofString "_law_good") _] _ _) _ _ _); refine AM.CS.set (i := 4) rfl (by wtm_at "loc") ?_ sc_law.nd (.inl rfl)))
local macro_rules | `(tactic| wtm_at "nb") => `(tactic| first
  | exact M.NB_range)
local macro_rules | `(tactic| wtm_at "lc") => `(tactic| first
  | ((with_reducible show AM.CE _ (Expr.ListComp _ [⟨Expr.Name (Str.ofString "_law_other") _, _, _, 0⟩] _ _) _ _ _ _); refine AM.CE.lc (own := [("_law_other", 6)]) rfl sc_law.nd (L2.blkOk_by (own := [("_law_other", 6)]) (N := ["_law_script", "_law_d", "_law_k", "_law_one", "_law_good", "_law_e", "_law_other"]) (sc := defScope s_law) (by decide +kernel)) (AM.CGB.name rfl sc_law.nd (fun _ _ _ _ _ => by wtm_at "loc") (fun _ _ _ _ _ => by first | exact .inr rfl | exact .inl rfl)) ?_))
local macro_rules | `(tactic| wtm_at "lcL") => `(tactic| first
  | ((with_reducible show AM.CE _ (Expr.ListComp _ [⟨Expr.Name (Str.ofString "_law_other") _, _, _, 0⟩] _ _) _ _ _ _); refine AM.CE.lcL (own := [("_law_other", 6)]) rfl sc_law.nd (L2.blkOk_by (own := [("_law_other", 6)]) (N := ["_law_script", "_law_d", "_law_k", "_law_one", "_law_good", "_law_e", "_law_other"]) (sc := defScope s_law) (by decide +kernel)) (AM.CGB.name rfl sc_law.nd (fun _ _ _ _ _ => by wtm_at "loc") (fun _ _ _ _ _ => by first | exact .inr rfl | exact .inl rfl)) ?_))
local macro_rules | `(tactic| wtm_at "fo") => `(tactic| first
  | ((with_reducible show AM.CS _ (Stmt.For (Expr.Name (Str.ofString "_law_k") _) _ _ _ _) _ _ _); refine AM.S.for rfl (AM.CG.name (i := 2) rfl (by wtm_at "loc") sc_law.nd (.inl rfl)) ?_))
theorem ok_law {f : Addr} {fd : FuncData} (F : Fun K "law" "law" s_law f fd) : FnD P w K mg base CX0 60 f fd ["_law_script"] S_law :=
  okN F sc_law (fun ds m Q E ⟨_, h, _⟩ => by rw [h]; rfl) fun cdv A outer s0 H E hr ds m Q Ex ⟨ns, h, hn, hm, q⟩ => by
    subst h; subst hm
    have f__law_random := b__law_random (P := P) (w := w) (base := base) M
    have f__law_pick := b__law_pick (P := P) (w := w) (base := base) M
    have f__law_thrown := b__law_thrown (P := P) (w := w) (base := base) M hP
    wtm_at "go"
    intro a ds0 ha h0
    wtm_at "go"
    refine ForD.inv (fun i Δ' m' => ∃ (ds1 : List D) (x2 x3 x4 x5 x6 : Option D), Δ' = [some (.fz (ns.map .int)), some (.loc a), x2, x3, x4, x5, x6] ∧ m' = mu0.set a (.l ds1) ∧ DrI ds1)
      ⟨_, _, _, _, _, _, rfl, rfl, h0⟩ (fun i d Δ' m' hd2 ⟨ds1, x2, x3, x4, x5, x6, hx, hm, hd⟩ => ?_) (fun Δ' m' ⟨ds1, x2, x3, x4, x5, x6, hx, hm, hd⟩ => ?_)
    · subst hx; subst hm
      have hi := (List.getElem?_eq_some_iff.mp hd2).1
      rw [rngD_len] at hi
      rw [rngD_get hi] at hd2
      have hi7 : i < 7 := hi
      obtain rfl : D.int (i : Int) = d := by
        have z := Option.some.inj hd2
        rw [← z]; congr 1; omega
      refine ⟨_, rfl, ?_⟩
      wtm_at "go"
      intro one ds2 ho h2
      have heq := ones_ok one ho
      clear ho
      wtm_at "go"
      refine CS.tryAs (i := 5) rfl rfl sc_law.nd rfl rfl (names_mk M.G_LightError) (fun W0 pn xe tk po => ?_)
      wtm_at "go"
      refine ⟨_, _, rfl, thr_of M hi7 fun C o hcl hx hco => ⟨true, hx, fun _ => ?_, fun z => nomatch z⟩⟩
      intro ax oe pn2 dd de hxd hz hfd
      refine hot_sui hz hfd fun hh => ?_
      have hde : ExD (ax, oe) dd de := hxd.exd
      wtm_at "go"
      obtain ⟨c1, c2, c3⟩ := clsD_ok i hi7
      refine W.isXT hcl.t hh.2 hz.zc hfd hcl.v M.NB_isinstance M.NB_ValueError (by rfl) ?_
      wtm_at "go"
      refine W.eqH (RoomH.mark (L2H.roomH_of hr)) ?_
      refine W.callP (b__law_classes (P := P) (w := w) (base := base) M) hh (RoomH.mark (L2H.roomH_of hr)) (by decide) ?_
      wtm_at "go"
      refine ⟨i, C, dd, de, rfl, hcl, hde, hz.zc, hfd, ?_⟩
      refine W.lcH (n := 7) (i := 6) (fun j => .bl (decide (j = i))) hh sc_law.nd rfl M.NB_range (by decide) ?_ (fun j hj acc L hL s2 H2 C2 cl fp => ?_) ?_ (L2.blkOk_by (own := [("_law_other", 6)]) (N := ["_law_script", "_law_d", "_law_k", "_law_one", "_law_good", "_law_e", "_law_other"]) (sc := defScope s_law) (by decide +kernel)) (fun _ _ _ _ _ => by wtm_at "loc") (fun _ _ _ _ _ => by first | exact .inr rfl | exact .inl rfl)
      · wtm_at "go"
        rfl
      · refine W.eqH (k := 0) ((RoomH.mark (L2H.roomH_of hr)).mono (Nat.zero_le _)) ?_
        wtm_at "go"
        rfl
      refine aEq.py c1 c1 c2 c2 ?_
      have c4 : PyData.eqv (clsD i).py (D.lst ((List.range 7).map fun j => D.bl (decide (j = i)))).py = true := c3
      rw [c4]
      wtm_at "go"
      refine W.callP (b__law_equal (P := P) (w := w) (base := base) M 3) hh (RoomH.mark (L2H.roomH_of hr)) (by decide) ?_
      refine CA.cons ?_
      refine CE.ifE ?_
      refine T.eqH (RoomH.mark (L2H.roomH_of hr)) ?_
      wtm_at "go"
      rcases hco with ⟨hne, hno⟩ | ⟨he6, rfl, rfl⟩
      · have h6 : ¬ ((i : Int) = 6) := by omega
        subst hno
        refine ifDF h6 ?_
        wtm_at "go"
        refine T.eqH (RoomH.mark (L2H.roomH_of hr)) ?_
        wtm_at "go"
        change CSs _ _ _ _ _
        wtm_at "go"
        exact ⟨_, _, _, _, _, _, rfl, by simp only [Mu.set_set], h2⟩
      · have h6 : (i : Int) = 6 := by omega
        refine ifDT h6 ?_
        cases dd with
        | none => exact nomatch hxd.1
        | some dx =>
          obtain ⟨fs, hfs, rfl⟩ := hxd
          cases hfs
          refine W.xf M.IO_InvalidWord.f M.IR_InvalidWord.fld hz.zc hfd ?_
          wtm_at "go"
          refine ⟨_, one, rfl, rfl, ?_⟩
          wtm_at "go"
          refine T.eqH (RoomH.mark (L2H.roomH_of hr)) ?_
          wtm_at "go"
          change CSs _ _ _ _ _
          wtm_at "go"
          exact ⟨_, _, _, _, _, _, rfl, by simp only [Mu.set_set], h2⟩
    · subst hx; subst hm
      wtm_at "go"
      exact q _
end
end
end
end AM
theorem AM.fin {K : PySem.W.Frag} {h : PySem.Heap} {mg : PySem.Str → Option PySem.Value} {R : Prop} (_ : K.In h) (M : AM.Mod K mg) (f : AM.Mod K mg → R) : R := f M
open PySem PySem.W PyProof.Rows
set_option maxRecDepth 100000 in
set_option maxHeartbeats 0 in
theorem PySem.Challenge.cw_lightchains_k12_errors_apart_holds : PySem.Challenge.rw_lightchains_k12_errors_apart.Holds := by
  refine AM.early fun said => ?_
  w_on; k_head; (case hw => w_witness2)
  k_fill
  refine AM.law_end (l := PySem.Challenge.rw_lightchains_k12_errors_apart) (k := 60) (x := "_law_script") rfl rfl ⟨rfl, by decide, by decide⟩ (fun w h Y => PySem.W.kIn_of Y) ?F
  case F =>
    intro w mg fa h KX G hmg
    refine' AM.fin KX ?zzM (fun M => ?zzR)
    case zzM =>
      refine' { NB_int := ?NB_int, NB_abs := ?NB_abs, NB_len := ?NB_len, NB_isinstance := ?NB_isinstance, NB_bool := ?NB_bool, NB_str := ?NB_str, NB_dict := ?NB_dict, NB_all := ?NB_all, NB_tuple := ?NB_tuple, NB_list := ?NB_list, NB_sorted := ?NB_sorted, NB_range := ?NB_range, NB_ValueError := ?NB_ValueError, A_BadShape := ?A_BadShape, x_BadShape := ?x_BadShape, A_BadPattern := ?A_BadPattern, x_BadPattern := ?x_BadPattern, A_BadLength := ?A_BadLength, x_BadLength := ?x_BadLength, A_BadTime := ?A_BadTime, x_BadTime := ?x_BadTime, A_BadLamp := ?A_BadLamp, x_BadLamp := ?x_BadLamp, A_NotComparable := ?A_NotComparable, x_NotComparable := ?x_NotComparable, A_InvalidWord := ?A_InvalidWord, V_InvalidWord := ?V_InvalidWord, Y_InvalidWord := ?Y_InvalidWord, Z_InvalidWord := ?Z_InvalidWord, NB_super := ?NB_super, IR_InvalidWord := ?IR_InvalidWord, IO_InvalidWord := ?IO_InvalidWord, A_LightError := ?A_LightError, G_LightError := ?G_LightError, X_BadShape_LightError := ?X_BadShape_LightError, T_BadShape := ?T_BadShape, VE_BadShape := ?VE_BadShape, O_BadShape_BadShape := ?O_BadShape_BadShape, O_BadShape_BadPattern := ?O_BadShape_BadPattern, O_BadShape_BadLength := ?O_BadShape_BadLength, O_BadShape_BadTime := ?O_BadShape_BadTime, O_BadShape_BadLamp := ?O_BadShape_BadLamp, O_BadShape_NotComparable := ?O_BadShape_NotComparable, O_BadShape_InvalidWord := ?O_BadShape_InvalidWord, X_BadPattern_LightError := ?X_BadPattern_LightError, T_BadPattern := ?T_BadPattern, VE_BadPattern := ?VE_BadPattern, O_BadPattern_BadShape := ?O_BadPattern_BadShape, O_BadPattern_BadPattern := ?O_BadPattern_BadPattern, O_BadPattern_BadLength := ?O_BadPattern_BadLength, O_BadPattern_BadTime := ?O_BadPattern_BadTime, O_BadPattern_BadLamp := ?O_BadPattern_BadLamp, O_BadPattern_NotComparable := ?O_BadPattern_NotComparable, O_BadPattern_InvalidWord := ?O_BadPattern_InvalidWord, X_BadLength_LightError := ?X_BadLength_LightError, T_BadLength := ?T_BadLength, VE_BadLength := ?VE_BadLength, O_BadLength_BadShape := ?O_BadLength_BadShape, O_BadLength_BadPattern := ?O_BadLength_BadPattern, O_BadLength_BadLength := ?O_BadLength_BadLength, O_BadLength_BadTime := ?O_BadLength_BadTime, O_BadLength_BadLamp := ?O_BadLength_BadLamp, O_BadLength_NotComparable := ?O_BadLength_NotComparable, O_BadLength_InvalidWord := ?O_BadLength_InvalidWord, X_BadTime_LightError := ?X_BadTime_LightError, T_BadTime := ?T_BadTime, VE_BadTime := ?VE_BadTime, O_BadTime_BadShape := ?O_BadTime_BadShape, O_BadTime_BadPattern := ?O_BadTime_BadPattern, O_BadTime_BadLength := ?O_BadTime_BadLength, O_BadTime_BadTime := ?O_BadTime_BadTime, O_BadTime_BadLamp := ?O_BadTime_BadLamp, O_BadTime_NotComparable := ?O_BadTime_NotComparable, O_BadTime_InvalidWord := ?O_BadTime_InvalidWord, X_BadLamp_LightError := ?X_BadLamp_LightError, T_BadLamp := ?T_BadLamp, VE_BadLamp := ?VE_BadLamp, O_BadLamp_BadShape := ?O_BadLamp_BadShape, O_BadLamp_BadPattern := ?O_BadLamp_BadPattern, O_BadLamp_BadLength := ?O_BadLamp_BadLength, O_BadLamp_BadTime := ?O_BadLamp_BadTime, O_BadLamp_BadLamp := ?O_BadLamp_BadLamp, O_BadLamp_NotComparable := ?O_BadLamp_NotComparable, O_BadLamp_InvalidWord := ?O_BadLamp_InvalidWord, X_NotComparable_LightError := ?X_NotComparable_LightError, T_NotComparable := ?T_NotComparable, VE_NotComparable := ?VE_NotComparable, O_NotComparable_BadShape := ?O_NotComparable_BadShape, O_NotComparable_BadPattern := ?O_NotComparable_BadPattern, O_NotComparable_BadLength := ?O_NotComparable_BadLength, O_NotComparable_BadTime := ?O_NotComparable_BadTime, O_NotComparable_BadLamp := ?O_NotComparable_BadLamp, O_NotComparable_NotComparable := ?O_NotComparable_NotComparable, O_NotComparable_InvalidWord := ?O_NotComparable_InvalidWord, X_InvalidWord_LightError := ?X_InvalidWord_LightError, T_InvalidWord := ?T_InvalidWord, VE_InvalidWord := ?VE_InvalidWord, O_InvalidWord_BadShape := ?O_InvalidWord_BadShape, O_InvalidWord_BadPattern := ?O_InvalidWord_BadPattern, O_InvalidWord_BadLength := ?O_InvalidWord_BadLength, O_InvalidWord_BadTime := ?O_InvalidWord_BadTime, O_InvalidWord_BadLamp := ?O_InvalidWord_BadLamp, O_InvalidWord_NotComparable := ?O_InvalidWord_NotComparable, O_InvalidWord_InvalidWord := ?O_InvalidWord_InvalidWord, D__law_random := ?D__law_random, D__law_below := ?D__law_below, D__law_pick := ?D__law_pick, D__law_equal := ?D__law_equal, D__law_thrown := ?D__law_thrown, D__law_classes := ?D__law_classes }
      (case x_BadShape => refine' AM.exc_mk KX G ?zz14g ?zz14q ?zz14k ?zz14b ?zz14t; (case zz14g => k_is); (case zz14q => k_exc); (case zz14k => k_is); (case zz14b => k_is); (case zz14t => k_is))
      (case x_BadPattern => refine' AM.exc_mk KX G ?zz15g ?zz15q ?zz15k ?zz15b ?zz15t; (case zz15g => k_is); (case zz15q => k_exc); (case zz15k => k_is); (case zz15b => k_is); (case zz15t => k_is))
      (case x_BadLength => refine' AM.exc_mk KX G ?zz16g ?zz16q ?zz16k ?zz16b ?zz16t; (case zz16g => k_is); (case zz16q => k_exc); (case zz16k => k_is); (case zz16b => k_is); (case zz16t => k_is))
      (case x_BadTime => refine' AM.exc_mk KX G ?zz17g ?zz17q ?zz17k ?zz17b ?zz17t; (case zz17g => k_is); (case zz17q => k_exc); (case zz17k => k_is); (case zz17b => k_is); (case zz17t => k_is))
      (case x_BadLamp => refine' AM.exc_mk KX G ?zz18g ?zz18q ?zz18k ?zz18b ?zz18t; (case zz18g => k_is); (case zz18q => k_exc); (case zz18k => k_is); (case zz18b => k_is); (case zz18t => k_is))
      (case x_NotComparable => refine' AM.exc_mk KX G ?zz19g ?zz19q ?zz19k ?zz19b ?zz19t; (case zz19g => k_is); (case zz19q => k_exc); (case zz19k => k_is); (case zz19b => k_is); (case zz19t => k_is))
      (case IO_InvalidWord => refine' AM.iwo_mk KX G ?zz20g ?zz20l ?zz20r ?zz20s ?zz20e ?zz20t ?zz20k ?zz20i ?zz20y ?zz20a ?zz20b ?zz20d; (case zz20g => k_is); (case zz20l => k_is); (case zz20r => first | rfl | decide +kernel); (case zz20s => k_is); (case zz20e => k_is); (case zz20t => k_is); (case zz20k => k_is); (case zz20i => k_is); (case zz20y => k_is); (case zz20a => k_is); (case zz20b => k_is); (case zz20d => k_is))
      (case G_LightError => refine' AM.mgE KX G ?zz21g; (case zz21g => k_is))
      (case NB_int => refine' PySem.W.mg_none_of KX G ?zz22z; (case zz22z => k_is))
      (case NB_abs => refine' PySem.W.mg_none_of KX G ?zz23z; (case zz23z => k_is))
      (case NB_len => refine' PySem.W.mg_none_of KX G ?zz24z; (case zz24z => k_is))
      (case NB_isinstance => refine' PySem.W.mg_none_of KX G ?zz25z; (case zz25z => k_is))
      (case NB_bool => refine' PySem.W.mg_none_of KX G ?zz26z; (case zz26z => k_is))
      (case NB_str => refine' PySem.W.mg_none_of KX G ?zz27z; (case zz27z => k_is))
      (case NB_dict => refine' PySem.W.mg_none_of KX G ?zz28z; (case zz28z => k_is))
      (case NB_all => refine' PySem.W.mg_none_of KX G ?zz29z; (case zz29z => k_is))
      (case NB_tuple => refine' PySem.W.mg_none_of KX G ?zz30z; (case zz30z => k_is))
      (case NB_list => refine' PySem.W.mg_none_of KX G ?zz31z; (case zz31z => k_is))
      (case NB_sorted => refine' PySem.W.mg_none_of KX G ?zz32z; (case zz32z => k_is))
      (case NB_range => refine' PySem.W.mg_none_of KX G ?zz33z; (case zz33z => k_is))
      (case NB_ValueError => refine' PySem.W.mg_none_of KX G ?zz34z; (case zz34z => k_is))
      (case NB_super => refine' PySem.W.mg_none_of KX G ?zz35z; (case zz35z => k_is))
      (case IR_InvalidWord => refine' AM.iwr_mk ?zz36l ?zz36c ?zz36o ?zz36f ?zz36e ?zz36s ?zz36p ?zz36u ?zz36v ?zz36x ?zz36d; (case zz36l => k_is); (case zz36c => k_is); (case zz36o => k_is); (case zz36f => exact rfl); (case zz36e => k_is); (case zz36s => k_is); (case zz36p => k_is); (case zz36u => ks_is); (case zz36v => k_is); (case zz36x => kx_is); (case zz36d => k_is))
      (case X_BadShape_LightError => refine' AM.exm_mk ?zz37e ?zz37i ?zz37t ?zz37u; (case zz37e => k_is); (case zz37i => k_is); (case zz37t => k_is); (case zz37u => first | rfl | k_is))
      (case T_BadShape => refine' AM.xcc_mk ?zz38c ?zz38g ?zz38k ?zz38s ?zz38a ?zz38n ?zz38t ?zz38m; (case zz38c => k_is); (case zz38g => k_is); (case zz38k => k_is); (case zz38s => k_is); (case zz38a => k_is); (case zz38n => k_is); (case zz38t => k_is); (case zz38m => k_is))
      (case VE_BadShape => refine' AM.kit_mk ?zz39e; (case zz39e => kit_is))
      (case O_BadShape_BadShape => refine' AM.kit_mk ?zz40e; (case zz40e => kit_is))
      (case O_BadShape_BadPattern => refine' AM.kit_mk ?zz41e; (case zz41e => kit_is))
      (case O_BadShape_BadLength => refine' AM.kit_mk ?zz42e; (case zz42e => kit_is))
      (case O_BadShape_BadTime => refine' AM.kit_mk ?zz43e; (case zz43e => kit_is))
      (case O_BadShape_BadLamp => refine' AM.kit_mk ?zz44e; (case zz44e => kit_is))
      (case O_BadShape_NotComparable => refine' AM.kit_mk ?zz45e; (case zz45e => kit_is))
      (case O_BadShape_InvalidWord => refine' AM.kit_mk ?zz46e; (case zz46e => kit_is))
      (case X_BadPattern_LightError => refine' AM.exm_mk ?zz47e ?zz47i ?zz47t ?zz47u; (case zz47e => k_is); (case zz47i => k_is); (case zz47t => k_is); (case zz47u => first | rfl | k_is))
      (case T_BadPattern => refine' AM.xcc_mk ?zz48c ?zz48g ?zz48k ?zz48s ?zz48a ?zz48n ?zz48t ?zz48m; (case zz48c => k_is); (case zz48g => k_is); (case zz48k => k_is); (case zz48s => k_is); (case zz48a => k_is); (case zz48n => k_is); (case zz48t => k_is); (case zz48m => k_is))
      (case VE_BadPattern => refine' AM.kit_mk ?zz49e; (case zz49e => kit_is))
      (case O_BadPattern_BadShape => refine' AM.kit_mk ?zz50e; (case zz50e => kit_is))
      (case O_BadPattern_BadPattern => refine' AM.kit_mk ?zz51e; (case zz51e => kit_is))
      (case O_BadPattern_BadLength => refine' AM.kit_mk ?zz52e; (case zz52e => kit_is))
      (case O_BadPattern_BadTime => refine' AM.kit_mk ?zz53e; (case zz53e => kit_is))
      (case O_BadPattern_BadLamp => refine' AM.kit_mk ?zz54e; (case zz54e => kit_is))
      (case O_BadPattern_NotComparable => refine' AM.kit_mk ?zz55e; (case zz55e => kit_is))
      (case O_BadPattern_InvalidWord => refine' AM.kit_mk ?zz56e; (case zz56e => kit_is))
      (case X_BadLength_LightError => refine' AM.exm_mk ?zz57e ?zz57i ?zz57t ?zz57u; (case zz57e => k_is); (case zz57i => k_is); (case zz57t => k_is); (case zz57u => first | rfl | k_is))
      (case T_BadLength => refine' AM.xcc_mk ?zz58c ?zz58g ?zz58k ?zz58s ?zz58a ?zz58n ?zz58t ?zz58m; (case zz58c => k_is); (case zz58g => k_is); (case zz58k => k_is); (case zz58s => k_is); (case zz58a => k_is); (case zz58n => k_is); (case zz58t => k_is); (case zz58m => k_is))
      (case VE_BadLength => refine' AM.kit_mk ?zz59e; (case zz59e => kit_is))
      (case O_BadLength_BadShape => refine' AM.kit_mk ?zz60e; (case zz60e => kit_is))
      (case O_BadLength_BadPattern => refine' AM.kit_mk ?zz61e; (case zz61e => kit_is))
      (case O_BadLength_BadLength => refine' AM.kit_mk ?zz62e; (case zz62e => kit_is))
      (case O_BadLength_BadTime => refine' AM.kit_mk ?zz63e; (case zz63e => kit_is))
      (case O_BadLength_BadLamp => refine' AM.kit_mk ?zz64e; (case zz64e => kit_is))
      (case O_BadLength_NotComparable => refine' AM.kit_mk ?zz65e; (case zz65e => kit_is))
      (case O_BadLength_InvalidWord => refine' AM.kit_mk ?zz66e; (case zz66e => kit_is))
      (case X_BadTime_LightError => refine' AM.exm_mk ?zz67e ?zz67i ?zz67t ?zz67u; (case zz67e => k_is); (case zz67i => k_is); (case zz67t => k_is); (case zz67u => first | rfl | k_is))
      (case T_BadTime => refine' AM.xcc_mk ?zz68c ?zz68g ?zz68k ?zz68s ?zz68a ?zz68n ?zz68t ?zz68m; (case zz68c => k_is); (case zz68g => k_is); (case zz68k => k_is); (case zz68s => k_is); (case zz68a => k_is); (case zz68n => k_is); (case zz68t => k_is); (case zz68m => k_is))
      (case VE_BadTime => refine' AM.kit_mk ?zz69e; (case zz69e => kit_is))
      (case O_BadTime_BadShape => refine' AM.kit_mk ?zz70e; (case zz70e => kit_is))
      (case O_BadTime_BadPattern => refine' AM.kit_mk ?zz71e; (case zz71e => kit_is))
      (case O_BadTime_BadLength => refine' AM.kit_mk ?zz72e; (case zz72e => kit_is))
      (case O_BadTime_BadTime => refine' AM.kit_mk ?zz73e; (case zz73e => kit_is))
      (case O_BadTime_BadLamp => refine' AM.kit_mk ?zz74e; (case zz74e => kit_is))
      (case O_BadTime_NotComparable => refine' AM.kit_mk ?zz75e; (case zz75e => kit_is))
      (case O_BadTime_InvalidWord => refine' AM.kit_mk ?zz76e; (case zz76e => kit_is))
      (case X_BadLamp_LightError => refine' AM.exm_mk ?zz77e ?zz77i ?zz77t ?zz77u; (case zz77e => k_is); (case zz77i => k_is); (case zz77t => k_is); (case zz77u => first | rfl | k_is))
      (case T_BadLamp => refine' AM.xcc_mk ?zz78c ?zz78g ?zz78k ?zz78s ?zz78a ?zz78n ?zz78t ?zz78m; (case zz78c => k_is); (case zz78g => k_is); (case zz78k => k_is); (case zz78s => k_is); (case zz78a => k_is); (case zz78n => k_is); (case zz78t => k_is); (case zz78m => k_is))
      (case VE_BadLamp => refine' AM.kit_mk ?zz79e; (case zz79e => kit_is))
      (case O_BadLamp_BadShape => refine' AM.kit_mk ?zz80e; (case zz80e => kit_is))
      (case O_BadLamp_BadPattern => refine' AM.kit_mk ?zz81e; (case zz81e => kit_is))
      (case O_BadLamp_BadLength => refine' AM.kit_mk ?zz82e; (case zz82e => kit_is))
      (case O_BadLamp_BadTime => refine' AM.kit_mk ?zz83e; (case zz83e => kit_is))
      (case O_BadLamp_BadLamp => refine' AM.kit_mk ?zz84e; (case zz84e => kit_is))
      (case O_BadLamp_NotComparable => refine' AM.kit_mk ?zz85e; (case zz85e => kit_is))
      (case O_BadLamp_InvalidWord => refine' AM.kit_mk ?zz86e; (case zz86e => kit_is))
      (case X_NotComparable_LightError => refine' AM.exm_mk ?zz87e ?zz87i ?zz87t ?zz87u; (case zz87e => k_is); (case zz87i => k_is); (case zz87t => k_is); (case zz87u => first | rfl | k_is))
      (case T_NotComparable => refine' AM.xcc_mk ?zz88c ?zz88g ?zz88k ?zz88s ?zz88a ?zz88n ?zz88t ?zz88m; (case zz88c => k_is); (case zz88g => k_is); (case zz88k => k_is); (case zz88s => k_is); (case zz88a => k_is); (case zz88n => k_is); (case zz88t => k_is); (case zz88m => k_is))
      (case VE_NotComparable => refine' AM.kit_mk ?zz89e; (case zz89e => kit_is))
      (case O_NotComparable_BadShape => refine' AM.kit_mk ?zz90e; (case zz90e => kit_is))
      (case O_NotComparable_BadPattern => refine' AM.kit_mk ?zz91e; (case zz91e => kit_is))
      (case O_NotComparable_BadLength => refine' AM.kit_mk ?zz92e; (case zz92e => kit_is))
      (case O_NotComparable_BadTime => refine' AM.kit_mk ?zz93e; (case zz93e => kit_is))
      (case O_NotComparable_BadLamp => refine' AM.kit_mk ?zz94e; (case zz94e => kit_is))
      (case O_NotComparable_NotComparable => refine' AM.kit_mk ?zz95e; (case zz95e => kit_is))
      (case O_NotComparable_InvalidWord => refine' AM.kit_mk ?zz96e; (case zz96e => kit_is))
      (case X_InvalidWord_LightError => refine' AM.exm_mk ?zz97e ?zz97i ?zz97t ?zz97u; (case zz97e => k_is); (case zz97i => k_is); (case zz97t => k_is); (case zz97u => first | rfl | k_is))
      (case T_InvalidWord => refine' AM.xcc_mk ?zz98c ?zz98g ?zz98k ?zz98s ?zz98a ?zz98n ?zz98t ?zz98m; (case zz98c => k_is); (case zz98g => k_is); (case zz98k => k_is); (case zz98s => k_is); (case zz98a => k_is); (case zz98n => k_is); (case zz98t => k_is); (case zz98m => k_is))
      (case VE_InvalidWord => refine' AM.kit_mk ?zz99e; (case zz99e => kit_is))
      (case O_InvalidWord_BadShape => refine' AM.kit_mk ?zz100e; (case zz100e => kit_is))
      (case O_InvalidWord_BadPattern => refine' AM.kit_mk ?zz101e; (case zz101e => kit_is))
      (case O_InvalidWord_BadLength => refine' AM.kit_mk ?zz102e; (case zz102e => kit_is))
      (case O_InvalidWord_BadTime => refine' AM.kit_mk ?zz103e; (case zz103e => kit_is))
      (case O_InvalidWord_BadLamp => refine' AM.kit_mk ?zz104e; (case zz104e => kit_is))
      (case O_InvalidWord_NotComparable => refine' AM.kit_mk ?zz105e; (case zz105e => kit_is))
      (case O_InvalidWord_InvalidWord => refine' AM.kit_mk ?zz106e; (case zz106e => kit_is))
      (case D__law_random => refine' AM.df_mk KX G (fun _ _ _ _ _ _ us hl => match us, hl with | [_, _], _ => rfl) ?zz107a ?zz107l ?zz107c ?zz107k; (case zz107a => k_is); (case zz107l => k_is); (case zz107c => k_is); (case zz107k => k_is))
      (case D__law_below => refine' AM.df_mk KX G (fun _ _ _ _ _ _ us hl => match us, hl with | [_, _], _ => rfl) ?zz108a ?zz108l ?zz108c ?zz108k; (case zz108a => k_is); (case zz108l => k_is); (case zz108c => k_is); (case zz108k => k_is))
      (case D__law_pick => refine' AM.df_mk KX G (fun _ _ _ _ _ _ us hl => match us, hl with | [_, _], _ => rfl) ?zz109a ?zz109l ?zz109c ?zz109k; (case zz109a => k_is); (case zz109l => k_is); (case zz109c => k_is); (case zz109k => k_is))
      (case D__law_equal => refine' AM.df_mk KX G (fun _ _ _ _ _ _ us hl => match us, hl with | [_, _], _ => rfl) ?zz110a ?zz110l ?zz110c ?zz110k; (case zz110a => k_is); (case zz110l => k_is); (case zz110c => k_is); (case zz110k => k_is))
      (case D__law_thrown => refine' AM.df_mk KX G (fun _ _ _ _ _ _ us hl => match us, hl with | [_, _], _ => rfl) ?zz111a ?zz111l ?zz111c ?zz111k; (case zz111a => k_is); (case zz111l => k_is); (case zz111c => k_is); (case zz111k => k_is))
      (case D__law_classes => refine' AM.df_mk KX G (fun _ _ _ _ _ _ us hl => match us, hl with | [_], _ => rfl) ?zz112a ?zz112l ?zz112c ?zz112k; (case zz112a => k_is); (case zz112l => k_is); (case zz112c => k_is); (case zz112k => k_is))
    case zzR =>
     refine' AM.law_mk (st := AM.s_law) KX G hmg (fun _ _ _ _ _ _ u => rfl) (fun base f fd F => AM.ok_law M (by exact ⟨by first | rfl | decide +kernel, by first | rfl | decide +kernel⟩) F) ?zza ?zzl ?zzc ?zzk
     (case zza => k_is); (case zzl => k_is); (case zzc => k_is); (case zzk => k_is)
