import PyProof.Rows.All
import Wide.All
import OpenK.AllK
import Wide.FinOn
import HandS.ForMost
import HandS.Exc
import HandS.ExcOwn
import HandS.ExcInit
import HandS.TryOnly
import HandS.WordsExc
import HandS.CallSlots
import HandS.Wide
import HandS.WideBits
import HandS.Gcd
import HandS.IsInst
import HandS.Style
import HandS.TupAny
import HandS.Zip
import HandS.Rev
import HandS.TupMul
import KE.KMathG
import PyProof.ReprBulk
import PyProof.ReprRoads
import HandS.Defaults
import HandS.Head0
import HandS.Head1
import HandS.Head2
import HandS.HeadEnd
import HandS.HeadHook1
import HandS.HeadHook2
import HandS.ExcIs
import KE.KRevSl
import KE.GoesEnum
import HandS.Star
import HandS.IterVal
import HandS.Head3
import HandS.ExcBuiltin
import PySem.Challenge.RW_ironships_k28_whole_a_heading_among_thos
import Flt.RightSqrt
set_option Elab.async false
set_option linter.all false
set_option maxRecDepth 100000
set_option synthInstance.maxSize 100000
set_option synthInstance.maxHeartbeats 2000000
set_option maxHeartbeats 4000000
namespace PV
open PySem PySem.Spec PyProof.Rows L2

/-! ### data: values whose objects never change any more -/
inductive D where
  | non | bl (b : Bool) | int (i : Int) | str (x : Str) | lst (xs : List D) | tup (xs : List D) | dic (ks : List Key) (vs : List D) | fz (ns : List Int) | ins (C : Str) (ns : List Str) (vs : List D)

section
variable (m : Addr → Prop) (K : PySem.W.Frag) (g : Str → Option Value) (H : Hp)
/-- a list, a tuple that is not in m -/
def RL (a : Addr) (xs : List V) : Prop := ¬ m a ∧ H a = some (.lst xs)
/-- the script -/
def RF (a : Addr) (xs : List V) : Prop := (¬ m a ∧ ∃ o, H a = some (.frz o (.lst xs))) ∨
  ∃ (o : Obj) (its : Array Value) (n : Nat), K.lookup a = some o ∧ o.cls = .type "list" ∧ o.dict = none ∧ o.data = .seq its n ∧ its.size ≤ sizeLine ∧ Vals xs its.toList
def RT (a : Addr) (xs : List V) : Prop := (¬ m a ∧ H a = some (.tup xs)) ∨
  ∃ (o : Obj) (its : Array Value) (n : Nat), K.lookup a = some o ∧ o.cls = .type "tuple" ∧ o.data = .seq its n ∧ its.size ≤ sizeLine ∧ Vals xs its.toList
mutual
inductive Rp : V → D → Prop
  | non : Rp .non .non
  | bl (b : Bool) : Rp (.bl b) (.bl b)
  | int (i : Int) : Rp (.int i) (.int i)
  | str (x : Str) : Rp (.str x) (.str x)
  | lst {a : Addr} {xs : List V} {ds : List D} : RL m H a xs → RpA xs ds → Rp (.ref a) (.lst ds)
  | fz {a : Addr} {ns : List Int} : RF m K H a (ns.map V.int) → Rp (.ref a) (.fz ns)
  | tup {a : Addr} {xs : List V} {ds : List D} : RT m K H a xs → RpA xs ds → Rp (.ref a) (.tup ds)
  | dic {a : Addr} {kvs : List (Key × V)} {ds : List D} : ¬ m a → H a = some (.dK kvs) → RpA (kvs.map (·.2)) ds → Rp (.ref a) (.dic (kvs.map (·.1)) ds)
  | ins {a C dx : Addr} {c : Str} {fs : List (Str × V)} {ds : List D} : ¬ m a → H a = some (.ins C dx fs) → g c = some (.ref C) → RpA (fs.map (·.2)) ds → Rp (.ref a) (.ins c (fs.map (·.1)) ds)
inductive RpA : List V → List D → Prop
  | nil : RpA [] []
  | cons {v : V} {vs : List V} {d : D} {ds : List D} : Rp v d → RpA vs ds → RpA (v :: vs) (d :: ds)
end
end

section
variable {m m' : Addr → Prop} {K : PySem.W.Frag} {g : Str → Option Value} {H H' : Hp} {a : Addr} {xs : List V} {ds : List D} {v : V} {d : D}
/-- m' has less, or new places -/
def Sub' (m' m : Addr → Prop) (H : Hp) : Prop := ∀ a, m' a → m a ∨ H a = none
/-- all that is not in m stands -/
def Kp (m : Addr → Prop) (H H' : Hp) : Prop := ∀ a o, ¬ m a → H a = some o → H' a = some o
theorem Kp.refl : Kp m H H := fun _ _ _ e => e
theorem Sub'.refl : Sub' m m H := fun _ h => .inl h
theorem RL.mono (h : RL m H a xs) (s : Sub' m' m H) (k : Kp m H H') : RL m' H' a xs := by
  obtain ⟨n, h⟩ := h
  refine ⟨fun z => ?_, k a _ n h⟩
  rcases s a z with y | y
  · exact n y
  · rw [y] at h; cases h
theorem RF.mono (h : RF m K H a xs) (s : Sub' m' m H) (k : Kp m H H') : RF m' K H' a xs := by
  rcases h with ⟨n, o, h⟩ | h
  · refine .inl ⟨fun z => ?_, o, k a _ n h⟩
    rcases s a z with y | y
    · exact n y
    · rw [y] at h; cases h
  · exact .inr h
theorem RT.mono (h : RT m K H a xs) (s : Sub' m' m H) (k : Kp m H H') : RT m' K H' a xs := by
  rcases h with ⟨n, h⟩ | h
  · refine .inl ⟨fun z => ?_, k a _ n h⟩
    rcases s a z with y | y
    · exact n y
    · rw [y] at h; cases h
  · exact .inr h
mutual
theorem Rp.mono (s : Sub' m' m H) (k : Kp m H H') : ∀ (d : D) (v : V), Rp m K g H v d → Rp m' K g H' v d
  | .non, _, h => by cases h; exact .non
  | .bl b, _, h => by cases h; exact .bl b
  | .int i, _, h => by cases h; exact .int i
  | .str x, _, h => by cases h; exact .str x
  | .lst ds, _, h => by
    cases h with
    | lst h1 h2 => exact .lst (h1.mono s k) (RpA.mono s k ds _ h2)
  | .fz ns, _, h => by
    cases h with
    | fz h1 => exact .fz (h1.mono s k)
  | .tup ds, _, h => by
    cases h with
    | tup h1 h2 => exact .tup (h1.mono s k) (RpA.mono s k ds _ h2)
  | .dic ks ds, _, h => by
    cases h with
    | @dic a kvs _ h1 h2 h3 =>
      exact .dic (fun z => (s a z).elim h1 fun y => by rw [y] at h2; cases h2) (k a _ h1 h2) (RpA.mono s k ds _ h3)
  | .ins c ns ds, _, h => by
    cases h with
    | @ins a C dx _ fs _ h1 h2 h3 h4 =>
      exact .ins (fun z => (s a z).elim h1 fun y => by rw [y] at h2; cases h2) (k a _ h1 h2) h3 (RpA.mono s k ds _ h4)
theorem RpA.mono (s : Sub' m' m H) (k : Kp m H H') : ∀ (ds : List D) (vs : List V), RpA m K g H vs ds → RpA m' K g H' vs ds
  | [], _, h => by cases h; exact .nil
  | d :: ds, _, h => by
    cases h with
    | cons h1 h2 => exact .cons (Rp.mono s k d _ h1) (RpA.mono s k ds _ h2)
end
theorem RL.sq (h : RL m H a xs) : SqL K H a xs := .inl (.inl h.2)
theorem RF.sq (h : RF m K H a xs) : SqL K H a xs := by
  rcases h with ⟨_, h⟩ | h
  · exact .inl (.inr h)
  · exact .inr h
theorem RT.sq (h : RT m K H a xs) : SqT K H a xs := by
  rcases h with ⟨_, h⟩ | h
  · exact .inl (.inl h)
  · exact .inr h
theorem RpA.length : ∀ {ds : List D} {vs : List V}, RpA m K g H vs ds → vs.length = ds.length
  | [], _, h => by cases h; rfl
  | d :: ds, _, h => by
    cases h with
    | cons h1 h2 => rw [List.length_cons, List.length_cons, h2.length]
theorem RpA.get : ∀ {ds : List D} {vs : List V} {i : Nat} {d : D}, RpA m K g H vs ds → ds[i]? = some d → ∃ v, vs[i]? = some v ∧ Rp m K g H v d
  | [], _, _, _, h, e => by simp at e
  | _ :: _, _, 0, _, .cons r _, e => by simp at e; subst e; exact ⟨_, rfl, r⟩
  | _ :: _, _, i + 1, d, .cons _ t, e => by
    obtain ⟨v, h1, h2⟩ := RpA.get (i := i) (d := d) t (by simpa using e)
    exact ⟨v, by simpa using h1, h2⟩
theorem RpA.append : ∀ {ds es : List D} {vs ws : List V}, RpA m K g H vs ds → RpA m K g H ws es → RpA m K g H (vs ++ ws) (ds ++ es)
  | _, _, _, _, .nil, h => h
  | _, _, _, _, .cons r t, h => .cons r (RpA.append t h)
theorem RpA.take : ∀ {ds : List D} {vs : List V} (n : Nat), RpA m K g H vs ds → RpA m K g H (vs.take n) (ds.take n)
  | _, _, 0, _ => .nil
  | _, _, _ + 1, .nil => .nil
  | _, _, n + 1, .cons r t => .cons r (RpA.take n t)
theorem RpA.drop : ∀ {ds : List D} {vs : List V} (n : Nat), RpA m K g H vs ds → RpA m K g H (vs.drop n) (ds.drop n)
  | _, _, 0, r => r
  | _, _, _ + 1, .nil => .nil
  | _, _, n + 1, .cons _ t => RpA.drop n t
theorem RpA.set : ∀ {ds : List D} {vs : List V} {v : V} {d : D} (i : Nat), RpA m K g H vs ds → Rp m K g H v d → RpA m K g H (vs.set i v) (ds.set i d)
  | _, _, _, _, _, .nil, _ => .nil
  | _, _, _, _, 0, .cons _ t, r => .cons r t
  | _, _, _, _, i + 1, .cons q t, r => .cons q (RpA.set i t r)
theorem RpA.reverse : ∀ {ds : List D} {vs : List V}, RpA m K g H vs ds → RpA m K g H vs.reverse ds.reverse
  | _, _, .nil => .nil
  | _, _, .cons r t => by
    rw [List.reverse_cons, List.reverse_cons]
    exact (RpA.reverse t).append (.cons r .nil)
theorem RpA.flat {ds : List D} {vs : List V} (h : RpA m K g H vs ds) : ∀ k : Nat, RpA m K g H (List.replicate k vs).flatten (List.replicate k ds).flatten
  | 0 => .nil
  | k + 1 => by
    rw [List.replicate_succ, List.replicate_succ, List.flatten_cons, List.flatten_cons]
    exact h.append (RpA.flat h k)
/-- the value of a datum is told by it where it is flat -/
theorem Rp.int_inv {i : Int} (h : Rp m K g H v (.int i)) : v = .int i := by cases h; rfl
theorem Rp.bl_inv {b : Bool} (h : Rp m K g H v (.bl b)) : v = .bl b := by cases h; rfl
theorem Rp.str_inv {x : Str} (h : Rp m K g H v (.str x)) : v = .str x := by cases h; rfl
theorem Rp.non_inv (h : Rp m K g H v .non) : v = .non := by cases h; rfl
theorem RpA.ints : ∀ {ns : List Int} {vs : List V}, RpA m K g H vs (ns.map D.int) → vs = ns.map V.int
  | [], _, h => by cases h; rfl
  | n :: ns, _, h => by
    cases h with
    | cons h1 h2 => rw [h1.int_inv, h2.ints]; rfl
theorem RpA.bls : ∀ {ns : List Bool} {vs : List V}, RpA m K g H vs (ns.map D.bl) → vs = ns.map V.bl
  | [], _, h => by cases h; rfl
  | n :: ns, _, h => by
    cases h with
    | cons h1 h2 => rw [h1.bl_inv, h2.bls]; rfl
theorem RpA.of_ints : ∀ (ns : List Int), RpA m K g H (ns.map V.int) (ns.map D.int)
  | [] => .nil
  | n :: ns => .cons (.int n) (RpA.of_ints ns)
end

/-! ### slots, environments -/
inductive Sl where
  | no | val (d : D) | own (ds : List D)
abbrev En := List Sl
def Own (σ : L2.St) (ρ : En) (a : Addr) : Prop := ∃ (i : Nat) (ds : List D), ρ[i]? = some (Sl.own ds) ∧ σ[i]? = some (some (V.ref a))
def mm (m₀ : Addr → Prop) (σ : L2.St) (ρ : En) (a : Addr) : Prop := m₀ a ∨ Own σ ρ a
structure Rel (m₀ : Addr → Prop) (K : PySem.W.Frag) (g : Str → Option Value) (H : Hp) (σ : L2.St) (ρ : En) : Prop where
  len : σ.length = ρ.length
  dom : ∀ a, m₀ a → H a ≠ none
  val : ∀ (i : Nat) (d : D), ρ[i]? = some (Sl.val d) → ∃ v, σ[i]? = some (some v) ∧ Rp (mm m₀ σ ρ) K g H v d
  own : ∀ (i : Nat) (ds : List D), ρ[i]? = some (Sl.own ds) → ∃ (p : Addr) (vs : List V), σ[i]? = some (some (.ref p)) ∧ ¬ m₀ p ∧ H p = some (.lst vs) ∧ RpA (mm m₀ σ ρ) K g H vs ds
  inj : ∀ (i j : Nat) (ds es : List D) (p : Addr), ρ[i]? = some (.own ds) → ρ[j]? = some (.own es) → σ[i]? = some (some (.ref p)) → σ[j]? = some (some (.ref p)) → i = j
/-- from one state to a later one -/
structure Stp (σ : L2.St) (ρ : En) (H : Hp) (σ' : L2.St) (ρ' : En) (H' : Hp) : Prop where
  keep : Kp (Own σ ρ) H H'
  grow : ∀ a, H a ≠ none → H' a ≠ none
  own : Sub' (Own σ' ρ') (Own σ ρ) H
section
variable {m₀ : Addr → Prop} {K : PySem.W.Frag} {g : Str → Option Value} {H H' H1 H2 : Hp} {σ σ' σ1 σ2 : L2.St} {ρ ρ' ρ1 ρ2 : En} {v : V} {d : D}
theorem Stp.refl : Stp σ ρ H σ ρ H := ⟨fun _ _ _ e => e, fun _ h => h, fun _ h => .inl h⟩
theorem Stp.trans (a : Stp σ ρ H σ1 ρ1 H1) (b : Stp σ1 ρ1 H1 σ2 ρ2 H2) : Stp σ ρ H σ2 ρ2 H2 := by
  refine ⟨fun p o n e => ?_, fun p n => b.grow p (a.grow p n), fun p h => ?_⟩
  · refine b.keep p o (fun z => ?_) (a.keep p o n e)
    rcases a.own p z with y | y
    · exact n y
    · rw [y] at e; cases e
  · rcases b.own p h with y | y
    · exact a.own p y
    · cases q : H p with
      | none => exact .inr rfl
      | some o => exact absurd y (a.grow p (by rw [q]; simp))
/-- a datum behind a step -/
theorem Stp.rp (s : Stp σ ρ H σ' ρ' H') (r : Rel m₀ K g H σ ρ) (h : Rp (mm m₀ σ ρ) K g H v d) : Rp (mm m₀ σ' ρ') K g H' v d := by
  refine Rp.mono (fun a z => ?_) (fun a o n e => s.keep a o (fun y => n (.inr y)) e) d v h
  rcases z with z | z
  · exact .inl (.inl z)
  · rcases s.own a z with y | y
    · exact .inl (.inr y)
    · exact .inr y
theorem Stp.rpA {vs : List V} {ds : List D} (s : Stp σ ρ H σ' ρ' H') (r : Rel m₀ K g H σ ρ) (h : RpA (mm m₀ σ ρ) K g H vs ds) : RpA (mm m₀ σ' ρ') K g H' vs ds := by
  refine RpA.mono (fun a z => ?_) (fun a o n e => s.keep a o (fun y => n (.inr y)) e) ds vs h
  rcases z with z | z
  · exact .inl (.inl z)
  · rcases s.own a z with y | y
    · exact .inl (.inr y)
    · exact .inr y
/-- the heap has grown: all stands -/
theorem Rel.grown (r : Rel m₀ K g H σ ρ) (k : ∀ a o, H a = some o → H' a = some o) : Rel m₀ K g H' σ ρ := by
  have kp : Kp (mm m₀ σ ρ) H H' := fun a o _ e => k a o e
  refine ⟨r.len, fun a z => ?_, fun i d e => ?_, fun i ds e => ?_, r.inj⟩
  · cases q : H a with
    | none => exact absurd q (r.dom a z)
    | some o => rw [k a o q]; simp
  · obtain ⟨v, h1, h2⟩ := r.val i d e
    exact ⟨v, h1, Rp.mono Sub'.refl kp _ _ h2⟩
  · obtain ⟨p, vs, h1, h2, h3, h4⟩ := r.own i ds e
    exact ⟨p, vs, h1, h2, k _ _ h3, RpA.mono Sub'.refl kp _ _ h4⟩
theorem Stp.grown (k : ∀ a o, H a = some o → H' a = some o) : Stp σ ρ H σ ρ H' := ⟨fun a o _ e => k a o e, fun a n => by
  cases q : H a with
  | none => exact absurd q n
  | some o => rw [k a o q]; simp, fun _ z => .inl z⟩
theorem keep_new {p : Addr} {o : HO} (h : H p = none) : ∀ a u, H a = some u → upd H p o a = some u := fun a u e => by
  rw [upd_ne (ne_of_none e h)]
  exact e
/-- a new object is in no m -/
theorem Rel.new_out (r : Rel m₀ K g H σ ρ) {p : Addr} (h : H p = none) : ¬ mm m₀ σ ρ p := by
  rintro (z | ⟨i, ds, e1, e2⟩)
  · exact r.dom p z h
  · obtain ⟨q, vs, h1, _, h3, _⟩ := r.own i ds e1
    rw [e2] at h1; cases h1
    rw [h] at h3; cases h3
end

/-! ### results -/
/-- an exception: the name of its class, its one attribute -/
structure Exn where
  cls : Str
  given : Option (Str × D)
inductive R (α : Type) where
  | no | er (x : Exn) (ρ : En) | ok (a : α) (ρ : En)
abbrev M (α : Type) := En → R α
def M.ret {α : Type} (a : α) : M α := fun ρ => .ok a ρ
def R.andThen {α β : Type} (r : R α) (f : α → M β) : R β := match r with
  | .no => .no
  | .er x ρ => .er x ρ
  | .ok a ρ => f a ρ
def M.bind {α β : Type} (x : M α) (f : α → M β) : M β := fun ρ => (x ρ).andThen f
/-- a value that may not be there -/
def lift {α : Type} (o : Option α) : M α := fun ρ => match o with
  | none => .no
  | some a => .ok a ρ
theorem bind_ok {α β : Type} {x : M α} {f : α → M β} {ρ ρ1 : En} {a : α} (h : x ρ = .ok a ρ1) : M.bind x f ρ = f a ρ1 := by
  unfold M.bind R.andThen; rw [h]
@[simp] theorem ok_andThen {α β : Type} {f : α → M β} {ρ : En} {a : α} : (R.ok a ρ).andThen f = f a ρ := rfl
@[simp] theorem er_andThen {α β : Type} {f : α → M β} {ρ : En} {x : Exn} : (R.er x ρ : R α).andThen f = .er x ρ := rfl
@[simp] theorem no_andThen {α β : Type} {f : α → M β} : (R.no : R α).andThen f = .no := rfl

/-- an exception's object: its class, its dict -/
def ExR (m : Addr → Prop) (K : PySem.W.Frag) (g : Str → Option Value) (H : Hp) (c : Value) (d : Option Addr) (x : Exn) : Prop :=
  (∃ C, g x.cls = some (.ref C) ∧ c = .ref C) ∧ match x.given with
    | none => d = none
    | some (f, y) => ∃ dx v, d = some dx ∧ H dx = some (.xd [(f, v)]) ∧ Rp m K g H v y
/-- the slots at fx hold what they held -/
def Fx (fx : List Nat) (σ σ' : L2.St) : Prop := ∀ i ∈ fx, σ'[i]? = σ[i]?
theorem Fx.refl {fx : List Nat} {σ : L2.St} : Fx fx σ σ := fun _ _ => rfl
theorem Fx.trans {fx : List Nat} {σ σ1 σ2 : L2.St} (a : Fx fx σ σ1) (b : Fx fx σ1 σ2) : Fx fx σ σ2 := fun i h => (b i h).trans (a i h)
/-- the written part, the module's names, what is wanted of exceptions, the slots that are never stored -/
structure Ct where
  K : PySem.W.Frag
  g : Str → Option Value
  W : WX
  fx : List Nat
/-- what is wanted of a result: S where it is there, W where it raises -/
def Want {α : Type} (c : Ct) (m₀ : Addr → Prop) (σ : L2.St) (ρ : En) (H : Hp) (S : α → En → Prop) : R α → Prop
  | .no => False
  | .er x ρ' => ∀ cl d σ' H', Rel m₀ c.K c.g H' σ' ρ' → Stp σ ρ H σ' ρ' H' → Fx c.fx σ σ' → ExR (mm m₀ σ' ρ') c.K c.g H' cl d x → c.W cl d σ' H'
  | .ok a ρ' => S a ρ'
theorem Want.bind {α β : Type} {c : Ct} {m₀ : Addr → Prop} {σ : L2.St} {ρ : En} {H : Hp} {S : β → En → Prop} {x : M α} {f : α → M β}
    (h : Want c m₀ σ ρ H S (M.bind x f ρ)) : Want c m₀ σ ρ H (fun a ρ1 => Want c m₀ σ ρ H S (f a ρ1)) (x ρ) := by
  unfold M.bind at h
  cases q : x ρ with
  | no => rw [q] at h; exact h
  | er y ρ' => rw [q] at h; exact h
  | ok a ρ' => rw [q] at h; exact h
theorem Want.mono {α : Type} {c : Ct} {m₀ : Addr → Prop} {σ : L2.St} {ρ : En} {H : Hp} {S S' : α → En → Prop} {r : R α}
    (h : Want c m₀ σ ρ H S r) (hs : ∀ a ρ', r = .ok a ρ' → S a ρ' → S' a ρ') : Want c m₀ σ ρ H S' r := by
  cases r with
  | no => exact h
  | er y ρ' => exact h
  | ok a ρ' => exact hs a ρ' rfl h
/-- the wish stands behind a step -/
theorem Want.later {α : Type} {c : Ct} {m₀ : Addr → Prop} {σ σ1 : L2.St} {ρ ρ1 : En} {H H1 : Hp} {S : α → En → Prop} {r : R α}
    (h : Want c m₀ σ ρ H S r) (s : Stp σ ρ H σ1 ρ1 H1) (f : Fx c.fx σ σ1) : Want c m₀ σ1 ρ1 H1 S r := by
  cases r with
  | no => exact h
  | er y ρ' => exact fun cl d σ' H' r' s' f' e => h cl d σ' H' r' (s.trans s') (f.trans f') e
  | ok a ρ' => exact h
theorem Want.lift {α : Type} {c : Ct} {m₀ : Addr → Prop} {σ : L2.St} {ρ : En} {H : Hp} {S : α → En → Prop} {o : Option α} (h : Want c m₀ σ ρ H S (lift o ρ)) : ∃ a, o = some a ∧ S a ρ := by
  unfold PV.lift at h
  cases o with
  | none => exact h.elim
  | some a => exact ⟨a, rfl, h⟩

/-- p besides -/
abbrev mp (m₀ : Addr → Prop) (p : Addr) : Addr → Prop := fun a => m₀ a ∨ a = p
/-! ### readings of mirrors -/
section
variable (c : Ct)
/-- an expression's -/
def tE (f : M D) : TE := fun σ H Q => ∃ m₀ ρ, Rel m₀ c.K c.g H σ ρ ∧ Want c m₀ σ ρ H (fun d ρ' => ∀ v H', Rel m₀ c.K c.g H' σ ρ' → Rp (mm m₀ σ ρ') c.K c.g H' v d → Stp σ ρ H σ ρ' H' → Q v H') (f ρ)
/-- a test's -/
def tT (f : M Bool) : TT := fun σ H Q => ∃ m₀ ρ, Rel m₀ c.K c.g H σ ρ ∧ Want c m₀ σ ρ H (fun b ρ' => ∀ H', Rel m₀ c.K c.g H' σ ρ' → Stp σ ρ H σ ρ' H' → Q b H') (f ρ)
/-- a new list's -/
def tN (f : M (List D)) : TE := fun σ H Q => ∃ m₀ ρ, Rel m₀ c.K c.g H σ ρ ∧ Want c m₀ σ ρ H (fun ds ρ' => ∀ p vs H', Rel (mp m₀ p) c.K c.g H' σ ρ' → H p = none → H' p = some (.lst vs) → RpA (mm (mp m₀ p) σ ρ') c.K c.g H' vs ds → Stp σ ρ H σ ρ' H' → Q (.ref p) H') (f ρ)
/-- several expressions' -/
def tL (f : M (List D)) : TA := fun σ H Q => ∃ m₀ ρ, Rel m₀ c.K c.g H σ ρ ∧ Want c m₀ σ ρ H (fun ds ρ' => ∀ vs H', Rel m₀ c.K c.g H' σ ρ' → RpA (mm m₀ σ ρ') c.K c.g H' vs ds → Stp σ ρ H σ ρ' H' → Q vs H') (f ρ)
/-- a part of a slice -/
def tO (f : M (Option Int)) : TO := fun σ H Q => ∃ m₀ ρ, Rel m₀ c.K c.g H σ ρ ∧ Want c m₀ σ ρ H (fun o ρ' => ∀ H', Rel m₀ c.K c.g H' σ ρ' → Stp σ ρ H σ ρ' H' → Q o H') (f ρ)
end
/-- an argument: a datum, a slot that is owned -/
inductive Ag where
  | v (d : D) | o (i : Nat)
/-- how arguments stand -/
inductive AgR (m : Addr → Prop) (K : PySem.W.Frag) (g : Str → Option Value) (σ : L2.St) (H : Hp) : V → Ag → Prop
  | v {v : V} {d : D} : Rp m K g H v d → AgR m K g σ H v (.v d)
  | o {v : V} {i : Nat} : σ[i]? = some (some v) → AgR m K g σ H v (.o i)
inductive AgA (m : Addr → Prop) (K : PySem.W.Frag) (g : Str → Option Value) (σ : L2.St) (H : Hp) : List V → List Ag → Prop
  | nil : AgA m K g σ H [] []
  | cons {v : V} {vs : List V} {d : Ag} {ds : List Ag} : AgR m K g σ H v d → AgA m K g σ H vs ds → AgA m K g σ H (v :: vs) (d :: ds)
def tA (c : Ct) (f : M (List Ag)) : TA := fun σ H Q => ∃ m₀ ρ, Rel m₀ c.K c.g H σ ρ ∧ Want c m₀ σ ρ H (fun ds ρ' => ∀ vs H', Rel m₀ c.K c.g H' σ ρ' → AgA (mm m₀ σ ρ') c.K c.g σ H' vs ds → Stp σ ρ H σ ρ' H' → Q vs H') (f ρ)

abbrev ct (X : Cx) (W : WX) (fx : List Nat) : Ct := ⟨X.K, X.mg, W, fx⟩
abbrev EV (X : Cx) (W : WX) (fx : List Nat) (e : Expr) (f : M D) : Prop := PE X e (tE (ct X W fx) f)
abbrev TV (X : Cx) (W : WX) (fx : List Nat) (e : Expr) (f : M Bool) : Prop := PT X e (tT (ct X W fx) f)
abbrev WV (X : Cx) (W : WX) (fx : List Nat) (e : Expr) (f : M Bool) : Prop := PW X e (tT (ct X W fx) f)
abbrev NV (X : Cx) (W : WX) (fx : List Nat) (e : Expr) (f : M (List D)) : Prop := PE X e (tN (ct X W fx) f)
abbrev LV (X : Cx) (W : WX) (fx : List Nat) (es : List Expr) (f : M (List D)) : Prop := PA X es (tL (ct X W fx) f)
abbrev AV (X : Cx) (W : WX) (fx : List Nat) (es : List Expr) (f : M (List Ag)) : Prop := PA X es (tA (ct X W fx) f)
abbrev OV (X : Cx) (W : WX) (fx : List Nat) (e : Option Expr) (f : M (Option Int)) : Prop := PO X e (tO (ct X W fx) f)
theorem PE.imp {X : Cx} {e : Expr} {t t' : TE} (h : PE X e t) (i : ∀ σ H Q, t' σ H Q → t σ H Q) : PE X e t' := ⟨fun pins s σ H Q I w => h.run pins s σ H Q I (i σ H Q w)⟩
theorem PT.imp {X : Cx} {e : Expr} {t t' : TT} (h : PT X e t) (i : ∀ σ H Q, t' σ H Q → t σ H Q) : PT X e t' := ⟨fun pins s σ H Q I w => h.run pins s σ H Q I (i σ H Q w)⟩
theorem PW.imp {X : Cx} {e : Expr} {t t' : TT} (h : PW X e t) (i : ∀ σ H Q, t' σ H Q → t σ H Q) : PW X e t' := ⟨fun wh pins s σ H Q I w => h.run wh pins s σ H Q I (i σ H Q w)⟩
theorem PA.imp {X : Cx} {e : List Expr} {t t' : TA} (h : PA X e t) (i : ∀ σ H Q, t' σ H Q → t σ H Q) : PA X e t' := ⟨fun pos pins s σ H Q I w => h.run pos pins s σ H Q I (i σ H Q w)⟩
theorem PO.imp {X : Cx} {e : Option Expr} {t t' : TO} (h : PO X e t) (i : ∀ σ H Q, t' σ H Q → t σ H Q) : PO X e t' := ⟨fun pins s σ H Q I w => h.run pins s σ H Q I (i σ H Q w)⟩
theorem PS.imp {X : Cx} {e : Stmt} {t t' : TS} (h : PS X e t) (i : ∀ D σ H, t' D σ H → t D σ H) : PS X e t' := ⟨fun pins s σ H D I w => h.run pins s σ H D I (i D σ H w)⟩
theorem PSs.imp {X : Cx} {e : List Stmt} {t t' : TS} (h : PSs X e t) (i : ∀ D σ H, t' D σ H → t D σ H) : PSs X e t' := ⟨fun pins s σ H D I w => h.run pins s σ H D I (i D σ H w)⟩

/-! ### the bind of readings -/
section
variable {c : Ct} {σ : L2.St} {H : Hp}
/-- an expression ahead of more: the reading of the first, at whose end the rest is to be shown -/
theorem tE.first {β : Type} {x : M D} {f : D → M β} {m₀ : Addr → Prop} {ρ : En} {S : β → En → Prop} {Q : VK} (r : Rel m₀ c.K c.g H σ ρ) (h : Want c m₀ σ ρ H S (M.bind x f ρ))
    (q : ∀ d ρ1 v H1, Rel m₀ c.K c.g H1 σ ρ1 → Rp (mm m₀ σ ρ1) c.K c.g H1 v d → Stp σ ρ H σ ρ1 H1 → Want c m₀ σ ρ1 H1 S (f d ρ1) → Q v H1) : tE c x σ H Q :=
  ⟨m₀, ρ, r, h.bind.mono fun d ρ1 _ w v H1 r1 h1 s1 => q d ρ1 v H1 r1 h1 s1 (w.later s1 .refl)⟩
theorem tE.firstE {β : Type} {x : M D} {f : D → M β} {m₀ : Addr → Prop} {ρ : En} {S : β → En → Prop} {Q : VK} (r : Rel m₀ c.K c.g H σ ρ) (h : Want c m₀ σ ρ H S (M.bind x f ρ))
    (q : ∀ d ρ1 v H1, x ρ = .ok d ρ1 → Rel m₀ c.K c.g H1 σ ρ1 → Rp (mm m₀ σ ρ1) c.K c.g H1 v d → Stp σ ρ H σ ρ1 H1 → Want c m₀ σ ρ1 H1 S (f d ρ1) → Q v H1) : tE c x σ H Q :=
  ⟨m₀, ρ, r, h.bind.mono fun d ρ1 e w v H1 r1 h1 s1 => q d ρ1 v H1 e r1 h1 s1 (w.later s1 .refl)⟩
theorem tT.first {β : Type} {x : M Bool} {f : Bool → M β} {m₀ : Addr → Prop} {ρ : En} {S : β → En → Prop} {Q : Bool → Hp → Prop} (r : Rel m₀ c.K c.g H σ ρ) (h : Want c m₀ σ ρ H S (M.bind x f ρ))
    (q : ∀ b ρ1 H1, Rel m₀ c.K c.g H1 σ ρ1 → Stp σ ρ H σ ρ1 H1 → Want c m₀ σ ρ1 H1 S (f b ρ1) → Q b H1) : tT c x σ H Q :=
  ⟨m₀, ρ, r, h.bind.mono fun d ρ1 _ w H1 r1 s1 => q d ρ1 H1 r1 s1 (w.later s1 .refl)⟩
theorem tN.first {β : Type} {x : M (List D)} {f : List D → M β} {m₀ : Addr → Prop} {ρ : En} {S : β → En → Prop} {Q : VK} (r : Rel m₀ c.K c.g H σ ρ) (h : Want c m₀ σ ρ H S (M.bind x f ρ))
    (q : ∀ ds ρ1 p vs H1, Rel (mp m₀ p) c.K c.g H1 σ ρ1 → H p = none → H1 p = some (.lst vs) → RpA (mm (mp m₀ p) σ ρ1) c.K c.g H1 vs ds → Stp σ ρ H σ ρ1 H1 → Want c m₀ σ ρ1 H1 S (f ds ρ1) → Q (.ref p) H1) : tN c x σ H Q :=
  ⟨m₀, ρ, r, h.bind.mono fun d ρ1 _ w p vs H1 r1 n1 e1 h1 s1 => q d ρ1 p vs H1 r1 n1 e1 h1 s1 (w.later s1 .refl)⟩
theorem tL.first {β : Type} {x : M (List D)} {f : List D → M β} {m₀ : Addr → Prop} {ρ : En} {S : β → En → Prop} {Q : List V → Hp → Prop} (r : Rel m₀ c.K c.g H σ ρ) (h : Want c m₀ σ ρ H S (M.bind x f ρ))
    (q : ∀ ds ρ1 vs H1, x ρ = .ok ds ρ1 → Rel m₀ c.K c.g H1 σ ρ1 → RpA (mm m₀ σ ρ1) c.K c.g H1 vs ds → Stp σ ρ H σ ρ1 H1 → Want c m₀ σ ρ1 H1 S (f ds ρ1) → Q vs H1) : tL c x σ H Q :=
  ⟨m₀, ρ, r, h.bind.mono fun d ρ1 e w vs H1 r1 h1 s1 => q d ρ1 vs H1 e r1 h1 s1 (w.later s1 .refl)⟩
theorem tO.first {β : Type} {x : M (Option Int)} {f : Option Int → M β} {m₀ : Addr → Prop} {ρ : En} {S : β → En → Prop} {Q : Option Int → Hp → Prop} (r : Rel m₀ c.K c.g H σ ρ) (h : Want c m₀ σ ρ H S (M.bind x f ρ))
    (q : ∀ o ρ1 H1, Rel m₀ c.K c.g H1 σ ρ1 → Stp σ ρ H σ ρ1 H1 → Want c m₀ σ ρ1 H1 S (f o ρ1) → Q o H1) : tO c x σ H Q :=
  ⟨m₀, ρ, r, h.bind.mono fun d ρ1 _ w H1 r1 s1 => q d ρ1 H1 r1 s1 (w.later s1 .refl)⟩
theorem tA.first {β : Type} {x : M (List Ag)} {f : List Ag → M β} {m₀ : Addr → Prop} {ρ : En} {S : β → En → Prop} {Q : List V → Hp → Prop} (r : Rel m₀ c.K c.g H σ ρ) (h : Want c m₀ σ ρ H S (M.bind x f ρ))
    (q : ∀ ds ρ1 vs H1, Rel m₀ c.K c.g H1 σ ρ1 → AgA (mm m₀ σ ρ1) c.K c.g σ H1 vs ds → Stp σ ρ H σ ρ1 H1 → Want c m₀ σ ρ1 H1 S (f ds ρ1) → Q vs H1) : tA c x σ H Q :=
  ⟨m₀, ρ, r, h.bind.mono fun d ρ1 _ w vs H1 r1 h1 s1 => q d ρ1 vs H1 r1 h1 s1 (w.later s1 .refl)⟩
end
end PV

namespace PV
open PySem PySem.Spec PyProof.Rows L2
section
variable {m₀ : Addr → Prop} {K : PySem.W.Frag} {g : Str → Option Value} {H H' : Hp} {σ : L2.St} {ρ : En} {v : V} {d : D} {i : Nat} {p : Addr} {ds : List D} {vs : List V}
/-! ### slots change -/
theorem own_set_val {σ' : L2.St} : Sub' (Own (σ.set i (some v)) (ρ.set i (.val d))) (Own σ ρ) H := fun a ⟨j, es, e1, e2⟩ => by
  by_cases hj : j = i
  · subst hj
    by_cases hl : j < ρ.length
    · rw [List.getElem?_set_self hl] at e1; cases e1
    · rw [List.getElem?_eq_none (by simpa using hl)] at e1; cases e1
  · rw [List.getElem?_set_ne (Ne.symm hj)] at e1 e2
    exact .inl ⟨j, es, e1, e2⟩
/-- slot i becomes a datum -/
theorem Rel.set (r : Rel m₀ K g H σ ρ) (hi : i < ρ.length) (h : Rp (mm m₀ (σ.set i (some v)) (ρ.set i (.val d))) K g H v d) : Rel m₀ K g H (σ.set i (some v)) (ρ.set i (.val d)) := by
  have sub : Sub' (mm m₀ (σ.set i (some v)) (ρ.set i (.val d))) (mm m₀ σ ρ) H := fun a z => by
    rcases z with z | z
    · exact .inl (.inl z)
    · rcases own_set_val (H := H) (σ' := σ) a z with y | y
      · exact .inl (.inr y)
      · exact .inr y
  refine ⟨by rw [List.length_set, List.length_set]; exact r.len, r.dom, fun j e q => ?_, fun j es q => ?_, fun j k es fs p q1 q2 q3 q4 => ?_⟩
  · by_cases hj : j = i
    · subst hj
      rw [List.getElem?_set_self hi] at q; cases q
      exact ⟨v, List.getElem?_set_self (by rw [r.len]; exact hi), h⟩
    · rw [List.getElem?_set_ne (Ne.symm hj)] at q
      obtain ⟨w, h1, h2⟩ := r.val j e q
      exact ⟨w, by rw [List.getElem?_set_ne (Ne.symm hj)]; exact h1, Rp.mono sub Kp.refl _ _ h2⟩
  · by_cases hj : j = i
    · subst hj
      rw [List.getElem?_set_self hi] at q; cases q
    · rw [List.getElem?_set_ne (Ne.symm hj)] at q
      obtain ⟨p, ws, h1, h2, h3, h4⟩ := r.own j es q
      exact ⟨p, ws, by rw [List.getElem?_set_ne (Ne.symm hj)]; exact h1, h2, h3, RpA.mono sub Kp.refl _ _ h4⟩
  · by_cases hj : j = i
    · subst hj
      rw [List.getElem?_set_self hi] at q1; cases q1
    · by_cases hk : k = i
      · subst hk
        rw [List.getElem?_set_self hi] at q2; cases q2
      · rw [List.getElem?_set_ne (Ne.symm hj)] at q1 q3
        rw [List.getElem?_set_ne (Ne.symm hk)] at q2 q4
        exact r.inj j k es fs p q1 q2 q3 q4
theorem Stp.set : Stp σ ρ H (σ.set i (some v)) (ρ.set i (.val d)) H := ⟨Kp.refl, fun _ h => h, own_set_val (σ' := σ)⟩
/-- slot i is given to a datum that avoids what is owned -/
theorem Rel.put (r : Rel m₀ K g H σ ρ) (hi : i < ρ.length) (h : Rp (mm m₀ σ ρ) K g H v d) : Rel m₀ K g H (σ.set i (some v)) (ρ.set i (.val d)) :=
  r.set hi (Rp.mono (fun a z => by
    rcases z with z | z
    · exact .inl (.inl z)
    · rcases own_set_val (H := H) (σ' := σ) a z with y | y
      · exact .inl (.inr y)
      · exact .inr y) Kp.refl _ _ h)
theorem set_self {σ : L2.St} {i : Nat} {x : Option V} (h : σ[i]? = some x) : σ.set i x = σ := by
  obtain ⟨hl, e⟩ := List.getElem?_eq_some_iff.mp h
  rw [← e, List.set_getElem_self]
/-- an owned slot is read as a datum: it is owned no longer -/
theorem Rel.freeze (r : Rel m₀ K g H σ ρ) (e : ρ[i]? = some (.own ds)) : ∃ p, σ[i]? = some (some (.ref p)) ∧ Rel m₀ K g H σ (ρ.set i (.val (.lst ds))) ∧ Rp (mm m₀ σ (ρ.set i (.val (.lst ds)))) K g H (.ref p) (.lst ds) ∧ Stp σ ρ H σ (ρ.set i (.val (.lst ds))) H := by
  obtain ⟨p, vs, h1, h2, h3, h4⟩ := r.own i ds e
  have hi : i < ρ.length := (List.getElem?_eq_some_iff.mp e).1
  have st := Stp.set (σ := σ) (ρ := ρ) (H := H) (i := i) (v := .ref p) (d := .lst ds)
  rw [set_self h1] at st
  have np : ¬ mm m₀ σ (ρ.set i (.val (.lst ds))) p := by
    rintro (z | ⟨j, es, e1, e2⟩)
    · exact h2 z
    · by_cases hj : j = i
      · subst hj
        rw [List.getElem?_set_self hi] at e1; cases e1
      · rw [List.getElem?_set_ne (Ne.symm hj)] at e1
        exact hj (r.inj j i es ds p e1 e e2 h1)
  have h : Rp (mm m₀ σ (ρ.set i (.val (.lst ds)))) K g H (.ref p) (.lst ds) := .lst ⟨np, h3⟩ (RpA.mono (fun a z => by
    rcases z with z | z
    · exact .inl (.inl z)
    · rcases st.own a z with y | y
      · exact .inl (.inr y)
      · exact .inr y) Kp.refl _ _ h4)
  have rr := r.set (i := i) (v := .ref p) (d := .lst ds) hi (by rw [set_self h1]; exact h)
  rw [set_self h1] at rr
  exact ⟨p, h1, rr, h, st⟩
/-- a new object -/
theorem Rel.add (r : Rel m₀ K g H σ ρ) {o : HO} (hp : H p = none) : Rel (mp m₀ p) K g (upd H p o) σ ρ := by
  have sub : Sub' (mm (mp m₀ p) σ ρ) (mm m₀ σ ρ) H := fun a z => by
    rcases z with (z | z) | z
    · exact .inl (.inl z)
    · rw [z]; exact .inr hp
    · exact .inl (.inr z)
  have kp : Kp (mm m₀ σ ρ) H (upd H p o) := fun a u _ e => keep_new hp a u e
  refine ⟨r.len, fun a z => ?_, fun j e q => ?_, fun j es q => ?_, r.inj⟩
  · rcases z with z | z
    · rw [upd_ne (fun y => r.dom a z (by rw [y]; exact hp))]
      exact r.dom a z
    · rw [z, upd_same]; simp
  · obtain ⟨w, h1, h2⟩ := r.val j e q
    exact ⟨w, h1, Rp.mono sub kp _ _ h2⟩
  · obtain ⟨b, ws, h1, h2, h3, h4⟩ := r.own j es q
    refine ⟨b, ws, h1, fun z => z.elim h2 fun y => ?_, keep_new hp _ _ h3, RpA.mono sub kp _ _ h4⟩
    rw [y, hp] at h3; cases h3
theorem Rel.drop (r : Rel (mp m₀ p) K g H σ ρ) : Rel m₀ K g H σ ρ := by
  have sub : Sub' (mm m₀ σ ρ) (mm (mp m₀ p) σ ρ) H := fun a z => by
    rcases z with z | z
    · exact .inl (.inl (.inl z))
    · exact .inl (.inr z)
  refine ⟨r.len, fun a z => r.dom a (.inl z), fun j e q => ?_, fun j es q => ?_, r.inj⟩
  · obtain ⟨w, h1, h2⟩ := r.val j e q
    exact ⟨w, h1, Rp.mono sub Kp.refl _ _ h2⟩
  · obtain ⟨b, ws, h1, h2, h3, h4⟩ := r.own j es q
    exact ⟨b, ws, h1, fun z => h2 (.inl z), h3, RpA.mono sub Kp.refl _ _ h4⟩
/-- p, new, is in no m -/
theorem Rel.out (r : Rel (mp m₀ p) K g H' σ ρ) (hm : ¬ m₀ p) : ¬ mm m₀ σ ρ p := by
  rintro (z | ⟨j, es, e1, e2⟩)
  · exact hm z
  · obtain ⟨b, ws, h1, h2, _, _⟩ := r.own j es e1
    rw [e2] at h1; cases h1
    exact h2 (.inr rfl)
theorem sub_mp : Sub' (mm m₀ σ ρ) (mm (mp m₀ p) σ ρ) H := fun a z => by
  rcases z with z | z
  · exact .inl (.inl (.inl z))
  · exact .inl (.inr z)
/-- a new list becomes owned by slot i -/
theorem Rel.putOwn (r : Rel (mp m₀ p) K g H σ ρ) (hm : ¬ m₀ p) (hi : i < ρ.length) (e : H p = some (.lst vs)) (h : RpA (mm (mp m₀ p) σ ρ) K g H vs ds) : Rel m₀ K g H (σ.set i (some (.ref p))) (ρ.set i (.own ds)) := by
  have hiσ : i < σ.length := by rw [r.len]; exact hi
  have own' : ∀ {j : Nat} {es : List D}, (ρ.set i (.own ds))[j]? = some (.own es) → j = i ∧ es = ds ∨ j ≠ i ∧ ρ[j]? = some (.own es) := fun {j es} q => by
    by_cases hj : j = i
    · subst hj
      rw [List.getElem?_set_self hi] at q; cases q
      exact .inl ⟨rfl, rfl⟩
    · rw [List.getElem?_set_ne (Ne.symm hj)] at q
      exact .inr ⟨hj, q⟩
  have sub : Sub' (mm m₀ (σ.set i (some (.ref p))) (ρ.set i (.own ds))) (mm (mp m₀ p) σ ρ) H := fun a z => by
    rcases z with z | ⟨j, es, e1, e2⟩
    · exact .inl (.inl (.inl z))
    · rcases own' e1 with ⟨rfl, _⟩ | ⟨hj, q⟩
      · rw [List.getElem?_set_self hiσ] at e2; cases e2
        exact .inl (.inl (.inr rfl))
      · rw [List.getElem?_set_ne (Ne.symm hj)] at e2
        exact .inl (.inr ⟨j, es, q, e2⟩)
  refine ⟨by rw [List.length_set, List.length_set]; exact r.len, fun a z => r.dom a (.inl z), fun j d q => ?_, fun j es q => ?_, fun j k es fs b q1 q2 q3 q4 => ?_⟩
  · by_cases hj : j = i
    · subst hj
      rw [List.getElem?_set_self hi] at q; cases q
    · rw [List.getElem?_set_ne (Ne.symm hj)] at q
      obtain ⟨w, h1, h2⟩ := r.val j d q
      exact ⟨w, by rw [List.getElem?_set_ne (Ne.symm hj)]; exact h1, Rp.mono sub Kp.refl _ _ h2⟩
  · rcases own' q with ⟨rfl, rfl⟩ | ⟨hj, q'⟩
    · exact ⟨p, vs, List.getElem?_set_self hiσ, hm, e, RpA.mono sub Kp.refl _ _ h⟩
    · obtain ⟨b, ws, h1, h2, h3, h4⟩ := r.own j es q'
      exact ⟨b, ws, by rw [List.getElem?_set_ne (Ne.symm hj)]; exact h1, fun z => h2 (.inl z), h3, RpA.mono sub Kp.refl _ _ h4⟩
  · have nop : ∀ {j : Nat} {es : List D}, ρ[j]? = some (.own es) → σ[j]? = some (some (.ref p)) → False := fun {j es} a b => by
      obtain ⟨c, ws, h1, h2, _, _⟩ := r.own j es a
      rw [b] at h1; cases h1
      exact h2 (.inr rfl)
    rcases own' q1 with ⟨rfl, rfl⟩ | ⟨hj, q1'⟩
    · rcases own' q2 with ⟨rfl, rfl⟩ | ⟨hk, q2'⟩
      · rfl
      · rw [List.getElem?_set_self hiσ] at q3; cases q3
        rw [List.getElem?_set_ne (Ne.symm hk)] at q4
        exact (nop q2' q4).elim
    · rw [List.getElem?_set_ne (Ne.symm hj)] at q3
      rcases own' q2 with ⟨rfl, rfl⟩ | ⟨hk, q2'⟩
      · rw [List.getElem?_set_self hiσ] at q4; cases q4
        exact (nop q1' q3).elim
      · rw [List.getElem?_set_ne (Ne.symm hk)] at q4
        exact r.inj j k es fs b q1' q2' q3 q4
theorem Stp.putOwn {σ0 : L2.St} {ρ0 : En} {H0 : Hp} (h0 : H0 p = none) (s : Stp σ0 ρ0 H0 σ ρ H) : Stp σ0 ρ0 H0 (σ.set i (some (.ref p))) (ρ.set i (.own ds)) H := by
  refine ⟨s.keep, s.grow, fun a ⟨j, es, e1, e2⟩ => ?_⟩
  by_cases hj : j = i
  · subst hj
    by_cases hl : j < σ.length
    · rw [List.getElem?_set_self hl] at e2; cases e2
      exact .inr h0
    · rw [List.getElem?_eq_none (by simpa using hl)] at e2; cases e2
  · rw [List.getElem?_set_ne (Ne.symm hj)] at e1 e2
    exact s.own a ⟨j, es, e1, e2⟩
end
end PV

namespace PV
open PySem PySem.Spec PyProof.Rows L2
section
variable {m₀ : Addr → Prop} {K : PySem.W.Frag} {g : Str → Option Value} {H H' : Hp} {σ : L2.St} {ρ ρ' : En} {p : Addr} {o : HO}
theorem Stp.back {σ' : L2.St} (s : Stp σ ρ H σ' ρ' H') (h : H' p = none) : H p = none := by
  cases q : H p with
  | none => rfl
  | some u => exact absurd h (s.grow p (by rw [q]; simp))
theorem rp_add {v : V} {d : D} (h : Rp (mm m₀ σ ρ) K g H v d) (hp : H p = none) : Rp (mm (mp m₀ p) σ ρ) K g (upd H p o) v d :=
  Rp.mono (fun a z => by
    rcases z with (z | z) | z
    · exact .inl (.inl z)
    · rw [z]; exact .inr hp
    · exact .inl (.inr z)) (fun a u _ e => keep_new hp a u e) _ _ h
theorem rpA_add {vs : List V} {ds : List D} (h : RpA (mm m₀ σ ρ) K g H vs ds) (hp : H p = none) : RpA (mm (mp m₀ p) σ ρ) K g (upd H p o) vs ds :=
  RpA.mono (fun a z => by
    rcases z with (z | z) | z
    · exact .inl (.inl z)
    · rw [z]; exact .inr hp
    · exact .inl (.inr z)) (fun a u _ e => keep_new hp a u e) _ _ h
theorem rpA_drop {vs : List V} {ds : List D} (h : RpA (mm (mp m₀ p) σ ρ) K g H vs ds) : RpA (mm m₀ σ ρ) K g H vs ds := RpA.mono sub_mp Kp.refl _ _ h
theorem rpA_new {m : Addr → Prop} {vs : List V} {ds : List D} (h : RpA m K g H vs ds) (hp : H p = none) : RpA m K g (upd H p o) vs ds := RpA.mono Sub'.refl (fun a u _ e => keep_new hp a u e) _ _ h
end

/-! ### names, constants -/
def dVar (i : Nat) : M D := fun ρ => match ρ[i]? with
  | some (.val d) => .ok d ρ
  | some (.own ds) => .ok (.lst ds) (ρ.set i (.val (.lst ds)))
  | _ => .no
section
variable {X : Cx} {W : WX} {fx : List Nat} {a b e : Expr} {es : List Expr} {fa fb : M D} {pos : Pos}
theorem e_tVar {i : Nat} (h : PE X e (tVar i)) : EV X W fx e (dVar i) := by
  refine PE.imp h fun σ H Q ⟨m₀, ρ, r, w⟩ => ?_
  unfold dVar at w
  cases q : ρ[i]? with
  | none => rw [q] at w; exact w.elim
  | some s =>
    rw [q] at w
    cases s with
    | no => exact w.elim
    | val d =>
      obtain ⟨v, h1, h2⟩ := r.val i d q
      exact ⟨v, h1, w v H r h2 .refl⟩
    | own ds =>
      obtain ⟨p, h1, h2, h3, h4⟩ := r.freeze q
      exact ⟨.ref p, h1, w _ H h2 h3 h4⟩
theorem e_var (i : Nat) {x : Str} (hN : X.N[i]? = some x := by rfl) (hv : Vis X.env.scope x := by first | exact Or.inl rfl | exact Or.inr (Or.inl rfl) | exact Or.inr (Or.inr rfl)) (hd : (x == ("__debug__" : Str)) = false := by decide)
    (hcd : (x == ("__classdict__" : Str)) = false := by decide) : EV X W fx (.Name x pos) (dVar i) := e_tVar (pe_var hN hv hd hcd)
theorem e_c {v : V} {d : D} (h : PE X e (tC v)) (r : ∀ m H, Rp m X.K X.mg H v d) : EV X W fx e (M.ret d) :=
  PE.imp h fun σ H Q ⟨m₀, ρ, rr, w⟩ => w v H rr (r _ _) .refl
theorem e_int {i : Int} {j} : EV X W fx (.Constant (.int i) j pos) (M.ret (.int i)) := e_c pe_int fun _ _ => .int i
theorem e_bl {b : Bool} {j} : EV X W fx (.Constant (.bool b) j pos) (M.ret (.bl b)) := e_c pe_bl fun _ _ => .bl b
theorem e_non {j} : EV X W fx (.Constant .none j pos) (M.ret .non) := e_c pe_non fun _ _ => .non
theorem e_str {x : Str} {j} : EV X W fx (.Constant (.str x) j pos) (M.ret (.str x)) := e_c pe_str fun _ _ => .str x

/-! ### operators by values -/
def OpD (X : Cx) (r : R2) (f : D → D → Option D) : Prop := ∀ (m : Addr → Prop) (H : Hp) (x y : V) (dx dy dz : D), Rp m X.K X.mg H x dx → Rp m X.K X.mg H y dy → f dx dy = some dz → (∀ p, H p = none → ¬ m p) →
  ∀ Q : VK, (∀ v H', (∀ a o, H a = some o → H' a = some o) → Rp m X.K X.mg H' v dz → Q v H') → r x y H Q
def UnD (X : Cx) (r : V → Hp → VK → Prop) (f : D → Option D) : Prop := ∀ (m : Addr → Prop) (H : Hp) (x : V) (dx dz : D), Rp m X.K X.mg H x dx → f dx = some dz →
  ∀ Q : VK, (∀ v H', (∀ a o, H a = some o → H' a = some o) → Rp m X.K X.mg H' v dz → Q v H') → r x H Q
def CallD (X : Cx) (r : List V → Hp → VK → Prop) (f : List D → Option D) : Prop := ∀ (m : Addr → Prop) (H : Hp) (vs : List V) (ds : List D) (dz : D), RpA m X.K X.mg H vs ds → f ds = some dz → (∀ p, H p = none → ¬ m p) →
  ∀ Q : VK, (∀ v H', (∀ a o, H a = some o → H' a = some o) → Rp m X.K X.mg H' v dz → Q v H') → r vs H Q
def mOp (f : D → D → Option D) (fa fb : M D) : M D := M.bind fa fun x => M.bind fb fun y => lift (f x y)
def mUn (f : D → Option D) (fa : M D) : M D := M.bind fa fun x => lift (f x)
def mCB (f : List D → Option D) (fl : M (List D)) : M D := M.bind fl fun ds => lift (f ds)
theorem op_core {r : R2} {f : D → D → Option D} (hd : OpD X r f) {σ : L2.St} {H : Hp} {Q : VK} (h : tE (ct X W fx) (mOp f fa fb) σ H Q) : tOp r (tE (ct X W fx) fa) (tE (ct X W fx) fb) σ H Q := by
  obtain ⟨m₀, ρ, rr, w⟩ := h
  refine tE.first rr w fun dx ρ1 x H1 r1 h1 s1 w1 => tE.first r1 w1 fun dy ρ2 y H2 r2 h2 s2 w2 => ?_
  obtain ⟨dz, e, w3⟩ := w2.lift
  exact hd _ H2 x y dx dy dz (s2.rp r1 h1) h2 e (fun p hp => r2.new_out hp) Q fun v H' k h' => w3 v H' (r2.grown k) h' (s1.trans (s2.trans (.grown k)))
theorem e_bin {op : Operator} {r : R2} {f : D → D → Option D} (ho : OpR X (binaryOp op) r) (hd : OpD X r f) (ha : EV X W fx a fa) (hb : EV X W fx b fb) : EV X W fx (.BinOp a op b pos) (mOp f fa fb) :=
  PE.imp (pe_op ho ha hb) fun _ _ _ h => op_core hd h
theorem e_cmp {op : CmpOp} {r : R2} {f : D → D → Option D} (ho : OpR X (compareOp op) r) (hd : OpD X r f) (ha : EV X W fx a fa) (hb : EV X W fx b fb) (hm : behindInMarks op b = false) : EV X W fx (.Compare a [op] [b] pos) (mOp f fa fb) :=
  PE.imp (pe_cmpR ho ha hb hm) fun _ _ _ h => op_core hd h
theorem e_ix {r : R2} {f : D → D → Option D} (ho : IxR X r) (hd : OpD X r f) (ha : EV X W fx a fa) (hb : EV X W fx b fb) (hs : PlainIx b) : EV X W fx (.Subscript a b pos) (mOp f fa fb) :=
  PE.imp (pe_ix ho ha hb hs) fun _ _ _ h => op_core hd h
theorem e_un {op : UnaryOp} {r : V → Hp → VK → Prop} {f : D → Option D} (ho : UnR X (unaryOp op) r) (hd : UnD X r f) (ha : EV X W fx a fa) : EV X W fx (.UnaryOp op a pos) (mUn f fa) := by
  refine PE.imp (pe_un ho ha) fun σ H Q ⟨m₀, ρ, rr, w⟩ => ?_
  refine tE.first rr w fun dx ρ1 x H1 r1 h1 s1 w1 => ?_
  obtain ⟨dz, e, w3⟩ := w1.lift
  exact hd _ H1 x dx dz h1 e Q fun v H' k h' => w3 v H' (r1.grown k) h' (s1.trans (.grown k))

/-! ### tests -/
def asB (d : D) : Option Bool := match d with
  | .bl b => some b
  | _ => none
theorem asB_inv {d : D} {b : Bool} (h : asB d = some b) : d = .bl b := by
  cases d <;> simp [asB] at h
  rw [h]
def mTest (f : M D) : M Bool := M.bind f fun d => lift (asB d)
theorem test_core {σ : L2.St} {H : Hp} {Q : Bool → Hp → Prop} (h : tT (ct X W fx) (mTest fa) σ H Q) : tTest (tE (ct X W fx) fa) σ H Q := by
  obtain ⟨m₀, ρ, rr, w⟩ := h
  refine tE.first rr w fun dx ρ1 x H1 r1 h1 s1 w1 => ?_
  obtain ⟨b, e, w3⟩ := w1.lift
  rw [asB_inv e] at h1
  exact ⟨b, h1.bl_inv, w3 H1 r1 s1⟩
theorem t_val (ha : EV X W fx e fa) (he : ∀ whole, isTrue e X.env whole = (do let v ← whole; standAt e.pos; holding [v] (truthy v)) := by intro _; rfl) : TV X W fx e (mTest fa) :=
  PT.imp (pt_val ha he) fun _ _ _ h => test_core h
theorem t_cmp {op : CmpOp} {r : R2} {f : D → D → Option D} (ho : OpR X (compareOp op) r) (hd : OpD X r f) (ha : EV X W fx a fa) (hb : EV X W fx b fb) (hm : behindInMarks op b = false) : TV X W fx (.Compare a [op] [b] pos) (mTest (mOp f fa fb)) := by
  refine PT.imp (pt_cmpR ho ha hb hm) fun σ H Q h => ?_
  have h2 := test_core h
  obtain ⟨m₀, ρ, rr, w⟩ := h2
  exact op_core hd ⟨m₀, ρ, rr, w⟩
def mAndT (f g : M Bool) : M Bool := M.bind f fun c => if c = true then g else M.ret false
def mOrT (f g : M Bool) : M Bool := M.bind f fun c => if c = true then M.ret true else g
def mNotT (f : M Bool) : M Bool := M.bind f fun c => M.ret (!c)
variable {ta tb : M Bool} {rest : List Expr}
theorem w_and1 (h : TV X W fx a ta) : WV X W fx (.BoolOp .And [a] pos) ta := pw_and1 h
theorem w_or1 (h : TV X W fx a ta) : WV X W fx (.BoolOp .Or [a] pos) ta := pw_or1 h
theorem w_and (ha : TV X W fx a ta) (hb : WV X W fx (.BoolOp .And (b :: rest) pos) tb) : WV X W fx (.BoolOp .And (a :: b :: rest) pos) (mAndT ta tb) := by
  refine PW.imp (pw_and ha hb) fun σ H Q ⟨m₀, ρ, rr, w⟩ => ?_
  refine tT.first rr w fun c ρ1 H1 r1 s1 w1 => ?_
  cases c with
  | true => exact ⟨m₀, ρ1, r1, w1.mono fun b ρ2 _ q H2 r2 s2 => q H2 r2 (s1.trans s2)⟩
  | false => exact w1 H1 r1 s1
theorem w_or (ha : TV X W fx a ta) (hb : WV X W fx (.BoolOp .Or (b :: rest) pos) tb) : WV X W fx (.BoolOp .Or (a :: b :: rest) pos) (mOrT ta tb) := by
  refine PW.imp (pw_or ha hb) fun σ H Q ⟨m₀, ρ, rr, w⟩ => ?_
  refine tT.first rr w fun c ρ1 H1 r1 s1 w1 => ?_
  cases c with
  | false => exact ⟨m₀, ρ1, r1, w1.mono fun b ρ2 _ q H2 r2 s2 => q H2 r2 (s1.trans s2)⟩
  | true => exact w1 H1 r1 s1
theorem t_w (h : WV X W fx e ta) : TV X W fx e ta := h.pt
theorem t_not (ha : TV X W fx a ta) : TV X W fx (.UnaryOp .Not a pos) (mNotT ta) := by
  refine PT.imp (pt_not ha) fun σ H Q ⟨m₀, ρ, rr, w⟩ => ?_
  exact tT.first rr w fun c ρ1 H1 r1 s1 w1 => w1 H1 r1 s1
/-! ### and, or, not as values; a if t else b -/
def mAnd (f g : M D) : M D := M.bind f fun x => M.bind (lift (asB x)) fun c => if c = true then g else M.ret (.bl false)
def mOr (f g : M D) : M D := M.bind f fun x => M.bind (lift (asB x)) fun c => if c = true then M.ret (.bl true) else g
def mNot (f : M D) : M D := M.bind f fun x => M.bind (lift (asB x)) fun c => M.ret (.bl (!c))
def mIf (t : M Bool) (f g : M D) : M D := M.bind t fun c => if c = true then f else g
theorem Want.lift1 {α β : Type} {c : Ct} {m : Addr → Prop} {σ : L2.St} {ρ : En} {H : Hp} {S : β → En → Prop} {o : Option α} {f : α → M β} (h : Want c m σ ρ H S (M.bind (PV.lift o) f ρ)) : ∃ a, o = some a ∧ Want c m σ ρ H S (f a ρ) := by
  cases o with
  | none => exact h.elim
  | some a => exact ⟨a, rfl, h⟩
theorem e_one {op} (h : EV X W fx a fa) : EV X W fx (.BoolOp op [a] pos) fa := pe_one h
theorem e_and (ha : EV X W fx a fa) (hb : EV X W fx (.BoolOp .And (b :: rest) pos) fb) : EV X W fx (.BoolOp .And (a :: b :: rest) pos) (mAnd fa fb) := by
  refine PE.imp (pe_and ha hb) fun σ H Q ⟨m₀, ρ, rr, w⟩ => ?_
  refine tE.first rr w fun dx ρ1 x H1 r1 h1 s1 w1 => ?_
  obtain ⟨c, e, w2⟩ := w1.lift1
  rw [asB_inv e] at h1
  refine ⟨c, h1.bl_inv, ?_⟩
  cases c with
  | true => exact ⟨m₀, ρ1, r1, w2.mono fun b ρ2 _ q v H2 r2 h2 s2 => q v H2 r2 h2 (s1.trans s2)⟩
  | false => exact w2 _ H1 r1 (.bl false) s1
theorem e_or (ha : EV X W fx a fa) (hb : EV X W fx (.BoolOp .Or (b :: rest) pos) fb) : EV X W fx (.BoolOp .Or (a :: b :: rest) pos) (mOr fa fb) := by
  refine PE.imp (pe_or ha hb) fun σ H Q ⟨m₀, ρ, rr, w⟩ => ?_
  refine tE.first rr w fun dx ρ1 x H1 r1 h1 s1 w1 => ?_
  obtain ⟨c, e, w2⟩ := w1.lift1
  rw [asB_inv e] at h1
  refine ⟨c, h1.bl_inv, ?_⟩
  cases c with
  | false => exact ⟨m₀, ρ1, r1, w2.mono fun b ρ2 _ q v H2 r2 h2 s2 => q v H2 r2 h2 (s1.trans s2)⟩
  | true => exact w2 _ H1 r1 (.bl true) s1
theorem e_not (ha : EV X W fx a fa) : EV X W fx (.UnaryOp .Not a pos) (mNot fa) := by
  refine PE.imp (pe_not ha) fun σ H Q ⟨m₀, ρ, rr, w⟩ => ?_
  refine tE.first rr w fun dx ρ1 x H1 r1 h1 s1 w1 => ?_
  obtain ⟨c, e, w2⟩ := w1.lift1
  rw [asB_inv e] at h1
  exact ⟨c, h1.bl_inv, w2 _ H1 r1 (.bl _) s1⟩
theorem e_if {t : Expr} {ft : M Bool} (ht : TV X W fx t ft) (ha : EV X W fx a fa) (hb : EV X W fx b fb) : EV X W fx (.IfExp t a b pos) (mIf ft fa fb) := by
  refine PE.imp (pe_ifExp ht ha hb) fun σ H Q ⟨m₀, ρ, rr, w⟩ => ?_
  refine tT.first rr w fun c ρ1 H1 r1 s1 w1 => ?_
  cases c with
  | true => exact ⟨m₀, ρ1, r1, w1.mono fun b ρ2 _ q v H2 r2 h2 s2 => q v H2 r2 h2 (s1.trans s2)⟩
  | false => exact ⟨m₀, ρ1, r1, w1.mono fun b ρ2 _ q v H2 r2 h2 s2 => q v H2 r2 h2 (s1.trans s2)⟩

/-! ### several expressions; tuples, lists -/
def dNil : M (List D) := M.ret []
def dCons (fa : M D) (fl : M (List D)) : M (List D) := M.bind fa fun x => M.bind fl fun xs => M.ret (x :: xs)
def Len (f : M (List D)) (n : Nat) : Prop := ∀ ρ ds ρ', f ρ = .ok ds ρ' → ds.length = n
theorem len_nil : Len dNil 0 := fun ρ ds ρ' h => by cases h; rfl
theorem len_cons {fl : M (List D)} {n : Nat} (h : Len fl n) : Len (dCons fa fl) (n + 1) := fun ρ ds ρ' e => by
  unfold dCons M.bind at e
  cases q : fa ρ with
  | no => rw [q] at e; cases e
  | er y ρ1 => rw [q] at e; cases e
  | ok x ρ1 =>
    rw [q] at e
    simp only [ok_andThen] at e
    cases q2 : fl ρ1 with
    | no => rw [q2] at e; cases e
    | er y ρ2 => rw [q2] at e; cases e
    | ok xs ρ2 =>
      rw [q2] at e
      have e' : (R.ok (x :: xs) ρ2 : R (List D)) = .ok ds ρ' := e
      cases e'
      rw [List.length_cons, h _ _ _ q2]
theorem l_nil : LV X W fx [] dNil := PA.imp pa_nil fun σ H Q ⟨m₀, ρ, rr, w⟩ => w [] H rr .nil .refl
theorem l_cons {fl : M (List D)} (ha : EV X W fx e fa) (hl : LV X W fx es fl) (hs : starEach (e :: es) X.env = (false, eval e X.env) :: starEach es X.env := by rfl) : LV X W fx (e :: es) (dCons fa fl) := by
  refine PA.imp (pa_cons ha hl hs) fun σ H Q ⟨m₀, ρ, rr, w⟩ => ?_
  refine tE.first rr w fun dx ρ1 x H1 r1 h1 s1 w1 => tL.first r1 w1 fun ds ρ2 vs H2 _ r2 h2 s2 w2 => ?_
  exact w2 (x :: vs) H2 r2 (.cons (s2.rp r1 h1) h2) (s1.trans s2)
theorem sz_le {n : Nat} (h : n ≤ 100000) : n ≤ sizeLine := Nat.le_trans h (by decide)
def mTup (fl : M (List D)) : M D := M.bind fl fun ds => M.ret (.tup ds)
def mLst (fl : M (List D)) : M D := M.bind fl fun ds => M.ret (.lst ds)
theorem e_tup {x1} {fl : M (List D)} {n : Nat} (h : LV X W fx es fl) (l : Len fl n) (hn : n ≤ 100000 := by decide) : EV X W fx (.Tuple es x1 pos) (mTup fl) := by
  refine PE.imp (pe_tup h) fun σ H Q ⟨m₀, ρ, rr, w⟩ => ?_
  refine tL.first rr w fun ds ρ1 vs H1 e r1 h1 s1 w1 => ⟨by rw [h1.length, l _ _ _ e]; exact sz_le hn, fun p hp => ?_⟩
  exact w1 (.ref p) _ (r1.add hp).drop (.tup (.inl ⟨r1.new_out hp, upd_same⟩) (rpA_new h1 hp)) (s1.trans (.grown (keep_new hp)))
theorem n_lst {fl : M (List D)} {n : Nat} (h : LV X W fx es fl) (l : Len fl n) (hn : n ≤ 100000 := by decide) : NV X W fx (.List es pos) fl := by
  refine PE.imp (pe_lst h) fun σ H Q ⟨m₀, ρ, rr, w⟩ => ⟨m₀, ρ, rr, ?_⟩
  refine w.mono fun ds ρ1 e s vs H1 r1 h1 s1 => ⟨by rw [h1.length, l _ _ _ e]; exact sz_le hn, fun p hp => ?_⟩
  exact s p vs _ (r1.add hp) (s1.back hp) upd_same (rpA_add h1 hp) (s1.trans (.grown (keep_new hp)))
theorem e_new {fl : M (List D)} (h : NV X W fx e fl) : EV X W fx e (mLst fl) := by
  refine PE.imp h fun σ H Q ⟨m₀, ρ, rr, w⟩ => ?_
  refine tN.first rr w fun ds ρ1 p vs H1 r1 n1 e1 h1 s1 w1 => ?_
  exact w1 (.ref p) H1 r1.drop (.lst ⟨r1.out fun z => rr.dom p z n1, e1⟩ (rpA_drop h1)) s1
theorem e_callB {x : Str} {p : Pos} {id : String} {r : List V → Hp → VK → Prop} {f : List D → Option D} {fl : M (List D)} (hc : CallR X (.builtin id) r) (hd : CallD X r f) (hg : Gl X x) (hm : X.mg x = none) (hv : bootBuiltins x = some (.builtin id)) (ha : LV X W fx (e :: es) fl)
    (hn : x ≠ "__name__" := by decide) (hdb : (x == ("__debug__" : Str)) = false := by decide) (he : starEach (e :: es) X.env = (false, eval e X.env) :: starEach es X.env := by rfl) (hpl : (backTo pos (starEach es X.env)).any (·.1) = false := by rfl) :
    EV X W fx (.Call (.Name x p) (e :: es) [] pos) (mCB f fl) := by
  refine PE.imp (pe_callB hc hg hm hv ha hn hdb he hpl) fun σ H Q ⟨m₀, ρ, rr, w⟩ => ?_
  refine tL.first rr w fun ds ρ1 vs H1 _ r1 h1 s1 w1 => ?_
  obtain ⟨dz, ez, w3⟩ := w1.lift
  exact hd _ H1 vs ds dz h1 ez (fun p hp => r1.new_out hp) Q fun v H' k h' => w3 v H' (r1.grown k) h' (s1.trans (.grown k))
theorem e_callTy {x : Str} {p : Pos} {T : String} {r : List V → Hp → VK → Prop} {f : List D → Option D} {fl : M (List D)} (hc : CallR X (.type T) r) (hd : CallD X r f) (hg : Gl X x) (hm : X.mg x = none) (hv : bootBuiltins x = some (.type T)) (ha : LV X W fx (e :: es) fl)
    (hn : x ≠ "__name__" := by decide) (hdb : (x == ("__debug__" : Str)) = false := by decide) (he : starEach (e :: es) X.env = (false, eval e X.env) :: starEach es X.env := by rfl) (hpl : (backTo pos (starEach es X.env)).any (·.1) = false := by rfl) :
    EV X W fx (.Call (.Name x p) (e :: es) [] pos) (mCB f fl) := by
  refine PE.imp (pe_callTy hc hg hm hv ha hn hdb he hpl) fun σ H Q ⟨m₀, ρ, rr, w⟩ => ?_
  refine tL.first rr w fun ds ρ1 vs H1 _ r1 h1 s1 w1 => ?_
  obtain ⟨dz, ez, w3⟩ := w1.lift
  exact hd _ H1 vs ds dz h1 ez (fun p hp => r1.new_out hp) Q fun v H' k h' => w3 v H' (r1.grown k) h' (s1.trans (.grown k))
theorem e_callF {x : Str} {p : Pos} {id : String} {r : List V → Hp → VK → Prop} {f : List D → Option D} {fl : M (List D)} (hc : CallR X (.builtin id) r) (hd : CallD X r f) (hg : Gl X x) (hm : X.mg x = some (.builtin id)) (ha : LV X W fx (e :: es) fl)
    (hdb : (x == ("__debug__" : Str)) = false := by decide) (he : starEach (e :: es) X.env = (false, eval e X.env) :: starEach es X.env := by rfl) (hpl : (backTo pos (starEach es X.env)).any (·.1) = false := by rfl) :
    EV X W fx (.Call (.Name x p) (e :: es) [] pos) (mCB f fl) := by
  refine PE.imp (pe_callBfun hc hg hm ha hdb he hpl) fun σ H Q ⟨m₀, ρ, rr, w⟩ => ?_
  refine tL.first rr w fun ds ρ1 vs H1 _ r1 h1 s1 w1 => ?_
  obtain ⟨dz, ez, w3⟩ := w1.lift
  exact hd _ H1 vs ds dz h1 ez (fun p hp => r1.new_out hp) Q fun v H' k h' => w3 v H' (r1.grown k) h' (s1.trans (.grown k))
end
end PV

namespace PV
open PySem PySem.Spec PyProof.Rows L2

/-! ### the operators on data -/
def dAdd : D → D → Option D
  | .int i, .int j => some (.int (i + j))
  | .lst xs, .lst ys => if xs.length + ys.length ≤ 100000 then some (.lst (xs ++ ys)) else none
  | .tup xs, .tup ys => if xs.length + ys.length ≤ 100000 then some (.tup (xs ++ ys)) else none
  | .str x, .str y => if x.length + y.length ≤ 100000 then some (.str (x ++ y)) else none
  | _, _ => none
def dSub : D → D → Option D
  | .int i, .int j => some (.int (i - j))
  | _, _ => none
/-- a product's size -/
def mulOk (i j : Int) : Bool := decide (i.natAbs.log2 + j.natAbs.log2 < 1000000)
def dMul : D → D → Option D
  | .int i, .int j => if mulOk i j = true then some (.int (i * j)) else none
  | .lst xs, .int k => if xs.length ≤ 300 ∧ 0 ≤ k ∧ k ≤ 300 then some (.lst (List.replicate k.toNat xs).flatten) else none
  | .tup xs, .int k => if 0 < xs.length ∧ xs.length ≤ 300 ∧ 2 ≤ k ∧ k ≤ 300 then some (.tup (List.replicate k.toNat xs).flatten) else none
  | _, _ => none
def divOk (j : Int) : Bool := decide (j ≠ 0 ∧ j.natAbs.log2 < 9000)
def dDiv : D → D → Option D
  | .int i, .int j => if divOk j = true then some (.int (i.fdiv j)) else none
  | _, _ => none
def dMod : D → D → Option D
  | .int i, .int j => if j ≠ 0 then some (.int (i.fmod j)) else none
  | _, _ => none
def dPow : D → D → Option D
  | .int i, .int j => if 0 ≤ j ∧ j ≤ 100000 ∧ i.natAbs < 2 ^ 64 then some (.int (i ^ j.toNat)) else none
  | _, _ => none
def dNeg : D → Option D
  | .int i => some (.int (-i))
  | _ => none
def dLt : D → D → Option D
  | .int i, .int j => some (.bl (decide (i < j)))
  | _, _ => none
def dLe : D → D → Option D
  | .int i, .int j => some (.bl (decide (i ≤ j)))
  | _, _ => none
def dGt : D → D → Option D
  | .int i, .int j => some (.bl (decide (j < i)))
  | _, _ => none
def dGe : D → D → Option D
  | .int i, .int j => some (.bl (decide (j ≤ i)))
  | _, _ => none
mutual
def D.py : D → PyData
  | .non => .none
  | .bl b => .bool b
  | .int i => .int i
  | .str x => .str x
  | .lst ds => .list (D.pyA ds)
  | .tup ds => .tuple (D.pyA ds)
  | _ => .none
def D.pyA : List D → List PyData
  | [] => []
  | d :: ds => D.py d :: D.pyA ds
end
mutual
/-- a datum of at most that depth, without objects, its texts sound -/
def okq : Nat → D → Bool
  | _, .non => true
  | _, .bl _ => true
  | _, .int _ => true
  | _, .str x => PyData.strOk x
  | n + 1, .lst ds => okqA n ds
  | n + 1, .tup ds => okqA n ds
  | _, _ => false
def okqA : Nat → List D → Bool
  | _, [] => true
  | n, d :: ds => okq n d && okqA n ds
end
def eqD (x y : D) : Bool := PyData.eqv x.py y.py
def strs? : D → D → Option (Str × Str)
  | .str a, .str b => some (a, b)
  | _, _ => none
def dEq (x y : D) : Option D := match strs? x y with
  | some (a, b) => some (.bl (decide (a = b)))
  | none => if okq 60 x = true ∧ okq 60 y = true then some (.bl (eqD x y)) else none
def dNe (x y : D) : Option D := match strs? x y with
  | some (a, b) => some (.bl (!decide (a = b)))
  | none => if okq 60 x = true ∧ okq 60 y = true then some (.bl (!eqD x y)) else none
theorem strs?_some {x y : D} {z : Str × Str} (h : strs? x y = some z) : x = .str z.1 ∧ y = .str z.2 := by
  cases x <;> cases y <;> simp [strs?] at h
  subst h
  exact ⟨rfl, rfl⟩
def isNon : D → Bool
  | .non => true
  | _ => false
def dIs : D → D → Option D
  | x, .non => some (.bl (isNon x))
  | .bl a, .bl b => some (.bl (decide (a = b)))
  | _, _ => none
def dIsNot : D → D → Option D
  | x, .non => some (.bl (!isNon x))
  | .bl a, .bl b => some (.bl (!decide (a = b)))
  | _, _ => none
/-- the value of a flat datum -/
def D.v? : D → Option V
  | .non => some .non
  | .bl b => some (.bl b)
  | .int i => some (.int i)
  | .str x => some (.str x)
  | _ => none
def D.vs? : List D → Option (List V)
  | [] => some []
  | d :: ds => match d.v?, D.vs? ds with
    | some v, some vs => some (v :: vs)
    | _, _ => none
def D.items? : D → Option (List D)
  | .lst xs => some xs
  | .tup xs => some xs
  | _ => none
def dIn (x y : D) : Option D := match x.v?, (y.items?).bind D.vs? with
  | some v, some vs => some (.bl (inV v vs))
  | _, _ => none
def dNotIn (x y : D) : Option D := match x.v?, (y.items?).bind D.vs? with
  | some v, some vs => some (.bl (!inV v vs))
  | _, _ => none
def dIx : D → D → Option D
  | .lst xs, .int i => atI xs i
  | .tup xs, .int i => atI xs i
  | .fz ns, .int i => (atI ns i).map .int
  | _, _ => none

section
variable {X : Cx} {m : Addr → Prop} {K : PySem.W.Frag} {g : Str → Option Value} {H : Hp}
theorem grown_refl : ∀ (a : Addr) (o : HO), H a = some o → H a = some o := fun _ _ e => e
theorem v?_ok {d : D} {v w : V} (h : Rp m K g H v d) (e : d.v? = some w) : v = w ∧ flatV v = true := by
  cases d <;> simp [D.v?] at e <;> subst e <;> cases h <;> exact ⟨rfl, rfl⟩
theorem vs?_ok : ∀ {ds : List D} {vs ws : List V}, RpA m K g H vs ds → D.vs? ds = some ws → vs = ws ∧ vs.all flatV = true
  | [], _, _, h, e => by cases h; cases e; exact ⟨rfl, rfl⟩
  | d :: ds, _, _, h, e => by
    cases h with
    | cons h1 h2 =>
      unfold D.vs? at e
      split at e
      · rename_i v vs e1 e2
        cases e
        obtain ⟨rfl, f1⟩ := v?_ok h1 e1
        obtain ⟨rfl, f2⟩ := vs?_ok h2 e2
        exact ⟨rfl, by rw [List.all_cons, f1, f2]; rfl⟩
      · cases e
theorem items_ok {d : D} {v : V} {ds : List D} (h : Rp m K g H v d) (e : d.items? = some ds) : ∃ a xs, v = .ref a ∧ (SqL K H a xs ∨ SqT K H a xs) ∧ RpA m K g H xs ds := by
  cases d <;> simp [D.items?] at e <;> subst e
  · cases h with
    | lst h1 h2 => exact ⟨_, _, rfl, .inl h1.sq, h2⟩
  · cases h with
    | tup h1 h2 => exact ⟨_, _, rfl, .inr h1.sq, h2⟩
mutual
theorem okq_dp : ∀ (d : D) (n : Nat) (v : V), Rp m K g H v d → okq n d = true → Dp K H v d.py ∧ d.py.canLay0 = true ∧ d.py.depth ≤ n
  | .non, n, _, h, _ => by cases h; exact ⟨.non, rfl, Nat.zero_le _⟩
  | .bl b, n, _, h, _ => by cases h; exact ⟨.bl b, rfl, Nat.zero_le _⟩
  | .int i, n, _, h, _ => by cases h; exact ⟨.int i, rfl, Nat.zero_le _⟩
  | .str x, n, _, h, e => by
    cases h
    refine ⟨.str x, ?_, Nat.zero_le _⟩
    cases n <;> exact e
  | .lst ds, 0, _, _, e => by cases e
  | .lst ds, n + 1, _, h, e => by
    cases h with
    | lst h1 h2 =>
      obtain ⟨a, b, c⟩ := okqA_dp ds n _ h2 e
      exact ⟨.lst h1.sq a, b, Nat.succ_le_succ c⟩
  | .tup ds, 0, _, _, e => by cases e
  | .tup ds, n + 1, _, h, e => by
    cases h with
    | tup h1 h2 =>
      obtain ⟨a, b, c⟩ := okqA_dp ds n _ h2 e
      exact ⟨.tup h1.sq a, b, Nat.succ_le_succ c⟩
  | .dic ks ds, n, _, _, e => by cases n <;> cases e
  | .fz ns, n, _, _, e => by cases n <;> cases e
  | .ins c ns ds, n, _, _, e => by cases n <;> cases e
theorem okqA_dp : ∀ (ds : List D) (n : Nat) (vs : List V), RpA m K g H vs ds → okqA n ds = true → DpAll K H vs (D.pyA ds) ∧ PyData.canLayAll0 (D.pyA ds) = true ∧ PyData.depthAll (D.pyA ds) ≤ n
  | [], n, _, h, _ => by cases h; exact ⟨.nil, rfl, Nat.zero_le _⟩
  | d :: ds, n, _, h, e => by
    cases h with
    | cons h1 h2 =>
      unfold okqA at e
      rw [Bool.and_eq_true] at e
      obtain ⟨a, b, c⟩ := okq_dp d n _ h1 e.1
      obtain ⟨a', b', c'⟩ := okqA_dp ds n _ h2 e.2
      refine ⟨.cons a a', ?_, ?_⟩
      · show (d.py.canLay0 && PyData.canLayAll0 (D.pyA ds)) = true
        rw [b, b']; rfl
      · show max d.py.depth (PyData.depthAll (D.pyA ds)) ≤ n
        omega
end
theorem okq_shaped {d : D} {v : V} (h : Rp m K g H v d) (e : okq 60 d = true) : Dp K H v d.py ∧ SeqAt.shaped d.py = true := by
  obtain ⟨a, b, c⟩ := okq_dp d 60 v h e
  refine ⟨a, ?_⟩
  unfold SeqAt.shaped
  rw [b, decide_eq_true (by omega)]
  rfl

/-! ### they are Python's -/
def rAddA (K : PySem.W.Frag) : R2 := fun x y H Q => rI0 (fun i j => .int (i + j)) x y H Q ∨ rCat x y H Q ∨ rCatA K x y H Q ∨ (fun x y H Q => ∃ i j, x = .str i ∧ y = .str j ∧ i.length + j.length ≤ sizeLine ∧ Q (.str (i ++ j)) H) x y H Q
theorem op_addA : OpR X (binaryOp .Add) (rAddA X.K) := op_add.or (op_cat.or (op_catA.or op_add_str))
theorem add_d : OpD X (rAddA X.K) dAdd := by
  intro m H x y dx dy dz hx hy e hm Q q
  unfold dAdd at e
  split at e
  · cases e; cases hx; cases hy
    exact .inl ⟨_, _, rfl, rfl, q _ H grown_refl (.int _)⟩
  · split at e
    · cases e
      rename_i hl
      cases hx with
      | lst h1 h2 =>
        cases hy with
        | lst h3 h4 =>
          refine .inr (.inl ⟨_, _, _, _, rfl, rfl, h1.2, h3.2, ?_, fun p hp => q _ _ (keep_new hp) (.lst ⟨hm p hp, upd_same⟩ (rpA_new (h2.append h4) hp))⟩)
          rw [h2.length, h4.length]; exact sz_le hl
    · cases e
  · split at e
    · cases e
      rename_i xs ys hl
      cases hx with
      | tup h1 h2 =>
        cases hy with
        | tup h3 h4 =>
          refine .inr (.inr (.inl ⟨_, _, _, _, rfl, rfl, h1.sq, h3.sq, ?_, fun z => ?_, fun _ z => ?_, fun _ _ p hp => ?_⟩))
          · rw [h2.length, h4.length]; exact sz_le hl
          · subst z
            have e0 : xs = [] := List.eq_nil_of_length_eq_zero h2.length.symm
            subst e0
            exact q _ H grown_refl (.tup h3 h4)
          · subst z
            have e0 : ys = [] := List.eq_nil_of_length_eq_zero h4.length.symm
            subst e0
            rw [List.append_nil] at q
            exact q _ H grown_refl (.tup h1 h2)
          · exact q _ _ (keep_new hp) (.tup (.inl ⟨hm p hp, upd_same⟩) (rpA_new (h2.append h4) hp))
    · cases e
  · split at e
    · cases e; cases hx; cases hy
      rename_i hl
      exact .inr (.inr (.inr ⟨_, _, rfl, rfl, sz_le hl, q _ H grown_refl (.str _)⟩))
    · cases e
  · cases e
theorem sub_d : OpD X (rI0 fun i j => .int (i - j)) dSub := by
  intro m H x y dx dy dz hx hy e hm Q q
  unfold dSub at e
  split at e
  · cases e; cases hx; cases hy
    exact ⟨_, _, rfl, rfl, q _ H grown_refl (.int _)⟩
  · cases e
def rMulA (K : PySem.W.Frag) : R2 := fun x y H Q => rI CMulW (fun i j => .int (i * j)) x y H Q ∨ rRep x y H Q ∨ rRepT K x y H Q
theorem op_mulA : OpR X (binaryOp .Mult) (rMulA X.K) := op_mulW.or (op_rep.or op_repT)
theorem mul_d : OpD X (rMulA X.K) dMul := by
  intro m H x y dx dy dz hx hy e hm Q q
  unfold dMul at e
  split at e
  · split at e
    · cases e; cases hx; cases hy
      rename_i hl
      unfold mulOk at hl
      have hl2 := of_decide_eq_true hl
      exact .inl ⟨_, _, rfl, rfl, hl2, q _ H grown_refl (.int _)⟩
    · cases e
  · split at e
    · cases e
      rename_i xs k hl
      cases hy
      cases hx with
      | lst h1 h2 =>
        refine .inr (.inl ⟨_, _, _, rfl, rfl, h1.2, by omega, by omega, ?_, fun p hp => q _ _ (keep_new hp) (.lst ⟨hm p hp, upd_same⟩ (rpA_new (h2.flat _) hp))⟩)
        rw [h2.length]
        refine sz_le ?_
        have a1 : xs.length * k.toNat ≤ 300 * 300 := Nat.mul_le_mul hl.1 (by omega)
        omega
    · cases e
  · split at e
    · cases e
      rename_i xs k hl
      cases hy
      cases hx with
      | tup h1 h2 =>
        refine .inr (.inr ⟨_, _, _, rfl, rfl, h1.sq, fun z => ?_, by omega, by omega, by rw [h2.length]; omega, fun p hp => q _ _ (keep_new hp) (.tup (.inl ⟨hm p hp, upd_same⟩) (rpA_new (h2.flat _) hp))⟩)
        subst z
        have := h2.length
        simp at this
        omega
    · cases e
  · cases e
theorem op_divG : OpR X (binaryOp .FloorDiv) (rI (fun _ j => divOk j = true) fun i j => .int (i.fdiv j)) := opI fun i j _ _ _ _ _ hc q => by
  have h := of_decide_eq_true hc
  exact floordiv_int h.1 q (.inl (PyProof.noPylong_of_log2 h.2))
theorem div_d : OpD X (rI (fun _ j => divOk j = true) fun i j => .int (i.fdiv j)) dDiv := by
  intro m H x y dx dy dz hx hy e hm Q q
  unfold dDiv at e
  split at e
  · split at e
    · cases e; cases hx; cases hy
      rename_i hl
      exact ⟨_, _, rfl, rfl, hl, q _ H grown_refl (.int _)⟩
    · cases e
  · cases e
theorem mod_d : OpD X (rI (fun _ j => j ≠ 0) fun i j => .int (i.fmod j)) dMod := by
  intro m H x y dx dy dz hx hy e hm Q q
  unfold dMod at e
  split at e
  · split at e
    · cases e; cases hx; cases hy
      rename_i hl
      exact ⟨_, _, rfl, rfl, hl, q _ H grown_refl (.int _)⟩
    · cases e
  · cases e
theorem pow_d : OpD X (rI CPow fun i j => .int (i ^ j.toNat)) dPow := by
  intro m H x y dx dy dz hx hy e hm Q q
  unfold dPow at e
  split at e
  · split at e
    · cases e; cases hx; cases hy
      rename_i hl
      exact ⟨_, _, rfl, rfl, ⟨hl.1, by omega, hl.2.2⟩, q _ H grown_refl (.int _)⟩
    · cases e
  · cases e
theorem neg_d : UnD X (rU fun i => .int (-i)) dNeg := by
  intro m H x dx dz hx e Q q
  unfold dNeg at e
  split at e
  · cases e; cases hx
    exact ⟨_, rfl, q _ H grown_refl (.int _)⟩
  · cases e
theorem lt_d : OpD X (rI0 fun i j => .bl (decide (i < j))) dLt := by
  intro m H x y dx dy dz hx hy e hm Q q
  unfold dLt at e
  split at e
  · cases e; cases hx; cases hy
    exact ⟨_, _, rfl, rfl, q _ H grown_refl (.bl _)⟩
  · cases e
theorem le_d : OpD X (rI0 fun i j => .bl (decide (i ≤ j))) dLe := by
  intro m H x y dx dy dz hx hy e hm Q q
  unfold dLe at e
  split at e
  · cases e; cases hx; cases hy
    exact ⟨_, _, rfl, rfl, q _ H grown_refl (.bl _)⟩
  · cases e
theorem gt_d : OpD X (rI0 fun i j => .bl (decide (j < i))) dGt := by
  intro m H x y dx dy dz hx hy e hm Q q
  unfold dGt at e
  split at e
  · cases e; cases hx; cases hy
    exact ⟨_, _, rfl, rfl, q _ H grown_refl (.bl _)⟩
  · cases e
theorem ge_d : OpD X (rI0 fun i j => .bl (decide (j ≤ i))) dGe := by
  intro m H x y dx dy dz hx hy e hm Q q
  unfold dGe at e
  split at e
  · cases e; cases hx; cases hy
    exact ⟨_, _, rfl, rfl, q _ H grown_refl (.bl _)⟩
  · cases e
def rEqA (K : PySem.W.Frag) : R2 := fun x y H Q => rEq x y H Q ∨ rEqD K x y H Q
def rNeA (K : PySem.W.Frag) : R2 := fun x y H Q => rNe x y H Q ∨ rNeD K x y H Q
theorem op_eqA (hu : X.A.units + 64 < cLine) : OpR X (compareOp .Eq) (rEqA X.K) := op_eq.or (op_eqD hu)
theorem op_neA (hu : X.A.units + 64 < cLine) : OpR X (compareOp .NotEq) (rNeA X.K) := op_ne.or (op_neD hu)
theorem dec_strV {a b : Str} : decide (V.str a = V.str b) = decide (a = b) := by
  rw [Bool.eq_iff_iff]
  simp
theorem eq_d : OpD X (rEqA X.K) dEq := by
  intro m H x y dx dy dz hx hy e hm Q q
  unfold dEq at e
  split at e
  · rename_i a b e1
    cases e
    obtain ⟨rfl, rfl⟩ := strs?_some e1
    cases hx; cases hy
    refine .inl ⟨rfl, ?_⟩
    rw [dec_strV]
    exact q _ H grown_refl (.bl _)
  · split at e
    · cases e
      rename_i hl
      obtain ⟨a, b⟩ := okq_shaped hx hl.1
      obtain ⟨a', b'⟩ := okq_shaped hy hl.2
      exact .inr ⟨_, _, a, a', b, b', q _ H grown_refl (.bl _)⟩
    · cases e
theorem ne_d : OpD X (rNeA X.K) dNe := by
  intro m H x y dx dy dz hx hy e hm Q q
  unfold dNe at e
  split at e
  · rename_i a b e1
    cases e
    obtain ⟨rfl, rfl⟩ := strs?_some e1
    cases hx; cases hy
    refine .inl ⟨rfl, ?_⟩
    rw [dec_strV]
    exact q _ H grown_refl (.bl _)
  · split at e
    · cases e
      rename_i hl
      obtain ⟨a, b⟩ := okq_shaped hx hl.1
      obtain ⟨a', b'⟩ := okq_shaped hy hl.2
      exact .inr ⟨_, _, a, a', b, b', q _ H grown_refl (.bl _)⟩
    · cases e
theorem isNon_ok {x : V} {d : D} (h : Rp m K g H x d) : decide (x = .non) = isNon d := by cases h <;> rfl
def rIsA : R2 := fun x y H Q => (fun x y H Q => y = .non ∧ Q (.bl (decide (x = .non))) H) x y H Q ∨ rIsB x y H Q
def rIsNotA : R2 := fun x y H Q => (fun x y H Q => y = .non ∧ Q (.bl (!decide (x = .non))) H) x y H Q ∨ rNotB x y H Q
theorem op_isA : OpR X (compareOp .Is) rIsA := op_isN.or op_isBl
theorem op_isNotA : OpR X (compareOp .IsNot) rIsNotA := op_notN.or op_notBl
theorem is_d : OpD X rIsA dIs := by
  intro m H x y dx dy dz hx hy e hm Q q
  unfold dIs at e
  split at e
  · cases e
    refine .inl ⟨hy.non_inv, ?_⟩
    rw [isNon_ok hx]
    exact q _ H grown_refl (.bl _)
  · cases e; cases hx; cases hy
    exact .inr ⟨_, _, rfl, rfl, q _ H grown_refl (.bl _)⟩
  · cases e
theorem isNot_d : OpD X rIsNotA dIsNot := by
  intro m H x y dx dy dz hx hy e hm Q q
  unfold dIsNot at e
  split at e
  · cases e
    refine .inl ⟨hy.non_inv, ?_⟩
    rw [isNon_ok hx]
    exact q _ H grown_refl (.bl _)
  · cases e; cases hx; cases hy
    exact .inr ⟨_, _, rfl, rfl, q _ H grown_refl (.bl _)⟩
  · cases e
theorem in_d : OpD X (rIn X.K false) dIn := by
  intro m H x y dx dy dz hx hy e hm Q q
  unfold dIn at e
  split at e
  · rename_i v vs e1 e2
    cases e
    obtain ⟨ds, e3, e4⟩ := Option.bind_eq_some_iff.mp e2
    obtain ⟨rfl, f1⟩ := v?_ok hx e1
    obtain ⟨a, xs, rfl, hs, ha⟩ := items_ok hy e3
    obtain ⟨rfl, f2⟩ := vs?_ok ha e4
    exact ⟨a, _, rfl, hs, f1, f2, q _ H grown_refl (.bl _)⟩
  · cases e
theorem notIn_d : OpD X (rIn X.K true) dNotIn := by
  intro m H x y dx dy dz hx hy e hm Q q
  unfold dNotIn at e
  split at e
  · rename_i v vs e1 e2
    cases e
    obtain ⟨ds, e3, e4⟩ := Option.bind_eq_some_iff.mp e2
    obtain ⟨rfl, f1⟩ := v?_ok hx e1
    obtain ⟨a, xs, rfl, hs, ha⟩ := items_ok hy e3
    obtain ⟨rfl, f2⟩ := vs?_ok ha e4
    exact ⟨a, _, rfl, hs, f1, f2, q _ H grown_refl (.bl _)⟩
  · cases e
def rIxA (K : PySem.W.Frag) : R2 := fun x y H Q => rIxL K x y H Q ∨ rIxT K x y H Q
theorem ix_A : IxR X (rIxA X.K) := ix_list.or ix_tup
theorem atI_rp {xs : List V} {ds : List D} {i : Int} {d : D} (h : RpA m K g H xs ds) (e : atI ds i = some d) : ∃ v, atI xs i = some v ∧ Rp m K g H v d := by
  unfold atI at e ⊢
  rw [h.length]
  obtain ⟨j, e1, e2⟩ := Option.bind_eq_some_iff.mp e
  obtain ⟨v, h1, h2⟩ := h.get e2
  exact ⟨v, by rw [e1]; exact h1, h2⟩
theorem atI_map {α β : Type} (f : α → β) (xs : List α) (i : Int) : atI (xs.map f) i = (atI xs i).map f := by
  unfold atI
  rw [List.length_map]
  cases ixN xs.length i with
  | none => rfl
  | some j => simp
theorem ix_d : OpD X (rIxA X.K) dIx := by
  intro m H x y dx dy dz hx hy e hm Q q
  unfold dIx at e
  split at e
  · cases hy
    cases hx with
    | lst h1 h2 =>
      obtain ⟨v, e1, h3⟩ := atI_rp h2 e
      exact .inl ⟨_, _, _, _, rfl, rfl, h1.sq, e1, q _ H grown_refl h3⟩
  · cases hy
    cases hx with
    | tup h1 h2 =>
      obtain ⟨v, e1, h3⟩ := atI_rp h2 e
      exact .inr ⟨_, _, _, _, rfl, rfl, h1.sq, e1, q _ H grown_refl h3⟩
  · cases hy
    cases hx with
    | fz h1 =>
      obtain ⟨n, e1, e2⟩ := Option.map_eq_some_iff.mp e
      cases e2
      exact .inl ⟨_, _, _, .int n, rfl, rfl, h1.sq, by rw [atI_map, e1]; rfl, q _ H grown_refl (.int _)⟩
  · cases e
end
end PV

namespace PV
open PySem PySem.Spec PyProof.Rows L2

/-! ### built-in functions on data -/
def dLen : List D → Option D
  | [.lst xs] => some (.int xs.length)
  | [.tup xs] => some (.int xs.length)
  | [.fz xs] => some (.int xs.length)
  | [.str x] => if x.length ≤ 100000 then some (.int x.length) else none
  | _ => none
def dAbs : List D → Option D
  | [.int i] => some (.int (if i < 0 then -i else i))
  | _ => none
def dMin : List D → Option D
  | [.int i, .int j] => some (.int (if j < i then j else i))
  | _ => none
def dMax : List D → Option D
  | [.int i, .int j] => some (.int (if j > i then j else i))
  | _ => none
def dInt : List D → Option D
  | [.int i] => some (.int i)
  | [.bl k] => some (.int (if k then 1 else 0))
  | _ => none
def ints? : List D → Option (List Int)
  | [] => some []
  | .int i :: ds => (ints? ds).map (i :: ·)
  | _ :: _ => none
def bls? : List D → Option (List Bool)
  | [] => some []
  | .bl i :: ds => (bls? ds).map (i :: ·)
  | _ :: _ => none
theorem ints?_ok : ∀ {ds : List D} {ns : List Int}, ints? ds = some ns → ds = ns.map D.int
  | [], _, h => by cases h; rfl
  | d :: ds, ns, h => by
    cases d <;> simp [ints?] at h
    obtain ⟨l, h1, h2⟩ := h
    subst h2
    rw [ints?_ok h1]; rfl
theorem bls?_ok : ∀ {ds : List D} {ns : List Bool}, bls? ds = some ns → ds = ns.map D.bl
  | [], _, h => by cases h; rfl
  | d :: ds, ns, h => by
    cases d <;> simp [bls?] at h
    obtain ⟨l, h1, h2⟩ := h
    subst h2
    rw [bls?_ok h1]; rfl
@[simp] theorem ints?_map : ∀ ns : List Int, ints? (ns.map D.int) = some ns
  | [] => rfl
  | n :: ns => by show (ints? (ns.map D.int)).map (n :: ·) = _; rw [ints?_map ns]; rfl
@[simp] theorem bls?_map : ∀ ns : List Bool, bls? (ns.map D.bl) = some ns
  | [] => rfl
  | n :: ns => by show (bls? (ns.map D.bl)).map (n :: ·) = _; rw [bls?_map ns]; rfl
def dSum : List D → Option D
  | [.lst xs] => (ints? xs).map fun ns => .int ns.sum
  | _ => none
def dAll : List D → Option D
  | [.lst xs] => (bls? xs).map fun bs => .bl (bs.all id)
  | _ => none
def dAny : List D → Option D
  | [.lst xs] => (bls? xs).map fun bs => .bl (bs.any id)
  | _ => none
def dDivmod : List D → Option D
  | [.int i, .int j] => if 0 < j ∧ j.natAbs.log2 < 9000 then some (.tup [.int (i / j), .int (i % j)]) else none
  | _ => none
def dTuple : List D → Option D
  | [.lst xs] => some (.tup xs)
  | [.tup xs] => some (.tup xs)
  | _ => none
def dList : List D → Option D
  | [.lst xs] => some (.lst xs)
  | [.tup xs] => some (.lst xs)
  | _ => none
def dGcd : List D → Option D
  | [.int i, .int j] => some (.int (Nat.gcd i.natAbs j.natAbs : Nat))
  | _ => none
/-- what is shown by repr -/
def okr (d : D) : Bool := okq 60 d && d.py.showable && decide (d.py.bulk ≤ 8000)
def dRepr : List D → Option D
  | [d] => if okr d = true then some (.str d.py.shown) else none
  | _ => none
def D.ty : D → Option String
  | .non => some "NoneType"
  | .bl _ => some "bool"
  | .int _ => some "int"
  | .str _ => some "str"
  | .lst _ => some "list"
  | .fz _ => some "list"
  | .tup _ => some "tuple"
  | .dic _ _ => some "dict"
  | .ins _ _ _ => none
def dIsi (T : String) (d : D) : Option D := (d.ty.bind fun t => kitB t T).map .bl

section
variable {X : Cx} {m : Addr → Prop} {K : PySem.W.Frag} {g : Str → Option Value} {H : Hp}
theorem rp1 {d : D} {vs : List V} (h : RpA m K g H vs [d]) : ∃ v, vs = [v] ∧ Rp m K g H v d := by
  cases h with
  | cons h1 h2 => cases h2; exact ⟨_, rfl, h1⟩
theorem rp2 {d e : D} {vs : List V} (h : RpA m K g H vs [d, e]) : ∃ v w, vs = [v, w] ∧ Rp m K g H v d ∧ Rp m K g H w e := by
  cases h with
  | cons h1 h2 =>
    obtain ⟨w, rfl, h3⟩ := rp1 h2
    exact ⟨_, w, rfl, h1, h3⟩
def rLenA (K : PySem.W.Frag) : List V → Hp → VK → Prop := fun xs H Q => (∃ p ys, xs = [.ref p] ∧ (SqL K H p ys ∨ SqT K H p ys) ∧ Q (.int ys.length) H) ∨ (∃ z, xs = [.str z] ∧ z.length ≤ sizeLine ∧ Q (.int z.length) H)
theorem call_lenA : CallR X (.builtin "len") (rLenA X.K) := call_len_seq.or call_len_str
theorem len_d : CallD X (rLenA X.K) dLen := by
  intro m H vs ds dz h e hm Q q
  unfold dLen at e
  split at e
  · cases e
    obtain ⟨v, rfl, h1⟩ := rp1 h
    cases h1 with
    | lst h2 h3 => exact .inl ⟨_, _, rfl, .inl h2.sq, by rw [h3.length]; exact q _ H grown_refl (.int _)⟩
  · cases e
    obtain ⟨v, rfl, h1⟩ := rp1 h
    cases h1 with
    | tup h2 h3 => exact .inl ⟨_, _, rfl, .inr h2.sq, by rw [h3.length]; exact q _ H grown_refl (.int _)⟩
  · cases e
    obtain ⟨v, rfl, h1⟩ := rp1 h
    cases h1 with
    | fz h2 => exact .inl ⟨_, _, rfl, .inl h2.sq, by rw [List.length_map]; exact q _ H grown_refl (.int _)⟩
  · split at e
    · cases e
      rename_i hl
      obtain ⟨v, rfl, h1⟩ := rp1 h
      cases h1
      exact .inr ⟨_, rfl, sz_le hl, q _ H grown_refl (.int _)⟩
    · cases e
  · cases e
theorem abs_d : CallD X (fun xs H Q => ∃ i, xs = [.int i] ∧ Q (.int (if i < 0 then -i else i)) H) dAbs := by
  intro m H vs ds dz h e hm Q q
  unfold dAbs at e
  split at e
  · cases e
    obtain ⟨v, rfl, h1⟩ := rp1 h
    cases h1
    exact ⟨_, rfl, q _ H grown_refl (.int _)⟩
  · cases e
theorem min_d : CallD X (fun xs H Q => ∃ i j, xs = [.int i, .int j] ∧ Q (.int (if j < i then j else i)) H) dMin := by
  intro m H vs ds dz h e hm Q q
  unfold dMin at e
  split at e
  · cases e
    obtain ⟨v, w, rfl, h1, h2⟩ := rp2 h
    cases h1; cases h2
    exact ⟨_, _, rfl, q _ H grown_refl (.int _)⟩
  · cases e
theorem max_d : CallD X (fun xs H Q => ∃ i j, xs = [.int i, .int j] ∧ Q (.int (if j > i then j else i)) H) dMax := by
  intro m H vs ds dz h e hm Q q
  unfold dMax at e
  split at e
  · cases e
    obtain ⟨v, w, rfl, h1, h2⟩ := rp2 h
    cases h1; cases h2
    exact ⟨_, _, rfl, q _ H grown_refl (.int _)⟩
  · cases e
theorem int_d : CallD X (fun xs H Q => (∃ i, xs = [.int i] ∧ Q (.int i) H) ∨ ∃ k, xs = [.bl k] ∧ Q (.int (if k then 1 else 0)) H) dInt := by
  intro m H vs ds dz h e hm Q q
  unfold dInt at e
  split at e
  · cases e
    obtain ⟨v, rfl, h1⟩ := rp1 h
    cases h1
    exact .inl ⟨_, rfl, q _ H grown_refl (.int _)⟩
  · cases e
    obtain ⟨v, rfl, h1⟩ := rp1 h
    cases h1
    exact .inr ⟨_, rfl, q _ H grown_refl (.int _)⟩
  · cases e
theorem sum_d : CallD X (rSum X.K) dSum := by
  intro m H vs ds dz h e hm Q q
  unfold dSum at e
  split at e
  · obtain ⟨ns, e1, e2⟩ := Option.map_eq_some_iff.mp e
    cases e2
    rw [ints?_ok e1] at h
    obtain ⟨v, rfl, h1⟩ := rp1 h
    cases h1 with
    | lst h2 h3 =>
      have h4 := h3.ints
      subst h4
      exact ⟨_, _, rfl, h2.sq, q _ H grown_refl (.int _)⟩
  · cases e
theorem all_d : CallD X (rAll X.K) dAll := by
  intro m H vs ds dz h e hm Q q
  unfold dAll at e
  split at e
  · obtain ⟨ns, e1, e2⟩ := Option.map_eq_some_iff.mp e
    cases e2
    rw [bls?_ok e1] at h
    obtain ⟨v, rfl, h1⟩ := rp1 h
    cases h1 with
    | lst h2 h3 =>
      have h4 := h3.bls
      subst h4
      exact ⟨_, _, rfl, h2.sq, q _ H grown_refl (.bl _)⟩
  · cases e
theorem any_d : CallD X (rAny X.K) dAny := by
  intro m H vs ds dz h e hm Q q
  unfold dAny at e
  split at e
  · obtain ⟨ns, e1, e2⟩ := Option.map_eq_some_iff.mp e
    cases e2
    rw [bls?_ok e1] at h
    obtain ⟨v, rfl, h1⟩ := rp1 h
    cases h1 with
    | lst h2 h3 =>
      have h4 := h3.bls
      subst h4
      exact ⟨_, _, rfl, h2.sq, q _ H grown_refl (.bl _)⟩
  · cases e
theorem divmod_d : CallD X (fun xs H Q => ∃ i j, xs = [.int i, .int j] ∧ CDivP i j ∧ ∀ p, H p = none → Q (.ref p) (upd H p (.tup [.int (i / j), .int (i % j)]))) dDivmod := by
  intro m H vs ds dz h e hm Q q
  unfold dDivmod at e
  split at e
  · split at e
    · cases e
      rename_i hl
      obtain ⟨v, w, rfl, h1, h2⟩ := rp2 h
      cases h1; cases h2
      exact ⟨_, _, rfl, ⟨hl.1, PyProof.noPylong_of_log2 hl.2⟩, fun p hp => q _ _ (keep_new hp) (.tup (.inl ⟨hm p hp, upd_same⟩) (.cons (.int _) (.cons (.int _) .nil)))⟩
    · cases e
  · cases e
theorem tuple_d : CallD X (fun xs H Q => ∃ p ys, xs = [.ref p] ∧ ((SqL X.K H p ys ∧ ∀ l, H l = none → Q (.ref l) (upd H l (.tup ys))) ∨ (SqT X.K H p ys ∧ Q (.ref p) H))) dTuple := by
  intro m H vs ds dz h e hm Q q
  unfold dTuple at e
  split at e
  · cases e
    obtain ⟨v, rfl, h1⟩ := rp1 h
    cases h1 with
    | lst h2 h3 => exact ⟨_, _, rfl, .inl ⟨h2.sq, fun p hp => q _ _ (keep_new hp) (.tup (.inl ⟨hm p hp, upd_same⟩) (rpA_new h3 hp))⟩⟩
  · cases e
    obtain ⟨v, rfl, h1⟩ := rp1 h
    cases h1 with
    | tup h2 h3 => exact ⟨_, _, rfl, .inr ⟨h2.sq, q _ H grown_refl (.tup h2 h3)⟩⟩
  · cases e
theorem list_d : CallD X (fun xs H Q => ∃ p ys, xs = [.ref p] ∧ (SqL X.K H p ys ∨ SqT X.K H p ys) ∧ ∀ l, H l = none → Q (.ref l) (upd H l (.lst ys))) dList := by
  intro m H vs ds dz h e hm Q q
  unfold dList at e
  split at e
  · cases e
    obtain ⟨v, rfl, h1⟩ := rp1 h
    cases h1 with
    | lst h2 h3 => exact ⟨_, _, rfl, .inl h2.sq, fun p hp => q _ _ (keep_new hp) (.lst ⟨hm p hp, upd_same⟩ (rpA_new h3 hp))⟩
  · cases e
    obtain ⟨v, rfl, h1⟩ := rp1 h
    cases h1 with
    | tup h2 h3 => exact ⟨_, _, rfl, .inr h2.sq, fun p hp => q _ _ (keep_new hp) (.lst ⟨hm p hp, upd_same⟩ (rpA_new h3 hp))⟩
  · cases e
theorem gcd_d : CallD X rGcd dGcd := by
  intro m H vs ds dz h e hm Q q
  unfold dGcd at e
  split at e
  · cases e
    obtain ⟨v, w, rfl, h1, h2⟩ := rp2 h
    cases h1; cases h2
    exact ⟨_, _, rfl, q _ H grown_refl (.int _)⟩
  · cases e
/-! repr -/
mutual
theorem short_of : ∀ d : PyData, d.canLay0 = true → d.showable = true → d.leavesShort 2000 = true
  | .none, _, _ => rfl
  | .bool b, _, _ => rfl
  | .int i, _, h => by
    have h' : i.natAbs.log2 < 1920 := by simpa only [PyData.showable, decide_eq_true_eq] using h
    have e := int_text_length_le (a := i) (k := 1920) (by decide) h'
    simp only [PyData.leavesShort, decide_eq_true_eq]
    rw [show (PyData.shown (.int i)) = Str.ofString (toString i) from rfl, PySem.ofString_length]
    omega
  | .str x, h, _ => by
    have h' : PyData.strOk x = true := by simpa [PyData.canLay0] using h
    unfold PyData.strOk at h'
    simp only [PyData.leavesShort, List.all_eq_true, decide_eq_true_eq]
    intro c hc
    rw [Array.all_eq_true'] at h'
    have q := h' c (by simpa using hc)
    have q' : c < 0x110000 := by simpa using q
    omega
  | .list xs, h, h2 => by
    simp only [PyData.leavesShort]
    exact shortA_of xs (by simpa [PyData.canLay0] using h) (by simpa [PyData.showable] using h2)
  | .tuple xs, h, h2 => by
    simp only [PyData.leavesShort]
    exact shortA_of xs (by simpa [PyData.canLay0] using h) (by simpa [PyData.showable] using h2)
  | .dict kvs, h, _ => by simp [PyData.canLay0] at h
theorem shortA_of : ∀ ds : List PyData, PyData.canLayAll0 ds = true → PyData.showableAll ds = true → PyData.leavesShortAll 2000 ds = true
  | [], _, _ => by simp [PyData.leavesShortAll]
  | d :: ds, h, h2 => by
    have h' : d.canLay0 = true ∧ PyData.canLayAll0 ds = true := by simpa [PyData.canLayAll0] using h
    have h2' : d.showable = true ∧ PyData.showableAll ds = true := by simpa [PyData.showableAll] using h2
    simp only [PyData.leavesShortAll, short_of d h'.1 h2'.1, shortA_of ds h'.2 h2'.2, Bool.and_self]
end
def rRepr (K : PySem.W.Frag) : List V → Hp → VK → Prop := fun xs H Q => ∃ x d, xs = [x] ∧ Dp K H x d ∧ d.canLay0 = true ∧ d.depth ≤ 60 ∧ d.showable = true ∧ d.bulk ≤ 8000 ∧ Q (.str d.shown) H
theorem call_reprD {k : Nat} (hr : Room k X.A) (hg : X.A.guards = some []) : CallR X (.builtin "repr") (rRepr X.K) := by
  intro pins s σ H xs us Q I r h
  obtain ⟨x, d, rfl, hd, hc, hdp, hsh, hb, q⟩ := h
  obtain ⟨u, rfl, rx⟩ := vals1 r
  obtain ⟨as, rd⟩ := Dp.reads I d x u hd rx
  have hz : d.shown.length ≤ sizeLine := by
    have e := PyData.shown_le_bulk 2000 (by decide) d (short_of d hc hsh)
    have e2 : (2000 + 2) * d.bulk ≤ 2002 * 8000 := Nat.mul_le_mul (by decide) hb
    rw [sizeLine_eq]
    omega
  have hnd := PyData.hasDict_of_canLay d hc
  have hun := hr.un
  cases hd with
  | non => cases rx; exact PySem.P.repr_of_none ⟨.str "None", H, I.tok _, ⟨_, rfl⟩, q⟩
  | bl b => cases rx; exact PySem.P.repr_of_bool ⟨.str _, H, I.tok _, ⟨_, rfl⟩, by cases b <;> exact q⟩
  | int i =>
    obtain ⟨t, rfl⟩ := rx
    have h' : i.natAbs.log2 < 1920 := by simpa only [PyData.showable, decide_eq_true_eq] using hsh
    exact PySem.P.repr_of_int h' ⟨.str _, H, I.tok _, ⟨_, rfl⟩, q⟩
  | str y =>
    obtain ⟨t, rfl⟩ := rx
    exact PySem.P.repr_of_str ⟨.str _, H, I.tok _, ⟨_, rfl⟩, q⟩ hz
  | lst h1 h2 =>
    cases rx
    exact repr_of_reads' rd hsh (PyData.noDict_hsm hnd) hg (by omega) (fun _ _ e => e) (fun h' u tk hk => ⟨.str _, H, I.kept (t' := tk) hk, ⟨_, rfl⟩, q⟩) hz
  | tup h1 h2 =>
    cases rx
    exact repr_of_reads' rd hsh (PyData.noDict_hsm hnd) hg (by omega) (fun _ _ e => e) (fun h' u tk hk => ⟨.str _, H, I.kept (t' := tk) hk, ⟨_, rfl⟩, q⟩) hz
theorem repr_d : CallD X (rRepr X.K) dRepr := by
  intro m H vs ds dz h e hm Q q
  unfold dRepr at e
  split at e
  · split at e
    · cases e
      rename_i d hl
      obtain ⟨v, rfl, h1⟩ := rp1 h
      unfold okr at hl
      rw [Bool.and_eq_true, Bool.and_eq_true] at hl
      obtain ⟨a, b, c⟩ := okq_dp d 60 v h1 hl.1.1
      exact ⟨v, d.py, rfl, a, b, c, hl.1.2, of_decide_eq_true hl.2, q _ H grown_refl (.str _)⟩
    · cases e
  · cases e
/-! isinstance -/
theorem isi_d {T : String} {d dz : D} {v : V} (h : Rp m K g H v d) (e : dIsi T d = some dz) : ∃ t b, TyX K H v t ∧ PySem.W.kitOne K t (.type T) = some b ∧ dz = .bl b := by
  unfold dIsi at e
  obtain ⟨b, e1, e2⟩ := Option.map_eq_some_iff.mp e
  obtain ⟨t, e3, e4⟩ := Option.bind_eq_some_iff.mp e1
  refine ⟨.type t, b, ?_, kit_ty e4, e2.symm⟩
  cases h <;> simp [D.ty] at e3 <;> subst e3
  · exact .base .non
  · exact .base (.bl _)
  · exact .base (.int _)
  · exact .base (.str _)
  · rename_i h1 h2; exact .base (.lst h1.2)
  · rename_i h1
    rcases h1 with ⟨_, o, h1⟩ | ⟨o, its, n, h1, h2, _⟩
    · exact .base (.frz h1)
    · exact .kList h1 h2
  · rename_i h1 h2
    rcases h1 with ⟨_, h1⟩ | ⟨o, its, n, h1, h2, _⟩
    · exact .base (.tup h1)
    · exact .kTuple h1 h2
  · rename_i h1 h2; exact .base (.dK h1)
variable {W : WX} {fx : List Nat} {a b e : Expr} {fa fb : M D} {pos p p2 : Pos} {x x2 : Str} {T : String}
theorem e_isi (hg : Gl X "isinstance") (hm : X.mg "isinstance" = none) (ha : EV X W fx a fa) (hg2 : Gl X x2) (hm2 : X.mg x2 = none) (hv2 : bootBuiltins x2 = some (.type T)) (hn2 : x2 ≠ "__name__" := by decide) (hd2 : (x2 == ("__debug__" : Str)) = false := by decide)
    (hs1 : starEach [a, .Name x2 p2] X.env = (false, eval a X.env) :: starEach [.Name x2 p2] X.env := by rfl) (hs2 : starEach [.Name x2 p2] X.env = (false, eval (.Name x2 p2) X.env) :: starEach [] X.env := by rfl) (hpl : (backTo pos (starEach [.Name x2 p2] X.env)).any (·.1) = false := by rfl) :
    EV X W fx (.Call (.Name "isinstance" p) [a, .Name x2 p2] [] pos) (mUn (dIsi T) fa) := by
  refine PE.imp (pe_callB call_isi hg hm PyProof.Rows.boot_isinstance (pa_cons ha (pa_cons (pe_bltn (v := .ty T) hg2 hm2 hv2 rfl hn2 hd2) pa_nil hs2) hs1) (by decide) (by decide) hs1 hpl) fun σ H Q ⟨m₀, ρ, rr, w⟩ => ?_
  refine tE.first rr w fun dx ρ1 v H1 r1 h1 s1 w1 => ?_
  obtain ⟨dz, ez, w3⟩ := w1.lift
  obtain ⟨t, b, h2, h3, rfl⟩ := isi_d h1 ez
  exact ⟨v, .ty T, t, .type T, b, rfl, .ty T, h2, h3, w3 _ H1 r1 (.bl b) s1⟩
/-! slices -/
def cutD (ds : List D) (lo hi : Option Int) : List D := (ds.drop (HT.sIx ds.length 0 lo)).take (HT.sIx ds.length ds.length hi - HT.sIx ds.length 0 lo)
def dSl (lo hi : Option Int) : D → Option D
  | .lst xs => some (.lst (cutD xs lo hi))
  | .tup xs => some (.tup (cutD xs lo hi))
  | .fz ns => some (.lst (cutD (ns.map .int) lo hi))
  | _ => none
theorem cut_rp {xs : List V} {ds : List D} (h : RpA m K g H xs ds) (lo hi : Option Int) : RpA m K g H (cutV xs lo hi) (cutD ds lo hi) := by
  unfold cutV cutD
  rw [h.length]
  exact (h.drop _).take _
theorem cutD_all {ds : List D} {lo hi : Option Int} (h : HT.sIx ds.length 0 lo = 0 ∧ HT.sIx ds.length ds.length hi = ds.length) : cutD ds lo hi = ds := by
  unfold cutD
  rw [h.1, h.2]
  simp
def oNone : M (Option Int) := M.ret none
def oSome (fa : M D) : M (Option Int) := M.bind fa fun d => lift (match d with
  | .int i => some (some i)
  | _ => none)
theorem o_none : OV X W fx none oNone := PO.imp po_none fun σ H Q ⟨m₀, ρ, rr, w⟩ => w H rr .refl
theorem o_some (ha : EV X W fx e fa) : OV X W fx (some e) (oSome fa) := by
  refine PO.imp (po_some ha) fun σ H Q ⟨m₀, ρ, rr, w⟩ => ?_
  refine tE.first rr w fun dx ρ1 v H1 r1 h1 s1 w1 => ?_
  obtain ⟨o, ez, w3⟩ := w1.lift
  split at ez
  · cases ez; cases h1
    exact ⟨_, rfl, w3 H1 r1 s1⟩
  · cases ez
def mSl (fa : M D) (fl fh : M (Option Int)) : M D := M.bind fa fun d => M.bind fl fun lo => M.bind fh fun hi => lift (dSl lo hi d)
theorem e_slice {lo hi : Option Expr} {fl fh : M (Option Int)} (ha : EV X W fx e fa) (hl : OV X W fx lo fl) (hh : OV X W fx hi fh) : EV X W fx (.Subscript e (.Slice lo hi none p2) pos) (mSl fa fl fh) := by
  refine PE.imp (pe_slice (sl_list.or sl_tupA) ha hl hh) fun σ H Q ⟨m₀, ρ, rr, w⟩ => ?_
  refine tE.first rr w fun dx ρ1 v H1 r1 h1 s1 w1 => tO.first r1 w1 fun l ρ2 H2 r2 s2 w2 => tO.first r2 w2 fun u ρ3 H3 r3 s3 w3 => ?_
  obtain ⟨dz, ez, w4⟩ := w3.lift
  have h3 := (s2.trans s3).rp r1 h1
  have st := s1.trans (s2.trans s3)
  unfold dSl at ez
  split at ez
  · cases ez
    cases h3 with
    | lst h4 h5 => exact .inl ⟨_, _, rfl, h4.sq, fun p hp => w4 _ _ (r3.add hp).drop (.lst ⟨r3.new_out hp, upd_same⟩ (rpA_new (cut_rp h5 l u) hp)) (st.trans (.grown (keep_new hp)))⟩
  · cases ez
    cases h3 with
    | tup h4 h5 =>
      refine .inr ⟨_, _, rfl, h4.sq, fun z => ?_, fun z p hp => ?_⟩
      · rw [h5.length] at z
        rw [cutD_all z] at w4
        exact w4 _ H3 r3 (.tup h4 h5) st
      · exact w4 _ _ (r3.add hp).drop (.tup (.inl ⟨r3.new_out hp, upd_same⟩) (rpA_new (cut_rp h5 l u) hp)) (st.trans (.grown (keep_new hp)))
  · cases ez
    cases h3 with
    | fz h4 => exact .inl ⟨_, _, rfl, h4.sq, fun p hp => w4 _ _ (r3.add hp).drop (.lst ⟨r3.new_out hp, upd_same⟩ (rpA_new (cut_rp (RpA.of_ints _) l u) hp)) (st.trans (.grown (keep_new hp)))⟩
  · cases ez
theorem e_glob {v : V} {u : Value} {d : D} (hg : Gl X x) (hm : X.mg x = some u) (r : RelV v u) (h : ∀ m H, Rp m X.K X.mg H v d) (hd : (x == ("__debug__" : Str)) = false := by decide) : EV X W fx (.Name x pos) (M.ret d) := e_c (pe_glob hg hm r hd) h
end
end PV

namespace PV
open PySem PySem.Spec PyProof.Rows L2

/-! ### statements -/
inductive Fl where
  | nx | bk | ct | rt (d : D) | ro (ds : List D)
def EndOk (c : Ct) (m₀ : Addr → Prop) (σ : L2.St) (ρ : En) (H : Hp) (E : Ends) (ρ' : En) : Fl → Prop
  | .nx => ∀ σ' H', Rel m₀ c.K c.g H' σ' ρ' → Stp σ ρ H σ' ρ' H' → Fx c.fx σ σ' → E.nx σ' H'
  | .bk => ∀ σ' H', Rel m₀ c.K c.g H' σ' ρ' → Stp σ ρ H σ' ρ' H' → Fx c.fx σ σ' → E.bk σ' H'
  | .ct => ∀ σ' H', Rel m₀ c.K c.g H' σ' ρ' → Stp σ ρ H σ' ρ' H' → Fx c.fx σ σ' → E.ct σ' H'
  | .rt d => ∀ v σ' H', Rel m₀ c.K c.g H' σ' ρ' → Rp (mm m₀ σ' ρ') c.K c.g H' v d → Stp σ ρ H σ' ρ' H' → Fx c.fx σ σ' → E.rt v H'
  | .ro ds => ∀ p vs σ' H', Rel (mp m₀ p) c.K c.g H' σ' ρ' → H p = none → H' p = some (.lst vs) → RpA (mm (mp m₀ p) σ' ρ') c.K c.g H' vs ds → Stp σ ρ H σ' ρ' H' → Fx c.fx σ σ' → E.rt (.ref p) H'
def tS (c : Ct) (f : M Fl) : TS := fun E σ H => ∃ m₀ ρ, Rel m₀ c.K c.g H σ ρ ∧ Want c m₀ σ ρ H (fun fl ρ' => EndOk c m₀ σ ρ H E ρ' fl) (f ρ)
abbrev SV (X : Cx) (W : WX) (fx : List Nat) (s : Stmt) (f : M Fl) : Prop := PS X s (tS (ct X W fx) f)
abbrev BV (X : Cx) (W : WX) (fx : List Nat) (s : List Stmt) (f : M Fl) : Prop := PSs X s (tS (ct X W fx) f)
section
variable {c : Ct} {m₀ : Addr → Prop} {σ σ1 : L2.St} {ρ ρ1 ρ' : En} {H H1 : Hp} {E E' : Ends}
theorem EndOk.later {fl : Fl} (h : EndOk c m₀ σ ρ H E ρ' fl) (s : Stp σ ρ H σ1 ρ1 H1) (f : Fx c.fx σ σ1) : EndOk c m₀ σ1 ρ1 H1 E ρ' fl := by
  cases fl with
  | nx => exact fun σ' H' r' s' f' => h σ' H' r' (s.trans s') (f.trans f')
  | bk => exact fun σ' H' r' s' f' => h σ' H' r' (s.trans s') (f.trans f')
  | ct => exact fun σ' H' r' s' f' => h σ' H' r' (s.trans s') (f.trans f')
  | rt d => exact fun v σ' H' r' h' s' f' => h v σ' H' r' h' (s.trans s') (f.trans f')
  | ro ds => exact fun p vs σ' H' r' n' e' h' s' f' => h p vs σ' H' r' (s.back n') e' h' (s.trans s') (f.trans f')
/-- a statement's reading from what is left to do -/
theorem tS.of {f : M Fl} (r : Rel m₀ c.K c.g H1 σ1 ρ1) (s : Stp σ ρ H σ1 ρ1 H1) (fx : Fx c.fx σ σ1) (w : Want c m₀ σ1 ρ1 H1 (fun fl ρ' => EndOk c m₀ σ ρ H E ρ' fl) (f ρ1)) : tS c f E σ1 H1 :=
  ⟨m₀, ρ1, r, w.mono fun fl ρ' _ h => h.later s fx⟩
theorem fx_set {fx : List Nat} {i : Nat} {x : Option V} (h : i ∉ fx) : Fx fx σ (σ.set i x) := fun j hj => by
  rw [List.getElem?_set_ne]
  rintro rfl
  exact h hj
end
/-! mirrors of statements -/
def mSeq (f g : M Fl) : M Fl := M.bind f fun fl => match fl with
  | .nx => g
  | fl => M.ret fl
def put (i : Nat) (s : Sl) : M Unit := fun ρ => if i < ρ.length then .ok () (ρ.set i s) else .no
def mSet (i : Nat) (f : M D) : M Fl := M.bind f fun d => M.bind (put i (.val d)) fun _ => M.ret .nx
def mOwn (i : Nat) (f : M (List D)) : M Fl := M.bind f fun ds => M.bind (put i (.own ds)) fun _ => M.ret .nx
def mRet (f : M D) : M Fl := M.bind f fun d => M.ret (.rt d)
def mRetO (f : M (List D)) : M Fl := M.bind f fun d => M.ret (.ro d)
def mExpr (f : M D) : M Fl := M.bind f fun _ => M.ret .nx
def mIfS (t : M Bool) (f g : M Fl) : M Fl := M.bind t fun c => if c = true then f else g
def mNo : M Fl := fun _ => .no
section
variable {X : Cx} {W : WX} {fx : List Nat} {a b e : Expr} {s : Stmt} {rest sa sb : List Stmt} {f g : M Fl} {fe : M D} {pos pos' : Pos} {i : Nat} {x : Str}
theorem b_nil : BV X W fx [] (M.ret .nx) := PSs.imp pss_nil fun E σ H ⟨m₀, ρ, rr, w⟩ => w σ H rr .refl .refl
theorem b_cons (h1 : SV X W fx s f) (h2 : BV X W fx rest g) : BV X W fx (s :: rest) (mSeq f g) := by
  refine PSs.imp (pss_cons h1 h2) fun E σ H ⟨m₀, ρ, rr, w⟩ => ⟨m₀, ρ, rr, ?_⟩
  refine w.bind.mono fun fl ρ1 _ q => ?_
  cases fl with
  | nx => exact fun σ1 H1 r1 s1 f1 => tS.of r1 s1 f1 (q.later s1 f1)
  | bk => exact q
  | ct => exact q
  | rt d => exact q
  | ro ds => exact q
theorem b_one (h1 : SV X W fx s f) : BV X W fx [s] f := PSs.imp (pss_one h1) fun _ _ _ h => h
theorem s_pass : SV X W fx (.Pass pos) (M.ret .nx) := PS.imp ps_pass fun E σ H ⟨m₀, ρ, rr, w⟩ => w σ H rr .refl .refl
theorem s_break : SV X W fx (.Break pos) (M.ret .bk) := PS.imp ps_break fun E σ H ⟨m₀, ρ, rr, w⟩ => w σ H rr .refl .refl
theorem s_continue : SV X W fx (.Continue pos) (M.ret .ct) := PS.imp ps_continue fun E σ H ⟨m₀, ρ, rr, w⟩ => w σ H rr .refl .refl
theorem s_no : SV X W fx s mNo := PS.imp ps_never fun E σ H ⟨m₀, ρ, rr, w⟩ => w.elim
theorem put_ok {c : Ct} {m₀ : Addr → Prop} {σ : L2.St} {ρ : En} {H : Hp} {β : Type} {S : β → En → Prop} {sl : Sl} {k : Unit → M β} (w : Want c m₀ σ ρ H S (M.bind (put i sl) k ρ)) : i < ρ.length ∧ Want c m₀ σ ρ H S (k () (ρ.set i sl)) := by
  have w' : Want c m₀ σ ρ H S ((if i < ρ.length then R.ok () (ρ.set i sl) else R.no).andThen k) := w
  by_cases h : i < ρ.length
  · rw [if_pos h] at w'; exact ⟨h, w'⟩
  · rw [if_neg h] at w'; exact w'.elim
theorem set_core {σ : L2.St} {H : Hp} {E : Ends} (hfx : i ∉ fx) (h : tS (ct X W fx) (mSet i fe) E σ H) : tAsg (tE (ct X W fx) fe) (gName i) E σ H := by
  obtain ⟨m₀, ρ, rr, w⟩ := h
  refine tE.first rr w fun d ρ1 v H1 r1 h1 s1 w1 => ?_
  obtain ⟨hi, w2⟩ := put_ok w1
  exact w2 _ H1 (r1.put hi h1) (s1.trans .set) (fx_set hfx)
theorem own_core {σ : L2.St} {H : Hp} {E : Ends} {fl : M (List D)} (hfx : i ∉ fx) (h : tS (ct X W fx) (mOwn i fl) E σ H) : tAsg (tN (ct X W fx) fl) (gName i) E σ H := by
  obtain ⟨m₀, ρ, rr, w⟩ := h
  refine tN.first rr w fun ds ρ1 p vs H1 r1 n1 e1 h1 s1 w1 => ?_
  obtain ⟨hi, w2⟩ := put_ok w1
  exact w2 _ H1 (r1.putOwn (fun z => rr.dom p z n1) hi e1 h1) (s1.putOwn n1) (fx_set hfx)
theorem s_set (i : Nat) {x : Str} (hN : X.N.Nodup) (he : EV X W fx e fe) (hi : X.N[i]? = some x := by rfl) (hx : Loc X.env.scope x := by first | exact .inl rfl | exact .inr rfl) (hfx : i ∉ fx := by decide) (hs : swapsWith e (some (.Name x pos')) pos.line X.env = pure false := by rfl)
    (hf : X.fn x = true ∨ X.env.scope.names.lookup x = some .local := by first | exact .inl rfl | exact .inr rfl) : SV X W fx (.Assign [.Name x pos'] e pos) (mSet i fe) :=
  PS.imp (ps_set hN hi hx he hs hf) fun _ _ _ h => set_core hfx h
theorem s_own (i : Nat) {x : Str} {fl : M (List D)} (hN : X.N.Nodup) (he : NV X W fx e fl) (hi : X.N[i]? = some x := by rfl) (hx : Loc X.env.scope x := by first | exact .inl rfl | exact .inr rfl) (hfx : i ∉ fx := by decide) (hs : swapsWith e (some (.Name x pos')) pos.line X.env = pure false := by rfl)
    (hf : X.fn x = true ∨ X.env.scope.names.lookup x = some .local := by first | exact .inl rfl | exact .inr rfl) : SV X W fx (.Assign [.Name x pos'] e pos) (mOwn i fl) :=
  PS.imp (ps_set hN hi hx he hs hf) fun _ _ _ h => own_core hfx h
theorem s_ret (he : EV X W fx e fe) : SV X W fx (.Return (some e) pos) (mRet fe) := by
  refine PS.imp (ps_ret he) fun E σ H ⟨m₀, ρ, rr, w⟩ => ?_
  exact tE.first rr w fun d ρ1 v H1 r1 h1 s1 w1 => w1 v σ H1 r1 h1 s1 .refl
theorem s_retO {fl : M (List D)} (he : NV X W fx e fl) : SV X W fx (.Return (some e) pos) (mRetO fl) := by
  refine PS.imp (ps_ret he) fun E σ H ⟨m₀, ρ, rr, w⟩ => ?_
  exact tN.first rr w fun d ρ1 p vs H1 r1 n1 e1 h1 s1 w1 => w1 p vs σ H1 r1 n1 e1 h1 s1 .refl
theorem s_retN : SV X W fx (.Return none pos) (M.ret (.rt .non)) := PS.imp ps_retN fun E σ H ⟨m₀, ρ, rr, w⟩ => w .non σ H rr .non .refl .refl
theorem s_expr (he : EV X W fx e fe) (hs : swapsWith e none pos.line X.env = pure false := by rfl) : SV X W fx (.Expr e pos) (mExpr fe) := by
  refine PS.imp (ps_expr he hs) fun E σ H ⟨m₀, ρ, rr, w⟩ => ?_
  exact tE.first rr w fun d ρ1 v H1 r1 h1 s1 w1 => w1 σ H1 r1 s1 .refl
theorem s_if {t : Expr} {ft : M Bool} (ht : TV X W fx t ft) (ha : BV X W fx sa f) (hb : BV X W fx sb g) : SV X W fx (.If t sa sb pos) (mIfS ft f g) := by
  refine PS.imp (ps_if ht ha hb) fun E σ H ⟨m₀, ρ, rr, w⟩ => ?_
  refine tT.first rr w fun c ρ1 H1 r1 s1 w1 => ?_
  cases c with
  | true => exact tS.of r1 s1 .refl w1
  | false => exact tS.of r1 s1 .refl w1
end

/-! ### targets -/
def tG (c : Ct) (f : D → M Unit) : TG := fun v σ H Q => ∃ m₀ ρ d, Rel m₀ c.K c.g H σ ρ ∧ Rp (mm m₀ σ ρ) c.K c.g H v d ∧ Want c m₀ σ ρ H (fun _ ρ' => ∀ σ' H', Rel m₀ c.K c.g H' σ' ρ' → Stp σ ρ H σ' ρ' H' → Fx c.fx σ σ' → Q σ' H') (f d ρ)
def tGs (c : Ct) (f : List D → M Unit) : TGs := fun vs σ H Q => ∃ m₀ ρ ds, Rel m₀ c.K c.g H σ ρ ∧ RpA (mm m₀ σ ρ) c.K c.g H vs ds ∧ Want c m₀ σ ρ H (fun _ ρ' => ∀ σ' H', Rel m₀ c.K c.g H' σ' ρ' → Stp σ ρ H σ' ρ' H' → Fx c.fx σ σ' → Q σ' H') (f ds ρ)
abbrev GV (X : Cx) (W : WX) (fx : List Nat) (e : Expr) (f : D → M Unit) : Prop := PG X e (tG (ct X W fx) f)
abbrev GsV (X : Cx) (W : WX) (fx : List Nat) (es : List Expr) (f : List D → M Unit) : Prop := PGs X es (tGs (ct X W fx) f)
theorem PG.imp {X : Cx} {e : Expr} {t t' : TG} (h : PG X e t) (i : ∀ v σ H Q, t' v σ H Q → t v σ H Q) : PG X e t' := ⟨fun pins s σ H v u Q I r w => h.run pins s σ H v u Q I r (i v σ H Q w)⟩
theorem PG.or {X : Cx} {e : Expr} {t t' : TG} (h : PG X e t) (h' : PG X e t') : PG X e (fun v σ H Q => t v σ H Q ∨ t' v σ H Q) := ⟨fun pins s σ H v u Q I r w => w.elim (h.run pins s σ H v u Q I r) (h'.run pins s σ H v u Q I r)⟩
theorem PGs.imp {X : Cx} {e : List Expr} {t t' : TGs} (h : PGs X e t) (i : ∀ v σ H Q, t' v σ H Q → t v σ H Q) : PGs X e t' := ⟨fun pins s σ H v u Q I r w => h.run pins s σ H v u Q I r (i v σ H Q w)⟩
def gN (i : Nat) (d : D) : M Unit := put i (.val d)
def gsNil : List D → M Unit
  | [] => M.ret ()
  | _ => fun _ => .no
def gsCons (f : D → M Unit) (g : List D → M Unit) : List D → M Unit
  | d :: ds => M.bind (f d) fun _ => g ds
  | _ => fun _ => .no
def gT (g : List D → M Unit) : D → M Unit
  | .tup ds => g ds
  | .lst ds => g ds
  | _ => fun _ => .no
section
variable {X : Cx} {W : WX} {fx : List Nat} {e : Expr} {es : List Expr} {fe : M D} {pos : Pos} {i : Nat} {f : D → M Unit} {g : List D → M Unit}
theorem g_name (i : Nat) {x : Str} (hN : X.N.Nodup) (hi : X.N[i]? = some x := by rfl) (hx : Loc X.env.scope x := by first | exact .inl rfl | exact .inr rfl) (hfx : i ∉ fx := by decide)
    (hf : X.fn x = true ∨ X.env.scope.names.lookup x = some .local := by first | exact .inl rfl | exact .inr rfl) : GV X W fx (.Name x pos) (gN i) := by
  refine PG.imp (pg_name hN hi hx hf) fun v σ H Q ⟨m₀, ρ, d, rr, h, w⟩ => ?_
  unfold gN put at w
  split at w
  · rename_i hl
    exact w _ H (rr.put hl h) .set (fx_set hfx)
  · exact w.elim
theorem gs_nil : GsV X W fx [] gsNil := by
  refine PGs.imp pgs_nil fun vs σ H Q ⟨m₀, ρ, ds, rr, h, w⟩ => ?_
  cases h with
  | nil => exact ⟨rfl, w σ H rr .refl .refl⟩
  | cons h1 h2 => exact w.elim
theorem gs_cons (h1 : GV X W fx e f) (h2 : GsV X W fx es g) (hs : (assignEach (e :: es) X.env).map (·.2) = assign e X.env :: (assignEach es X.env).map (·.2) := by rfl) : GsV X W fx (e :: es) (gsCons f g) := by
  refine PGs.imp (pgs_cons h1 h2 hs) fun vs σ H Q ⟨m₀, ρ, ds, rr, h, w⟩ => ?_
  cases h with
  | nil => exact w.elim
  | cons h3 h4 =>
    refine ⟨_, _, rfl, m₀, ρ, _, rr, h3, ?_⟩
    have w' : Want (ct X W fx) m₀ σ ρ H (fun _ ρ' => ∀ σ' H', Rel m₀ X.K X.mg H' σ' ρ' → Stp σ ρ H σ' ρ' H' → Fx fx σ σ' → Q σ' H') (M.bind (f _) (fun _ => g _) ρ) := w
    refine w'.bind.mono fun _ ρ1 _ w1 σ1 H1 r1 s1 f1 => ?_
    exact ⟨m₀, ρ1, _, r1, s1.rpA rr h4, (w1.later s1 f1).mono fun _ ρ2 _ q σ2 H2 r2 s2 f2 => q σ2 H2 r2 (s1.trans s2) (f1.trans f2)⟩
theorem g_tup {k n : Nat} (hc : X.calm = true) (h : GsV X W fx es g) (hn : (assignEach es X.env).length = n := by rfl) (hst : (assignEach es X.env).findIdx? (·.1) = none := by rfl) (hg : ∀ ds ρ, (∃ u ρ', g ds ρ = .ok u ρ') ∨ (∃ u ρ', g ds ρ = .er u ρ') → ds.length = n) : GV X W fx (.Tuple es k pos) (gT g) := by
  have key : ∀ {vs : List V} {ds : List D} {σ : L2.St} {H : Hp} {Q : L2.St → Hp → Prop} {m₀ : Addr → Prop} {ρ : En}, RpA (mm m₀ σ ρ) X.K X.mg H vs ds → Want (ct X W fx) m₀ σ ρ H (fun _ ρ' => ∀ σ' H', Rel m₀ X.K X.mg H' σ' ρ' → Stp σ ρ H σ' ρ' H' → Fx fx σ σ' → Q σ' H') (g ds ρ) → vs.length = n := fun {vs ds σ H Q m₀ ρ} h2 w' => by
    rw [h2.length]
    apply hg _ ρ
    revert w'
    cases g _ ρ with
    | no => exact fun w' => w'.elim
    | er y ρ' => exact fun _ => .inr ⟨_, _, rfl⟩
    | ok u ρ' => exact fun _ => .inl ⟨_, _, rfl⟩
  refine PG.imp (PG.or (pg_tup hc h hn hst) (pg_lst hc h hn hst)) fun v σ H Q ⟨m₀, ρ, d, rr, hd, w⟩ => ?_
  cases hd with
  | tup h1 h2 => exact .inl ⟨_, _, rfl, h1.sq, key h2 w, m₀, ρ, _, rr, h2, w⟩
  | lst h1 h2 => exact .inr ⟨_, _, rfl, h1.sq, key h2 w, m₀, ρ, _, rr, h2, w⟩
  | _ => exact w.elim
/-- so many targets -/
def Gn (g : List D → M Unit) (n : Nat) : Prop := ∀ ds ρ, (∃ u ρ', g ds ρ = .ok u ρ') ∨ (∃ u ρ', g ds ρ = .er u ρ') → ds.length = n
theorem gn_nil : Gn gsNil 0 := fun ds ρ h => by
  cases ds with
  | nil => rfl
  | cons d ds => rcases h with ⟨u, ρ', h⟩ | ⟨u, ρ', h⟩ <;> cases h
theorem gn_cons {n : Nat} (hf : ∀ d ρ x ρ', f d ρ ≠ .er x ρ') (h : Gn g n) : Gn (gsCons f g) (n + 1) := fun ds ρ h' => by
  cases ds with
  | nil => rcases h' with ⟨u, ρ', h'⟩ | ⟨u, ρ', h'⟩ <;> cases h'
  | cons d ds =>
    rw [List.length_cons]
    congr 1
    have e : gsCons f g (d :: ds) ρ = (f d ρ).andThen fun _ => g ds := rfl
    rw [e] at h'
    cases q : f d ρ with
    | no => rw [q] at h'; rcases h' with ⟨u, ρ', h'⟩ | ⟨u, ρ', h'⟩ <;> cases h'
    | er y ρ1 => exact absurd q (hf d ρ y ρ1)
    | ok u ρ1 => rw [q] at h'; exact h ds ρ1 h'
theorem gN_noer (i : Nat) : ∀ d ρ x ρ', gN i d ρ ≠ .er x ρ' := fun d ρ x ρ' h => by
  unfold gN put at h
  split at h <;> cases h
theorem gT_noer (h : ∀ ds ρ x ρ', g ds ρ ≠ .er x ρ') : ∀ d ρ x ρ', gT g d ρ ≠ .er x ρ' := fun d ρ x ρ' e => by
  cases d with
  | tup ds => exact h ds ρ x ρ' e
  | lst ds => exact h ds ρ x ρ' e
  | _ => cases e
theorem gsNil_noer : ∀ ds ρ x ρ', gsNil ds ρ ≠ .er x ρ' := fun ds ρ x ρ' e => by
  cases ds <;> cases e
theorem gsCons_noer (h1 : ∀ d ρ x ρ', f d ρ ≠ .er x ρ') (h2 : ∀ ds ρ x ρ', g ds ρ ≠ .er x ρ') : ∀ ds ρ x ρ', gsCons f g ds ρ ≠ .er x ρ' := fun ds ρ x ρ' e => by
  cases ds with
  | nil => cases e
  | cons d ds =>
    have e' : (f d ρ).andThen (fun _ => g ds) = .er x ρ' := e
    cases q : f d ρ with
    | no => rw [q] at e'; cases e'
    | er y ρ1 => exact h1 d ρ y ρ1 q
    | ok u ρ1 => rw [q] at e'; exact h2 ds ρ1 x ρ' e'
def mAsg (fe : M D) (f : D → M Unit) : M Fl := M.bind fe fun d => M.bind (f d) fun _ => M.ret .nx
theorem s_asg {tg : Expr} (he : EV X W fx e fe) (hg : GV X W fx tg f) (hs : swapsWithSole [tg] e pos.line X.env = pure false := by rfl) (hw : swappedStores [tg] e X.env = pure none := by rfl) (h1 : (assignEach [tg] X.env).map (·.2) = [assign tg X.env] := by rfl) :
    SV X W fx (.Assign [tg] e pos) (mAsg fe f) := by
  refine PS.imp (ps_asg he hg hs hw h1) fun E σ H ⟨m₀, ρ, rr, w⟩ => ?_
  refine tE.first rr w fun d ρ1 v H1 r1 h1 s1 w1 => ⟨m₀, ρ1, d, r1, h1, ?_⟩
  exact w1.bind.mono fun _ ρ2 _ q σ2 H2 r2 s2 f2 => q σ2 H2 r2 (s1.trans s2) f2
end
end PV

namespace PV
open PySem PySem.Spec PyProof.Rows L2

section
variable {m₀ : Addr → Prop} {K : PySem.W.Frag} {g : Str → Option Value} {H H' : Hp} {σ σ' : L2.St} {ρ ρ' : En} {v : V} {d : D} {i j : Nat} {p : Addr} {ds es : List D} {vs : List V}
/-! ### an owned list is written -/
theorem own_set_own (e : ρ[j]? = some (.own ds)) (a : Addr) : Own σ (ρ.set j (.own es)) a ↔ Own σ ρ a := by
  have hl := (List.getElem?_eq_some_iff.mp e).1
  constructor
  · rintro ⟨k, fs, e1, e2⟩
    by_cases hk : k = j
    · subst hk; exact ⟨k, ds, e, e2⟩
    · rw [List.getElem?_set_ne (Ne.symm hk)] at e1; exact ⟨k, fs, e1, e2⟩
  · rintro ⟨k, fs, e1, e2⟩
    by_cases hk : k = j
    · subst hk; exact ⟨k, es, List.getElem?_set_self hl, e2⟩
    · exact ⟨k, fs, by rw [List.getElem?_set_ne (Ne.symm hk)]; exact e1, e2⟩
theorem mm_congr {σ : L2.St} {ρ : En} (h : ∀ a, Own σ' ρ' a ↔ Own σ ρ a) : mm m₀ σ' ρ' = mm m₀ σ ρ := funext fun a => propext (or_congr Iff.rfl (h a))
theorem Rel.write (r : Rel m₀ K g H σ ρ) (e : ρ[j]? = some (.own ds)) : ∃ p vs, σ[j]? = some (some (.ref p)) ∧ H p = some (.lst vs) ∧ RpA (mm m₀ σ ρ) K g H vs ds ∧
    ∀ vs' es, RpA (mm m₀ σ ρ) K g H vs' es → Rel m₀ K g (upd H p (.lst vs')) σ (ρ.set j (.own es)) ∧ Stp σ ρ H σ (ρ.set j (.own es)) (upd H p (.lst vs')) := by
  obtain ⟨p, vs, h1, h2, h3, h4⟩ := r.own j ds e
  have hl := (List.getElem?_eq_some_iff.mp e).1
  refine ⟨p, vs, h1, h3, h4, fun vs' es h => ?_⟩
  have ow : Own σ ρ p := ⟨j, ds, e, h1⟩
  have kp : Kp (Own σ ρ) H (upd H p (.lst vs')) := fun a o n q => by
    rw [upd_ne (fun z => n (by rw [z]; exact ow))]; exact q
  have kpm : Kp (mm m₀ σ ρ) H (upd H p (.lst vs')) := fun a o n q => kp a o (fun z => n (.inr z)) q
  have em : mm m₀ σ (ρ.set j (.own es)) = mm m₀ σ ρ := mm_congr (own_set_own e)
  have gr : ∀ a, H a ≠ none → upd H p (.lst vs') a ≠ none := fun a n => by
    by_cases z : a = p
    · rw [z, upd_same]; simp
    · rw [upd_ne z]; exact n
  refine ⟨⟨by rw [List.length_set]; exact r.len, fun a z => gr a (r.dom a z), fun k d q => ?_, fun k fs q => ?_, fun k l fs hs b q1 q2 q3 q4 => ?_⟩, kp, gr, fun a z => .inl ((own_set_own e a).mp z)⟩
  · rw [em]
    by_cases hk : k = j
    · subst hk; rw [List.getElem?_set_self hl] at q; cases q
    · rw [List.getElem?_set_ne (Ne.symm hk)] at q
      obtain ⟨w, q1, q2⟩ := r.val k d q
      exact ⟨w, q1, Rp.mono Sub'.refl kpm _ _ q2⟩
  · rw [em]
    by_cases hk : k = j
    · subst hk
      rw [List.getElem?_set_self hl] at q; cases q
      exact ⟨p, vs', h1, h2, upd_same, RpA.mono Sub'.refl kpm _ _ h⟩
    · rw [List.getElem?_set_ne (Ne.symm hk)] at q
      obtain ⟨b, ws, q1, q2, q3, q4⟩ := r.own k fs q
      refine ⟨b, ws, q1, q2, ?_, RpA.mono Sub'.refl kpm _ _ q4⟩
      rw [upd_ne (fun z => hk (r.inj k j fs ds p q e (by rw [← z]; exact q1) h1))]
      exact q3
  · have f1 : ∃ fs', ρ[k]? = some (.own fs') := by
      by_cases hk : k = j
      · subst hk; exact ⟨_, e⟩
      · rw [List.getElem?_set_ne (Ne.symm hk)] at q1; exact ⟨_, q1⟩
    have f2 : ∃ fs', ρ[l]? = some (.own fs') := by
      by_cases hk : l = j
      · subst hk; exact ⟨_, e⟩
      · rw [List.getElem?_set_ne (Ne.symm hk)] at q2; exact ⟨_, q2⟩
    obtain ⟨_, f1⟩ := f1
    obtain ⟨_, f2⟩ := f2
    exact r.inj k l _ _ b f1 f2 q3 q4
end
/-- the slot j is owned -/
def isOwn (ρ : En) (j : Nat) : Bool := match ρ[j]? with
  | some (.own _) => true
  | _ => false
theorem isOwn_ok {ρ : En} {j : Nat} (h : isOwn ρ j = true) : ∃ ds, ρ[j]? = some (.own ds) := by
  unfold isOwn at h
  split at h
  · exact ⟨_, by assumption⟩
  · cases h
def mOwned {α : Type} (j : Nat) (f : M α) : M α := fun ρ => if isOwn ρ j = true then f ρ else .no
/-- what is done to the owned list at j -/
def mAt {α : Type} (j : Nat) (f : List D → Option (α × List D)) : M α := fun ρ => match ρ[j]? with
  | some (.own ds) => match f ds with
    | some (a, es) => .ok a (ρ.set j (.own es))
    | none => .no
  | _ => .no
theorem owned_ok {α β : Type} {c : Ct} {m₀ : Addr → Prop} {σ : L2.St} {ρ : En} {H : Hp} {S : β → En → Prop} {j : Nat} {f : M α} {k : α → M β} (w : Want c m₀ σ ρ H S (M.bind (mOwned j f) k ρ)) : (∃ ds, ρ[j]? = some (.own ds)) ∧ Want c m₀ σ ρ H S (M.bind f k ρ) := by
  have w' : Want c m₀ σ ρ H S ((if isOwn ρ j = true then f ρ else R.no).andThen k) := w
  by_cases h : isOwn ρ j = true
  · rw [if_pos h] at w'; exact ⟨isOwn_ok h, w'⟩
  · rw [if_neg h] at w'; exact w'.elim
theorem at_ok {α β : Type} {c : Ct} {m₀ : Addr → Prop} {σ : L2.St} {ρ : En} {H : Hp} {S : β → En → Prop} {j : Nat} {f : List D → Option (α × List D)} {k : α → M β} (w : Want c m₀ σ ρ H S (M.bind (mAt j f) k ρ)) :
    ∃ ds a es, ρ[j]? = some (.own ds) ∧ f ds = some (a, es) ∧ Want c m₀ σ ρ H S (k a (ρ.set j (.own es))) := by
  unfold M.bind mAt at w
  split at w
  · rename_i ds e
    split at w
    · rename_i a es e2
      exact ⟨ds, a, es, e, e2, w⟩
    · exact w.elim
  · exact w.elim
section
variable {X : Cx} {W : WX} {fx : List Nat} {e : Expr} {es : List Expr} {fe fi : M D} {pos pos' apos : Pos} {j : Nat} {x : Str}
def setAt (k d : D) (ds : List D) : Option (Unit × List D) := match k with
  | .int i => (ixN ds.length i).map fun n => ((), ds.set n d)
  | _ => none
def gSub1 (j : Nat) (fi : M D) (d : D) : M Unit := mOwned j (M.bind fi fun k => M.bind (mAt j (setAt k d)) fun _ => M.ret ())
/-- o[i] = .., o owned -/
theorem g_sub (j : Nat) {x : Str} (ho : PE X (.Name x pos') (tVar j)) (hi : EV X W fx e fi) (ha : ∀ v, assign (.Subscript (.Name x pos') e pos) X.env v = (do
      let ov ← holding [v] (eval (.Name x pos') X.env)
      let iv ← holding [v, ov] (eval e X.env)
      standAt pos
      holding [v, ov, iv] (setItem ov iv v)
      release [v, ov, iv] []) := by intro _; rfl) : GV X W fx (.Subscript (.Name x pos') e pos) (gSub1 j fi) := by
  refine PG.imp (pg_sub ho hi set_list ha) fun v σ H Q ⟨m₀, ρ, d, rr, h, w⟩ => ?_
  unfold gSub1 mOwned at w
  by_cases ho : isOwn ρ j = true
  · rw [if_pos ho] at w
    obtain ⟨ds0, eo⟩ := isOwn_ok ho
    obtain ⟨p0, _, ep, _, _, _⟩ := rr.own j ds0 eo
    refine ⟨.ref p0, ep, ?_⟩
    refine tE.first rr w fun k ρ1 iv H1 r1 h1 s1 w2 => ?_
    obtain ⟨ds, u, es, eo1, e2, w3⟩ := at_ok w2
    obtain ⟨p, vs, ep1, eH, hA, hw⟩ := r1.write eo1
    rw [ep] at ep1; cases ep1
    unfold setAt at e2
    split at e2
    · obtain ⟨n, e3, e4⟩ := Option.map_eq_some_iff.mp e2
      cases e4; cases h1
      obtain ⟨r2, s2⟩ := hw (vs.set n v) (ds.set n d) (hA.set n (s1.rp rr h))
      exact ⟨p0, vs, _, n, rfl, rfl, eH, by rw [hA.length]; exact e3, w3 σ _ r2 (s1.trans s2) .refl⟩
    · cases e2
  · rw [if_neg ho] at w; exact w.elim
def appAt (d : D) (ds : List D) : Option (Unit × List D) := if ds.length < 100000 then some ((), ds ++ [d]) else none
def mApp (j : Nat) (fe : M D) : M D := mOwned j (M.bind fe fun d => M.bind (mAt j (appAt d)) fun _ => M.ret .non)
/-- xs.append(e), xs owned -/
theorem e_app (j : Nat) {o : Expr} (ho : PE X o (tVar j)) (he : EV X W fx e fe) (hs : starEach (e :: []) X.env = (false, eval e X.env) :: starEach [] X.env := by rfl)
    (h : ∀ t, PA X [e] t → PE X (.Call (.Attribute o "append" apos) [e] [] pos) (tBM X.K "list" rAppend (tVar j) t)) : EV X W fx (.Call (.Attribute o "append" apos) [e] [] pos) (mApp j fe) := by
  refine PE.imp (h _ (pa_cons he pa_nil hs)) fun σ H Q ⟨m₀, ρ, rr, w⟩ => ?_
  unfold mApp mOwned at w
  by_cases ho : isOwn ρ j = true
  · rw [if_pos ho] at w
    obtain ⟨ds0, eo⟩ := isOwn_ok ho
    obtain ⟨p0, vs0, ep, _, eH0, _⟩ := rr.own j ds0 eo
    refine ⟨.ref p0, ep, .inl ⟨rfl, vs0, .inl (.inl eH0)⟩, ?_⟩
    refine tE.first rr w fun d ρ1 v H1 r1 h1 s1 w2 => ?_
    obtain ⟨ds, u, es, eo1, e2, w3⟩ := at_ok w2
    obtain ⟨p, vs, ep1, eH, hA, hw⟩ := r1.write eo1
    rw [ep] at ep1; cases ep1
    unfold appAt at e2
    split at e2
    · rename_i hl
      cases e2
      obtain ⟨r2, s2⟩ := hw (vs ++ [v]) (ds ++ [d]) (hA.append (.cons h1 .nil))
      refine ⟨p0, vs, v, rfl, rfl, eH, ?_, w3 .non _ r2 .non (s1.trans s2)⟩
      rw [hA.length]; exact Nat.lt_of_lt_of_le hl (by decide)
    · cases e2
  · rw [if_neg ho] at w; exact w.elim
def popAt (ds : List D) : Option (D × List D) := match ds[ds.length - 1]? with
  | some d => some (d, ds.dropLast)
  | none => none
theorem RpA.dropLast {m : Addr → Prop} {K : PySem.W.Frag} {g : Str → Option Value} {H : Hp} {vs : List V} {ds : List D} (h : RpA m K g H vs ds) : RpA m K g H vs.dropLast ds.dropLast := by
  rw [List.dropLast_eq_take, List.dropLast_eq_take, h.length]
  exact h.take _
/-- xs.pop(), xs owned -/
theorem e_pop (j : Nat) {o : Expr} (h : PE X (.Call (.Attribute o "pop" apos) [] [] pos) (tBM0 X.K "list" rPop (tVar j))) : EV X W fx (.Call (.Attribute o "pop" apos) [] [] pos) (mAt j popAt) := by
  refine PE.imp h fun σ H Q ⟨m₀, ρ, rr, w⟩ => ?_
  unfold mAt at w
  split at w
  · rename_i ds eo
    split at w
    · rename_i d es e2
      obtain ⟨p, vs, ep, eH, hA, hw⟩ := rr.write eo
      unfold popAt at e2
      split at e2
      · rename_i d' e3
        cases e2
        obtain ⟨v, e4, h4⟩ := hA.get e3
        obtain ⟨r2, s2⟩ := hw vs.dropLast ds.dropLast hA.dropLast
        refine ⟨.ref p, ep, .inl ⟨rfl, vs, .inl (.inl eH)⟩, p, vs, v, rfl, rfl, eH, by rw [hA.length]; exact e4, w v _ r2 ?_ s2⟩
        exact Rp.mono (fun a z => .inl (by rw [mm_congr (own_set_own eo)] at z; exact z)) (fun a o n q => s2.keep a o (fun z => n (.inr z)) q) _ _ h4
      · cases e2
    · exact w.elim
  · exact w.elim
/-- an owned list is read: its length, an item -/
def mLenO (j : Nat) : M D := mAt j fun ds => some (.int ds.length, ds)
def mIxO (j : Nat) (fi : M D) : M D := mOwned j (M.bind fi fun k => mAt j fun ds => (dIx (.lst ds) k).map fun d => (d, ds))
end

/-! ### what is walked -/
structure Src (K : PySem.W.Frag) (g : Str → Option Value) (m : Addr → Prop) (H : Hp) (J : It) (ds : List D) : Prop where
  ex : ∃ S : (Addr → Prop) → Hp → Prop, S m H ∧ (∀ m m' H H', S m H → Sub' m' m H → Kp m H H' → S m' H') ∧
    (∀ i m H d, S m H → (∀ p, H p = none → ¬ m p) → ds[i]? = some d → J.go i H ∧ ∀ x H', J.yld i H x H' → (∀ a o, H a = some o → H' a = some o) ∧ Rp m K g H' x d) ∧ ∀ m H, S m H → J.stop ds.length H
def tI (c : Ct) (f : M (List D)) : TI := fun σ H Q => ∃ m₀ ρ, Rel m₀ c.K c.g H σ ρ ∧ Want c m₀ σ ρ H (fun ds ρ' => ∀ J H', Rel m₀ c.K c.g H' σ ρ' → Src c.K c.g (mm m₀ σ ρ') H' J ds → Stp σ ρ H σ ρ' H' → Q J H') (f ρ)
abbrev IV (X : Cx) (W : WX) (fx : List Nat) (tg e : Expr) (f : M (List D)) : Prop := PI X tg e (tI (ct X W fx) f)
theorem PI.imp {X : Cx} {tg e : Expr} {t t' : TI} (h : PI X tg e t) (i : ∀ σ H Q, t' σ H Q → t σ H Q) : PI X tg e t' := ⟨fun pins s σ H R I w => h.run pins s σ H R I (i σ H R w)⟩
theorem PI.or {X : Cx} {tg e : Expr} {t t' : TI} (h : PI X tg e t) (h' : PI X tg e t') : PI X tg e (fun σ H Q => t σ H Q ∨ t' σ H Q) := ⟨fun pins s σ H R I w => w.elim (h.run pins s σ H R I) (h'.run pins s σ H R I)⟩
theorem tI.first {c : Ct} {σ : L2.St} {H : Hp} {β : Type} {x : M (List D)} {f : List D → M β} {m₀ : Addr → Prop} {ρ : En} {S : β → En → Prop} {Q : It → Hp → Prop} (r : Rel m₀ c.K c.g H σ ρ) (h : Want c m₀ σ ρ H S (M.bind x f ρ))
    (q : ∀ ds ρ1 J H1, Rel m₀ c.K c.g H1 σ ρ1 → Src c.K c.g (mm m₀ σ ρ1) H1 J ds → Stp σ ρ H σ ρ1 H1 → Want c m₀ σ ρ1 H1 S (f ds ρ1) → Q J H1) : tI c x σ H Q :=
  ⟨m₀, ρ, r, h.bind.mono fun d ρ1 _ w J H1 r1 h1 s1 => q d ρ1 J H1 r1 h1 s1 (w.later s1 .refl)⟩
section
variable {m : Addr → Prop} {K : PySem.W.Frag} {g : Str → Option Value} {H : Hp} {a b : Addr} {xs ys : List V} {ds es : List D}
theorem src_list (h : RL m H a xs) (h2 : RpA m K g H xs ds) : Src K g m H (Itl K a) ds := by
  refine ⟨fun m H => RL m H a xs ∧ RpA m K g H xs ds, ⟨h, h2⟩, fun m m' H H' ⟨p, q⟩ s k => ⟨p.mono s k, RpA.mono s k _ _ q⟩, fun i m H d ⟨p, q⟩ hm e => ?_, fun m H ⟨p, q⟩ => ⟨xs, p.sq, by rw [q.length]; exact Nat.le_refl _⟩⟩
  obtain ⟨v, e1, h3⟩ := q.get e
  refine ⟨⟨xs, v, p.sq, e1⟩, fun x H' y => ?_⟩
  obtain ⟨rfl, y⟩ := y
  have e2 := y xs p.sq
  rw [e1] at e2; cases e2
  exact ⟨grown_refl, h3⟩
theorem src_tup (h : RT m K H a xs) (h2 : RpA m K g H xs ds) : Src K g m H (Itt K a) ds := by
  refine ⟨fun m H => RT m K H a xs ∧ RpA m K g H xs ds, ⟨h, h2⟩, fun m m' H H' ⟨p, q⟩ s k => ⟨p.mono s k, RpA.mono s k _ _ q⟩, fun i m H d ⟨p, q⟩ hm e => ?_, fun m H ⟨p, q⟩ => ⟨xs, p.sq, by rw [q.length]; exact Nat.le_refl _⟩⟩
  obtain ⟨v, e1, h3⟩ := q.get e
  refine ⟨⟨xs, v, p.sq, e1⟩, fun x H' y => ?_⟩
  obtain ⟨rfl, y⟩ := y
  have e2 := y xs p.sq
  rw [e1] at e2; cases e2
  exact ⟨grown_refl, h3⟩
def upto (lo : Int) (n : Nat) : List D := (List.range n).map fun i => D.int (lo + (i : Nat))
theorem src_range (lo : Int) (n : Nat) : Src K g m H (Itr lo n) (upto lo n) := by
  refine ⟨fun _ _ => True, trivial, fun _ _ _ _ _ _ _ => trivial, fun i m H d _ hm e => ?_, fun m H _ => ?_⟩
  · unfold upto at e
    rw [List.getElem?_map] at e
    obtain ⟨k, e1, e2⟩ := Option.map_eq_some_iff.mp e
    obtain ⟨hl, e3⟩ := List.getElem?_eq_some_iff.mp e1
    rw [List.getElem_range] at e3
    subst e3; subst e2
    refine ⟨show i < n by simpa using hl, fun x H' y => ?_⟩
    obtain ⟨rfl, rfl⟩ := y
    exact ⟨grown_refl, .int _⟩
  · show n ≤ (upto lo n).length
    unfold upto
    simp
def pairs (ds es : List D) : List D := List.zipWith (fun x y => D.tup [x, y]) ds es
theorem pairs_get {i : Nat} {d : D} (e : (pairs ds es)[i]? = some d) : ∃ x y, ds[i]? = some x ∧ es[i]? = some y ∧ d = .tup [x, y] := by
  unfold pairs at e
  rw [List.getElem?_zipWith] at e
  cases h1 : ds[i]? with
  | none => rw [h1] at e; simp at e
  | some x =>
    cases h2 : es[i]? with
    | none => rw [h1, h2] at e; simp at e
    | some y => rw [h1, h2] at e; exact ⟨x, y, rfl, rfl, (Option.some.inj e).symm⟩
theorem pairs_len : (pairs ds es).length = min ds.length es.length := by unfold pairs; simp
theorem new_pair {T : Addr} {x y : V} {dx dy : D} (hm : ∀ p, H p = none → ¬ m p) (n : H T = none) (h1 : Rp m K g H x dx) (h2 : Rp m K g H y dy) : (∀ a o, H a = some o → upd H T (.tup [x, y]) a = some o) ∧ Rp m K g (upd H T (.tup [x, y])) (.ref T) (.tup [dx, dy]) :=
  ⟨keep_new n, .tup (.inl ⟨hm T n, upd_same⟩) (rpA_new (.cons h1 (.cons h2 .nil)) n)⟩
theorem src_zipL (h : RL m H a xs) (h2 : RpA m K g H xs ds) (h3 : RL m H b ys) (h4 : RpA m K g H ys es) : Src K g m H (Itz K a b) (pairs ds es) := by
  refine ⟨fun m H => (RL m H a xs ∧ RpA m K g H xs ds) ∧ RL m H b ys ∧ RpA m K g H ys es, ⟨⟨h, h2⟩, h3, h4⟩, fun m m' H H' ⟨⟨p, q⟩, p', q'⟩ s k => ⟨⟨p.mono s k, RpA.mono s k _ _ q⟩, p'.mono s k, RpA.mono s k _ _ q'⟩, fun i m H d ⟨⟨p, q⟩, p', q'⟩ hm e => ?_, fun m H ⟨⟨p, q⟩, p', q'⟩ => ⟨xs, ys, p.sq, p'.sq, ?_⟩⟩
  · obtain ⟨dx, dy, e1, e2, rfl⟩ := pairs_get e
    obtain ⟨v, f1, g1⟩ := q.get e1
    obtain ⟨w, f2, g2⟩ := q'.get e2
    refine ⟨⟨xs, ys, v, w, p.sq, p'.sq, f1, f2⟩, fun x H' y => ?_⟩
    obtain ⟨T, x1, y1, rfl, n, rfl, y2, y3⟩ := y
    have e3 := y2 xs p.sq
    have e4 := y3 ys p'.sq
    rw [f1] at e3; cases e3
    rw [f2] at e4; cases e4
    exact new_pair hm n g1 g2
  · rw [pairs_len, q.length, q'.length]; omega
theorem src_zipT (h : RT m K H a xs) (h2 : RpA m K g H xs ds) (h3 : RT m K H b ys) (h4 : RpA m K g H ys es) : Src K g m H (RZ.ItzT K a b) (pairs ds es) := by
  refine ⟨fun m H => (RT m K H a xs ∧ RpA m K g H xs ds) ∧ RT m K H b ys ∧ RpA m K g H ys es, ⟨⟨h, h2⟩, h3, h4⟩, fun m m' H H' ⟨⟨p, q⟩, p', q'⟩ s k => ⟨⟨p.mono s k, RpA.mono s k _ _ q⟩, p'.mono s k, RpA.mono s k _ _ q'⟩, fun i m H d ⟨⟨p, q⟩, p', q'⟩ hm e => ?_, fun m H ⟨⟨p, q⟩, p', q'⟩ => ⟨xs, ys, p.sq, p'.sq, ?_⟩⟩
  · obtain ⟨dx, dy, e1, e2, rfl⟩ := pairs_get e
    obtain ⟨v, f1, g1⟩ := q.get e1
    obtain ⟨w, f2, g2⟩ := q'.get e2
    refine ⟨⟨xs, ys, v, w, p.sq, p'.sq, f1, f2⟩, fun x H' y => ?_⟩
    obtain ⟨T, x1, y1, rfl, n, rfl, y2, y3⟩ := y
    have e3 := y2 xs p.sq
    have e4 := y3 ys p'.sq
    rw [f1] at e3; cases e3
    rw [f2] at e4; cases e4
    exact new_pair hm n g1 g2
  · rw [pairs_len, q.length, q'.length]; omega
end
section
variable {X : Cx} {W : WX} {fx : List Nat} {tg e e2 : Expr} {es : List Expr} {fe : M D} {fl : M (List D)} {p pos tpos : Pos}
def mIter (fe : M D) : M (List D) := M.bind fe fun d => lift d.items?
theorem i_seq (he : EV X W fx e fe) : IV X W fx tg e (mIter fe) := by
  refine PI.imp (PI.or (pi_list he) (pi_tup he)) fun σ H R ⟨m₀, ρ, rr, w⟩ => ?_
  rcases Classical.em (∃ ds ρ1, fe ρ = .ok (.tup ds) ρ1) with ⟨ds0, ρ0, e0⟩ | key
  · refine .inr (tE.firstE rr w fun d ρ1 v H1 e1 r1 h1 s1 w1 => ?_)
    rw [e0] at e1; cases e1
    obtain ⟨ds, e2, w2⟩ := w1.lift
    cases e2
    cases h1 with
    | tup h2 h3 => exact ⟨_, rfl, ⟨_, h2.sq⟩, w2 _ H1 r1 (src_tup h2 h3) s1⟩
  · refine .inl (tE.firstE rr w fun d ρ1 v H1 e1 r1 h1 s1 w1 => ?_)
    obtain ⟨ds, e2, w2⟩ := w1.lift
    cases d with
    | lst xs =>
      cases e2
      cases h1 with
      | lst h2 h3 => exact ⟨_, rfl, ⟨_, h2.sq⟩, w2 _ H1 r1 (src_list h2 h3) s1⟩
    | tup xs => exact (key ⟨xs, ρ1, e1⟩).elim
    | _ => cases e2
def rng1 : List D → Option (List D)
  | [.int j] => if -1000000000 ≤ j ∧ j ≤ 1000000000 then some (upto 0 j.toNat) else none
  | _ => none
def rng2 : List D → Option (List D)
  | [.int i, .int j] => if (-1000000000 ≤ i ∧ i ≤ 1000000000) ∧ -1000000000 ≤ j ∧ j ≤ 1000000000 then some (upto i (j - i).toNat) else none
  | _ => none
def mIter' (f : List D → Option (List D)) (fl : M (List D)) : M (List D) := M.bind fl fun ds => lift (f ds)
theorem i_range1 (hg : Gl X "range") (hm : X.mg "range" = none) (ha : LV X W fx [e] fl) (hs : starEach [e] X.env = [(false, eval e X.env)] := by rfl) : IV X W fx tg (.Call (.Name "range" p) [e] [] pos) (mIter' rng1 fl) := by
  refine PI.imp (pi_range1 hg hm ha hs) fun σ H R ⟨m₀, ρ, rr, w⟩ => ?_
  refine tL.first rr w fun ds ρ1 vs H1 _ r1 h1 s1 w1 => ?_
  obtain ⟨is, e2, w2⟩ := w1.lift
  unfold rng1 at e2
  split at e2
  · split at e2
    · rename_i hj
      cases e2
      obtain ⟨v, rfl, h2⟩ := rp1 h1
      cases h2
      exact ⟨_, rfl, by omega, by omega, w2 _ H1 r1 (src_range 0 _) s1⟩
    · cases e2
  · cases e2
theorem i_range2 (hg : Gl X "range") (hm : X.mg "range" = none) (ha : LV X W fx [e, e2] fl) (hs : starEach [e, e2] X.env = [(false, eval e X.env), (false, eval e2 X.env)] := by rfl) (hs2 : starEach [e2] X.env = [(false, eval e2 X.env)] := by rfl) : IV X W fx tg (.Call (.Name "range" p) [e, e2] [] pos) (mIter' rng2 fl) := by
  refine PI.imp (pi_range2 hg hm ha hs hs2) fun σ H R ⟨m₀, ρ, rr, w⟩ => ?_
  refine tL.first rr w fun ds ρ1 vs H1 _ r1 h1 s1 w1 => ?_
  obtain ⟨is, e2, w2⟩ := w1.lift
  unfold rng2 at e2
  split at e2
  · split at e2
    · rename_i hj
      cases e2
      obtain ⟨v, v', rfl, h2, h3⟩ := rp2 h1
      cases h2; cases h3
      exact ⟨_, _, rfl, by omega, w2 _ H1 r1 (src_range _ _) s1⟩
    · cases e2
  · cases e2
def zip2 : List D → Option (List D)
  | [.lst xs, .lst ys] => some (pairs xs ys)
  | [.tup xs, .tup ys] => some (pairs xs ys)
  | _ => none
theorem i_zip {elts : List Expr} {kk : Nat} (hg : Gl X "zip") (hm : X.mg "zip" = none) (ha : LV X W fx [e, e2] fl) (hs : starEach [e, e2] X.env = (false, eval e X.env) :: starEach [e2] X.env := by rfl) (hpl : (backTo pos (starEach [e2] X.env)).any (·.1) = false := by rfl) :
    IV X W fx (.Tuple elts kk tpos) (.Call (.Name "zip" p) [e, e2] [] pos) (mIter' zip2 fl) := by
  refine PI.imp (RZ.pi_zipA hg hm ha hs hpl) fun σ H R ⟨m₀, ρ, rr, w⟩ => ?_
  refine tL.first rr w fun ds ρ1 vs H1 _ r1 h1 s1 w1 => ?_
  obtain ⟨is, e2, w2⟩ := w1.lift
  unfold zip2 at e2
  split at e2
  · cases e2
    obtain ⟨v, v', rfl, h2, h3⟩ := rp2 h1
    cases h2 with
    | lst a1 a2 =>
      cases h3 with
      | lst b1 b2 => exact ⟨_, _, _, _, rfl, .inl ⟨a1.sq, b1.sq, w2 _ H1 r1 (src_zipL a1 a2 b1 b2) s1⟩⟩
  · cases e2
    obtain ⟨v, v', rfl, h2, h3⟩ := rp2 h1
    cases h2 with
    | tup a1 a2 =>
      cases h3 with
      | tup b1 b2 => exact ⟨_, _, _, _, rfl, .inr ⟨a1.sq, b1.sq, w2 _ H1 r1 (src_zipT a1 a2 b1 b2) s1⟩⟩
  · cases e2
end
end PV

namespace PV
open PySem PySem.Spec PyProof.Rows L2

/-! ### for -/
def loopL (g : D → M Unit) (b : M Fl) : List D → M Fl
  | [] => M.ret .nx
  | d :: ds => M.bind (g d) fun _ => M.bind b fun fl => match fl with
    | .nx => loopL g b ds
    | .ct => loopL g b ds
    | .bk => M.ret .nx
    | .rt d => M.ret (.rt d)
    | .ro ds => M.ret (.ro ds)
def mFor (fi : M (List D)) (g : D → M Unit) (b : M Fl) : M Fl := M.bind fi fun ds => loopL g b ds
section
variable {X : Cx} {W : WX} {fx : List Nat} {tg iter : Expr} {body : List Stmt} {fi : M (List D)} {g : D → M Unit} {b : M Fl} {pos : Pos}
theorem s_for (hp : PassesOwn (model X.prog X.w) X.A X.env X.xe) (hc : X.calm = true) (hi : IV X W fx tg iter fi) (hg : GV X W fx tg g) (hb : BV X W fx body b) (hs : ∀ x, foldedSetIterable iter X.env x = pure x := by intro _; rfl) :
    SV X W fx (.For tg iter body [] pos) (mFor fi g b) := by
  refine PS.imp (ps_for hp hc hi hg hb hs) fun E σ H ⟨m₀, ρ, rr, w⟩ => ?_
  refine tI.first rr w fun ds ρ1 J H1 r1 ⟨S, s0, sm, si, se⟩ st1 w1 => ?_
  refine ⟨fun i n σ' H' => n = ds.length - i ∧ i ≤ ds.length ∧ ∃ ρ', Rel m₀ X.K X.mg H' σ' ρ' ∧ Stp σ ρ H σ' ρ' H' ∧ Fx fx σ σ' ∧ S (mm m₀ σ' ρ') H' ∧ Want (ct X W fx) m₀ σ' ρ' H' (fun fl ρ'' => EndOk (ct X W fx) m₀ σ ρ H E ρ'' fl) (loopL g b (ds.drop i) ρ'),
    ⟨ds.length, by simp, Nat.zero_le _, ρ1, r1, st1, .refl, s0, w1⟩, ?_⟩
  rintro i n σ2 H2 ⟨rfl, hi2, ρ2, r2, st2, f2, s2, w2⟩
  by_cases hlt : i < ds.length
  · right
    have ed : ds.drop i = ds[i] :: ds.drop (i + 1) := (List.drop_eq_getElem_cons hlt)
    rw [ed] at w2
    have ei : ds[i]? = some ds[i] := List.getElem?_eq_getElem hlt
    obtain ⟨go, hy⟩ := si i _ H2 _ s2 (fun p hp => r2.new_out hp) ei
    refine ⟨go, fun σ' H' => ∃ ρ', Rel m₀ X.K X.mg H' σ' ρ' ∧ Stp σ ρ H σ' ρ' H' ∧ Fx fx σ σ' ∧ S (mm m₀ σ' ρ') H' ∧ Want (ct X W fx) m₀ σ' ρ' H' (fun fl ρ'' => EndOk (ct X W fx) m₀ σ ρ H E ρ'' fl) (loopL g b (ds.drop (i + 1)) ρ'),
      fun σ' H' h => ⟨ds.length - (i + 1), by omega, rfl, hlt, h⟩, fun x H3 y => ?_⟩
    obtain ⟨k3, h3⟩ := hy x H3 y
    have r3 := r2.grown k3
    have t3 : Stp σ2 ρ2 H2 σ2 ρ2 H3 := .grown k3
    refine ⟨m₀, ρ2, _, r3, h3, ?_⟩
    have w3 := (w2.later t3 .refl).bind
    refine w3.mono fun _ ρ4 _ w4 σ4 H4 r4 st4 f4 => ?_
    refine ⟨m₀, ρ4, r4, ?_⟩
    refine (w4.later st4 f4).bind.mono fun fl ρ5 _ w5 => ?_
    have nxt : ∀ {ρ5 : En}, Want (ct X W fx) m₀ σ4 ρ4 H4 (fun fl ρ'' => EndOk (ct X W fx) m₀ σ ρ H E ρ'' fl) (loopL g b (ds.drop (i + 1)) ρ5) → ∀ σ5 H5, Rel m₀ X.K X.mg H5 σ5 ρ5 → Stp σ4 ρ4 H4 σ5 ρ5 H5 → Fx fx σ4 σ5 →
        ∃ ρ', Rel m₀ X.K X.mg H5 σ5 ρ' ∧ Stp σ ρ H σ5 ρ' H5 ∧ Fx fx σ σ5 ∧ S (mm m₀ σ5 ρ') H5 ∧ Want (ct X W fx) m₀ σ5 ρ' H5 (fun fl ρ'' => EndOk (ct X W fx) m₀ σ ρ H E ρ'' fl) (loopL g b (ds.drop (i + 1)) ρ') := fun {ρ5} w5 σ5 H5 r5 st5 f5 => by
      have t25 : Stp σ2 ρ2 H2 σ5 ρ5 H5 := t3.trans (st4.trans st5)
      refine ⟨ρ5, r5, st2.trans t25, f2.trans (f4.trans f5), sm _ _ _ _ s2 (fun a z => ?_) (fun a o n e => t25.keep a o (fun z => n (.inr z)) e), w5.later st5 f5⟩
      rcases z with z | z
      · exact .inl (.inl z)
      · rcases t25.own a z with y | y
        · exact .inl (.inr y)
        · exact .inr y
    have t24 : Stp σ ρ H σ4 ρ4 H4 := st2.trans (t3.trans st4)
    have f24 : Fx fx σ σ4 := f2.trans f4
    cases fl with
    | nx => exact fun σ5 H5 r5 st5 f5 => nxt w5 σ5 H5 r5 st5 f5
    | ct => exact fun σ5 H5 r5 st5 f5 => nxt w5 σ5 H5 r5 st5 f5
    | bk => exact fun σ5 H5 r5 st5 f5 => EndOk.later (fl := .nx) w5 t24 f24 σ5 H5 r5 st5 f5
    | rt d => exact fun v σ5 H5 r5 h5 st5 f5 => EndOk.later (fl := .rt d) w5 t24 f24 v σ5 H5 r5 h5 st5 f5
    | ro es => exact fun p vs σ5 H5 r5 n5 e5 h5 st5 f5 => EndOk.later (fl := .ro es) w5 t24 f24 p vs σ5 H5 r5 n5 e5 h5 st5 f5
  · left
    have e : i = ds.length := by omega
    subst e
    rw [List.drop_length] at w2
    exact ⟨se _ _ s2, w2 σ2 H2 r2 st2 f2⟩
end

/-! ### while -/
def whileN (t : M Bool) (b : M Fl) : Nat → M Fl
  | 0 => fun _ => .no
  | n + 1 => M.bind t fun c => if c = true then M.bind b fun fl => match fl with
      | .nx => whileN t b n
      | .ct => whileN t b n
      | .bk => M.ret .nx
      | .rt d => M.ret (.rt d)
      | .ro ds => M.ret (.ro ds)
    else M.ret .nx
open Classical in
noncomputable def mWhile (t : M Bool) (b : M Fl) : M Fl := fun ρ => if h : ∃ n, whileN t b n ρ ≠ .no then whileN t b (Classical.choose h) ρ else .no
section
variable {t : M Bool} {b : M Fl}
theorem whileN_mono : ∀ {n : Nat} {ρ : En}, whileN t b n ρ ≠ .no → whileN t b (n + 1) ρ = whileN t b n ρ
  | 0, ρ, h => absurd rfl h
  | n + 1, ρ, h => by
    have e1 : whileN t b (n + 1 + 1) ρ = (t ρ).andThen fun c => if c = true then M.bind b fun fl => match fl with
      | .nx => whileN t b (n + 1)
      | .ct => whileN t b (n + 1)
      | .bk => M.ret .nx
      | .rt d => M.ret (.rt d)
      | .ro ds => M.ret (.ro ds)
      else M.ret .nx := rfl
    have e2 : whileN t b (n + 1) ρ = (t ρ).andThen fun c => if c = true then M.bind b fun fl => match fl with
      | .nx => whileN t b n
      | .ct => whileN t b n
      | .bk => M.ret .nx
      | .rt d => M.ret (.rt d)
      | .ro ds => M.ret (.ro ds)
      else M.ret .nx := rfl
    rw [e2] at h
    rw [e1, e2]
    cases q : t ρ with
    | no => rfl
    | er y ρ1 => rfl
    | ok c ρ1 =>
      rw [q] at h
      cases c with
      | false => rfl
      | true =>
        have h' : (b ρ1).andThen (fun fl => match fl with
          | .nx => whileN t b n
          | .ct => whileN t b n
          | .bk => M.ret .nx
          | .rt d => M.ret (.rt d)
          | .ro ds => M.ret (.ro ds)) ≠ .no := h
        show (b ρ1).andThen (fun fl => match fl with
          | .nx => whileN t b (n + 1)
          | .ct => whileN t b (n + 1)
          | .bk => M.ret .nx
          | .rt d => M.ret (.rt d)
          | .ro ds => M.ret (.ro ds)) = (b ρ1).andThen (fun fl => match fl with
          | .nx => whileN t b n
          | .ct => whileN t b n
          | .bk => M.ret .nx
          | .rt d => M.ret (.rt d)
          | .ro ds => M.ret (.ro ds))
        cases q2 : b ρ1 with
        | no => rfl
        | er y ρ2 => rfl
        | ok fl ρ2 =>
          rw [q2] at h'
          cases fl with
          | nx => exact whileN_mono (n := n) h'
          | ct => exact whileN_mono (n := n) h'
          | bk => rfl
          | rt d => rfl
          | ro ds => rfl
theorem whileN_le {n m : Nat} {ρ : En} (h : whileN t b n ρ ≠ .no) (hl : n ≤ m) : whileN t b m ρ = whileN t b n ρ := by
  obtain ⟨k, rfl⟩ := Nat.le.dest hl
  clear hl
  induction k with
  | zero => rfl
  | succ k ih => rw [← ih]; exact whileN_mono (n := n + k) (by rw [ih]; exact h)
theorem mWhile_of {n : Nat} {ρ : En} {r : R Fl} (h : whileN t b n ρ = r) (hr : r ≠ .no) : mWhile t b ρ = r := by
  have h1 : ∃ n, whileN t b n ρ ≠ .no := ⟨n, by rw [h]; exact hr⟩
  have h2 := Classical.choose_spec h1
  unfold mWhile
  rw [dif_pos h1]
  rcases Nat.le_total n (Classical.choose h1) with hl | hl
  · rw [whileN_le (by rw [h]; exact hr) hl, h]
  · rw [← whileN_le h2 hl, h]
theorem mWhile_some {ρ : En} (h : mWhile t b ρ ≠ .no) : ∃ n, mWhile t b ρ = whileN t b n ρ := by
  unfold mWhile at h ⊢
  by_cases h1 : ∃ n, whileN t b n ρ ≠ .no
  · rw [dif_pos h1]; exact ⟨_, rfl⟩
  · rw [dif_neg h1] at h; exact absurd rfl h
/-- one turn -/
theorem mWhile_turn {ρ : En} {r : R Fl} (h : (M.bind t fun c => if c = true then M.bind b fun fl => match fl with
      | .nx => mWhile t b
      | .ct => mWhile t b
      | .bk => M.ret .nx
      | .rt d => M.ret (.rt d)
      | .ro ds => M.ret (.ro ds)
    else M.ret .nx) ρ = r) (hr : r ≠ .no) : mWhile t b ρ = r := by
  have h' : (t ρ).andThen (fun c => if c = true then M.bind b fun fl => match fl with
      | .nx => mWhile t b
      | .ct => mWhile t b
      | .bk => M.ret .nx
      | .rt d => M.ret (.rt d)
      | .ro ds => M.ret (.ro ds)
    else M.ret .nx) = r := h
  have fin : ∀ n, ((t ρ).andThen fun c => if c = true then M.bind b fun fl => match fl with
      | .nx => whileN t b n
      | .ct => whileN t b n
      | .bk => M.ret .nx
      | .rt d => M.ret (.rt d)
      | .ro ds => M.ret (.ro ds)
      else M.ret .nx) = r → mWhile t b ρ = r := fun n e => mWhile_of (n := n + 1) e hr
  cases q : t ρ with
  | no => rw [q] at h'; exact absurd h'.symm hr
  | er y ρ1 => rw [q] at h' fin; exact fin 0 h'
  | ok c ρ1 =>
    rw [q] at h' fin
    cases c with
    | false => exact fin 0 h'
    | true =>
      have h2 : (b ρ1).andThen (fun fl => match fl with
          | .nx => mWhile t b
          | .ct => mWhile t b
          | .bk => M.ret .nx
          | .rt d => M.ret (.rt d)
          | .ro ds => M.ret (.ro ds)) = r := h'
      have fin2 : ∀ n, ((b ρ1).andThen (fun fl => match fl with
          | .nx => whileN t b n
          | .ct => whileN t b n
          | .bk => M.ret .nx
          | .rt d => M.ret (.rt d)
          | .ro ds => M.ret (.ro ds))) = r → mWhile t b ρ = r := fun n e => fin n e
      cases q2 : b ρ1 with
      | no => rw [q2] at h2; exact absurd h2.symm hr
      | er y ρ2 => rw [q2] at h2 fin2; exact fin2 0 h2
      | ok fl ρ2 =>
        rw [q2] at h2 fin2
        cases fl with
        | nx =>
          have h3 : mWhile t b ρ2 = r := h2
          obtain ⟨n, hn⟩ := mWhile_some (t := t) (b := b) (ρ := ρ2) (by rw [h3]; exact hr)
          exact fin2 n (hn.symm.trans h3)
        | ct =>
          have h3 : mWhile t b ρ2 = r := h2
          obtain ⟨n, hn⟩ := mWhile_some (t := t) (b := b) (ρ := ρ2) (by rw [h3]; exact hr)
          exact fin2 n (hn.symm.trans h3)
        | bk => exact fin2 0 h2
        | rt d => exact fin2 0 h2
        | ro ds => exact fin2 0 h2
end
section
variable {X : Cx} {W : WX} {fx : List Nat} {e : Expr} {body : List Stmt} {t : M Bool} {b : M Fl} {pos : Pos}
theorem s_while (hp : PassesOwn (model X.prog X.w) X.A X.env X.xe) (ht : TV X W fx e t) (hb : BV X W fx body b) : SV X W fx (.While e body [] pos) (mWhile t b) := by
  refine PS.imp (ps_while hp ht hb) fun E σ H ⟨m₀, ρ, rr, w⟩ => ?_
  have hn : mWhile t b ρ ≠ .no := fun z => by rw [z] at w; exact w
  obtain ⟨n0, e0⟩ := mWhile_some hn
  rw [e0] at w
  refine ⟨fun n σ' H' => ∃ ρ', Rel m₀ X.K X.mg H' σ' ρ' ∧ Stp σ ρ H σ' ρ' H' ∧ Fx fx σ σ' ∧ Want (ct X W fx) m₀ σ' ρ' H' (fun fl ρ'' => EndOk (ct X W fx) m₀ σ ρ H E ρ'' fl) (whileN t b n ρ'), ⟨n0, ρ, rr, .refl, .refl, w⟩, ?_⟩
  rintro n σ2 H2 ⟨ρ2, r2, st2, f2, w2⟩
  cases n with
  | zero => exact w2.elim
  | succ n =>
    refine tT.first r2 w2 fun c ρ3 H3 r3 st3 w3 => ?_
    have t3 : Stp σ ρ H σ2 ρ3 H3 := st2.trans st3
    cases c with
    | false =>
      rw [if_neg Bool.false_ne_true]
      exact w3 σ2 H3 r3 t3 f2
    | true =>
      rw [if_pos rfl]
      refine ⟨fun σ' H' => ∃ ρ', Rel m₀ X.K X.mg H' σ' ρ' ∧ Stp σ ρ H σ' ρ' H' ∧ Fx fx σ σ' ∧ Want (ct X W fx) m₀ σ' ρ' H' (fun fl ρ'' => EndOk (ct X W fx) m₀ σ ρ H E ρ'' fl) (whileN t b n ρ'), fun σ' H' h => ⟨n, Nat.lt_succ_self n, h⟩, ?_⟩
      refine ⟨m₀, ρ3, r3, ?_⟩
      have w3' : Want (ct X W fx) m₀ σ2 ρ3 H3 (fun fl ρ'' => EndOk (ct X W fx) m₀ σ ρ H E ρ'' fl) (M.bind b (fun fl => match fl with
          | .nx => whileN t b n
          | .ct => whileN t b n
          | .bk => M.ret .nx
          | .rt d => M.ret (.rt d)
          | .ro ds => M.ret (.ro ds)) ρ3) := w3
      refine w3'.bind.mono fun fl ρ5 _ w5 => ?_
      cases fl with
      | nx => exact fun σ5 H5 r5 st5 f5 => ⟨ρ5, r5, t3.trans st5, f2.trans f5, Want.later w5 st5 f5⟩
      | ct => exact fun σ5 H5 r5 st5 f5 => ⟨ρ5, r5, t3.trans st5, f2.trans f5, Want.later w5 st5 f5⟩
      | bk => exact fun σ5 H5 r5 st5 f5 => EndOk.later (fl := .nx) w5 t3 f2 σ5 H5 r5 st5 f5
      | rt d => exact fun v σ5 H5 r5 h5 st5 f5 => EndOk.later (fl := .rt d) w5 t3 f2 v σ5 H5 r5 h5 st5 f5
      | ro es => exact fun p vs σ5 H5 r5 n5 e5 h5 st5 f5 => EndOk.later (fl := .ro es) w5 t3 f2 p vs σ5 H5 r5 n5 e5 h5 st5 f5
end
end PV

namespace PV
open PySem PySem.Spec PyProof.Rows L2

/-! ### list comprehensions -/
def wipeE (ρ : En) : List Nat → En
  | [] => ρ
  | v :: vs => (wipeE ρ vs).set v .no
def wipeM (vs : List Nat) : M Unit := fun ρ => if vs.all (fun i => !isOwn ρ i) = true then .ok () (wipeE ρ vs) else .no
def lenM (n : Nat) : M Unit := fun ρ => if ρ.length = n then .ok () ρ else .no
def lcTurn (n : Nat) (vs : List Nat) (g : D → M Unit) (t : M Bool) (f : M D) (d : D) : M (List D) := M.bind (lenM n) fun _ => M.bind (wipeM vs) fun _ => M.bind (g d) fun _ => M.bind (lenM n) fun _ => M.bind t fun b => if b = true then M.bind f fun y => M.ret [y] else M.ret []
def lcL (n : Nat) (vs : List Nat) (g : D → M Unit) (t : M Bool) (f : M D) : List D → M (List D)
  | [] => M.ret []
  | d :: ds => M.bind (lcTurn n vs g t f d) fun ys => M.bind (lcL n vs g t f ds) fun zs => M.ret (ys ++ zs)
def noEr {α : Type} (x : M α) : M α := fun ρ => match x ρ with
  | .ok a ρ' => .ok a ρ'
  | _ => .no
def mLc (n : Nat) (vs : List Nat) (fi : M (List D)) (g : D → M Unit) (t : M Bool) (f : M D) : M (List D) := M.bind fi fun ds => noEr (M.bind (lenM n) fun _ => if ds.length ≤ 100000 then M.bind (lcL n vs g t f ds) fun ys => M.bind (lenM n) fun _ => M.bind (wipeM vs) fun _ => M.ret ys else fun _ => .no)
theorem bind_inv {α β : Type} {x : M α} {f : α → M β} {ρ ρ' : En} {b : β} (h : M.bind x f ρ = .ok b ρ') : ∃ a ρ1, x ρ = .ok a ρ1 ∧ f a ρ1 = .ok b ρ' := by
  unfold M.bind at h
  cases q : x ρ with
  | no => rw [q] at h; cases h
  | er y ρ1 => rw [q] at h; cases h
  | ok a ρ1 => rw [q] at h; exact ⟨a, ρ1, rfl, h⟩
theorem lenM_inv {n : Nat} {u : Unit} {ρ ρ' : En} (h : lenM n ρ = .ok u ρ') : ρ.length = n ∧ ρ = ρ' := by
  unfold lenM at h
  split at h
  · rename_i e; cases h; exact ⟨e, rfl⟩
  · cases h
theorem noEr_inv {α : Type} {c : Ct} {m₀ : Addr → Prop} {σ : L2.St} {ρ : En} {H : Hp} {S : α → En → Prop} {x : M α} (w : Want c m₀ σ ρ H S (noEr x ρ)) : ∃ a ρ', x ρ = .ok a ρ' ∧ S a ρ' := by
  unfold noEr at w
  cases q : x ρ with
  | no => rw [q] at w; exact w.elim
  | er y ρ1 => rw [q] at w; exact w.elim
  | ok a ρ1 => rw [q] at w; exact ⟨a, ρ1, rfl, w⟩
section
variable {m₀ : Addr → Prop} {K : PySem.W.Frag} {g : Str → Option Value} {H H' : Hp} {σ σ1 : L2.St} {ρ ρ' : En} {i : Nat} {x : Option V} {D0 : Addr} {vs : List Nat}
theorem own_forget (h : isOwn ρ i = false) (a : Addr) : Own (σ.set i x) (ρ.set i .no) a ↔ Own σ ρ a := by
  constructor
  · rintro ⟨k, fs, e1, e2⟩
    by_cases hk : k = i
    · subst hk
      by_cases hl : k < ρ.length
      · rw [List.getElem?_set_self hl] at e1; cases e1
      · rw [List.getElem?_eq_none (by simpa using hl)] at e1; cases e1
    · rw [List.getElem?_set_ne (Ne.symm hk)] at e1 e2; exact ⟨k, fs, e1, e2⟩
  · rintro ⟨k, fs, e1, e2⟩
    by_cases hk : k = i
    · subst hk; unfold isOwn at h; rw [e1] at h; cases h
    · exact ⟨k, fs, by rw [List.getElem?_set_ne (Ne.symm hk)]; exact e1, by rw [List.getElem?_set_ne (Ne.symm hk)]; exact e2⟩
theorem Rel.forget (r : Rel m₀ K g H σ ρ) (h : isOwn ρ i = false) : Rel m₀ K g H (σ.set i x) (ρ.set i .no) := by
  have em : mm m₀ (σ.set i x) (ρ.set i .no) = mm m₀ σ ρ := mm_congr (own_forget h)
  have ne : ∀ {k : Nat} {s : Sl}, s ≠ .no → (ρ.set i .no)[k]? = some s → k ≠ i ∧ ρ[k]? = some s := fun {k s} n q => by
    by_cases hk : k = i
    · subst hk
      by_cases hl : k < ρ.length
      · rw [List.getElem?_set_self hl] at q; exact absurd (Option.some.inj q).symm n
      · rw [List.getElem?_eq_none (by simpa using hl)] at q; cases q
    · rw [List.getElem?_set_ne (Ne.symm hk)] at q; exact ⟨hk, q⟩
  refine ⟨by rw [List.length_set, List.length_set]; exact r.len, r.dom, fun j e q => ?_, fun j es q => ?_, fun j k es fs p q1 q2 q3 q4 => ?_⟩
  · obtain ⟨hj, q⟩ := ne (by simp) q
    obtain ⟨w, h1, h2⟩ := r.val j e q
    exact ⟨w, by rw [List.getElem?_set_ne (Ne.symm hj)]; exact h1, by rw [em]; exact h2⟩
  · obtain ⟨hj, q⟩ := ne (by simp) q
    obtain ⟨p, ws, h1, h2, h3, h4⟩ := r.own j es q
    exact ⟨p, ws, by rw [List.getElem?_set_ne (Ne.symm hj)]; exact h1, h2, h3, by rw [em]; exact h4⟩
  · obtain ⟨hj, q1⟩ := ne (by simp) q1
    obtain ⟨hk, q2⟩ := ne (by simp) q2
    rw [List.getElem?_set_ne (Ne.symm hj)] at q3
    rw [List.getElem?_set_ne (Ne.symm hk)] at q4
    exact r.inj j k es fs p q1 q2 q3 q4
theorem isOwn_set {j : Nat} (h : isOwn ρ j = false) : isOwn (ρ.set i .no) j = false := by
  unfold isOwn at h ⊢
  by_cases hk : j = i
  · subst hk
    by_cases hl : j < ρ.length
    · rw [List.getElem?_set_self hl]
    · rw [List.getElem?_eq_none (by simpa using hl)]
  · rw [List.getElem?_set_ne (Ne.symm hk)]; exact h
theorem isOwn_wipe {j : Nat} (h : isOwn ρ j = false) : ∀ vs : List Nat, isOwn (wipeE ρ vs) j = false
  | [] => h
  | v :: vs => isOwn_set (isOwn_wipe h vs)
theorem Rel.wiped (r : Rel m₀ K g H σ ρ) : ∀ vs : List Nat, (vs.all fun i => !isOwn ρ i) = true → Rel m₀ K g H (wipe σ vs) (wipeE ρ vs) ∧ ∀ a, Own (wipe σ vs) (wipeE ρ vs) a ↔ Own σ ρ a
  | [], _ => ⟨r, fun _ => Iff.rfl⟩
  | v :: vs, h => by
    rw [List.all_cons, Bool.and_eq_true] at h
    obtain ⟨r1, o1⟩ := Rel.wiped r vs h.2
    have nv : isOwn (wipeE ρ vs) v = false := isOwn_wipe (by simpa using h.1) vs
    exact ⟨r1.forget nv, fun a => (own_forget nv a).trans (o1 a)⟩
theorem wipeE_no : ∀ {vs : List Nat} {j : Nat} {s : Sl}, j ∈ vs → (wipeE ρ vs)[j]? = some s → s = .no
  | [], _, _, h, _ => by cases h
  | v :: vs, j, s, h, e => by
    have e' : ((wipeE ρ vs).set v .no)[j]? = some s := e
    by_cases hj : j = v
    · subst hj
      by_cases hl : j < (wipeE ρ vs).length
      · rw [List.getElem?_set_self hl] at e'; exact (Option.some.inj e').symm
      · rw [List.getElem?_eq_none (by simpa using hl)] at e'; cases e'
    · rw [List.getElem?_set_ne (Ne.symm hj)] at e'
      exact wipeE_no ((List.mem_cons.mp h).resolve_left hj) e'
theorem wipeE_length : ∀ vs : List Nat, (wipeE ρ vs).length = ρ.length
  | [] => rfl
  | v :: vs => by show ((wipeE ρ vs).set v .no).length = _; rw [List.length_set, wipeE_length vs]
/-- the slots that say nothing may hold anything -/
theorem Rel.cong (r : Rel m₀ K g H σ1 ρ) (hl : σ.length = ρ.length) (h : ∀ (j : Nat) (s : Sl), ρ[j]? = some s → s ≠ .no → σ[j]? = σ1[j]?) : Rel m₀ K g H σ ρ ∧ ∀ a, Own σ ρ a ↔ Own σ1 ρ a := by
  have o : ∀ a, Own σ ρ a ↔ Own σ1 ρ a := fun a => by
    constructor
    · rintro ⟨k, fs, e1, e2⟩; exact ⟨k, fs, e1, by rw [← h k _ e1 (by simp)]; exact e2⟩
    · rintro ⟨k, fs, e1, e2⟩; exact ⟨k, fs, e1, by rw [h k _ e1 (by simp)]; exact e2⟩
  have em : mm m₀ σ ρ = mm m₀ σ1 ρ := mm_congr o
  refine ⟨⟨hl, r.dom, fun j e q => ?_, fun j es q => ?_, fun j k es fs p q1 q2 q3 q4 => ?_⟩, o⟩
  · obtain ⟨w, h1, h2⟩ := r.val j e q
    exact ⟨w, by rw [h j _ q (by simp)]; exact h1, by rw [em]; exact h2⟩
  · obtain ⟨p, ws, h1, h2, h3, h4⟩ := r.own j es q
    exact ⟨p, ws, by rw [h j _ q (by simp)]; exact h1, h2, h3, by rw [em]; exact h4⟩
  · rw [h j _ q1 (by simp)] at q3
    rw [h k _ q2 (by simp)] at q4
    exact r.inj j k es fs p q1 q2 q3 q4
/-- what is in m₀ may be written -/
theorem Rel.updOut {o : HO} (r : Rel m₀ K g H σ ρ) (hd : m₀ D0) : Rel m₀ K g (upd H D0 o) σ ρ ∧ Kp (mm m₀ σ ρ) H (upd H D0 o) := by
  have kp : Kp (mm m₀ σ ρ) H (upd H D0 o) := fun a u n e => by
    rw [upd_ne (fun z => n (by rw [z]; exact .inl hd))]; exact e
  refine ⟨⟨r.len, fun a z => ?_, fun j e q => ?_, fun j es q => ?_, r.inj⟩, kp⟩
  · by_cases y : a = D0
    · rw [y, upd_same]; simp
    · rw [upd_ne y]; exact r.dom a z
  · obtain ⟨w, h1, h2⟩ := r.val j e q
    exact ⟨w, h1, Rp.mono Sub'.refl kp _ _ h2⟩
  · obtain ⟨p, ws, h1, h2, h3, h4⟩ := r.own j es q
    refine ⟨p, ws, h1, h2, ?_, RpA.mono Sub'.refl kp _ _ h4⟩
    rw [upd_ne (fun z => h2 (by rw [z]; exact hd))]; exact h3
theorem Stp.updNew {H1 : Hp} {σ0 : L2.St} {ρ0 : En} {o : HO} (s : Stp σ0 ρ0 H1 σ ρ H) (n : H1 D0 = none) : Stp σ0 ρ0 H1 σ ρ (upd H D0 o) := by
  refine ⟨fun a u m e => ?_, fun a m => ?_, s.own⟩
  · rw [upd_ne (ne_of_none e n)]; exact s.keep a u m e
  · by_cases y : a = D0
    · rw [y, upd_same]; simp
    · rw [upd_ne y]; exact s.grow a m
theorem Stp.same {σ' : L2.St} (o : ∀ a, Own σ' ρ' a ↔ Own σ ρ a) : Stp σ ρ H σ' ρ' H := ⟨Kp.refl, fun _ h => h, fun a z => .inl ((o a).mp z)⟩
end
abbrev W0 : WX := fun _ _ _ _ => False
theorem lc_imp {K : PySem.W.Frag} {mg : Str → Option Value} {W : WX} {fx fx' vs : List Nat} {n : Nat} {fi : M (List D)} {g : D → M Unit} {t : M Bool} {f : M D} {σ : L2.St} {H : Hp} {Q : VK}
    (hfx : ∀ j, j < n → j ∉ vs → j ∈ fx') (h : tN ⟨K, mg, W, fx⟩ (mLc n vs fi g t f) σ H Q) : tLc (tI ⟨K, mg, W, fx⟩ fi) (tG ⟨K, mg, W0, fx'⟩ g) (tT ⟨K, mg, W0, fx'⟩ t) (tE ⟨K, mg, W0, fx'⟩ f) vs σ H Q := by
  obtain ⟨m₀, ρ, rr, w⟩ := h
  refine tI.first rr w fun ds ρ1 J H1 r1 ⟨S, s0, sm, si, se⟩ st1 w1 D0 hD => ?_
  obtain ⟨ys, ρe, e1, fin⟩ := noEr_inv w1
  obtain ⟨_, ρ1', e2, e3⟩ := bind_inv e1
  unfold lenM at e2
  split at e2
  · rename_i hn
    cases e2
    split at e3
    · rename_i hz
      obtain ⟨zs, ρ2, e4, e5⟩ := bind_inv e3
      obtain ⟨_, ρ3', e8, e9⟩ := bind_inv e5
      obtain ⟨hne, rfl⟩ := lenM_inv e8
      obtain ⟨_, ρ3, e6, e7⟩ := bind_inv e9
      cases e7
      unfold wipeM at e6
      split at e6
      · rename_i hw
        cases e6
        have nm : ¬ m₀ D0 := fun z => r1.dom D0 z hD
        -- the state between two turns
        refine ⟨fun i k H' => k = ds.length - i ∧ i ≤ ds.length ∧ ∃ σi ρi acc av, wipe σi vs = wipe σ vs ∧ Rel (mp m₀ D0) K mg H' σi ρi ∧ Stp σ ρ1 H1 σi ρi H' ∧ S (mm (mp m₀ D0) σi ρi) H' ∧ H' D0 = some (.lst av) ∧ RpA (mm (mp m₀ D0) σi ρi) K mg H' av acc ∧ acc.length ≤ i ∧
            ∃ rest, lcL n vs g t f (ds.drop i) ρi = .ok rest ρ2 ∧ acc ++ rest = ys, ⟨ds.length, by simp, Nat.zero_le _, σ, ρ1, [], [], rfl, r1.add hD, Stp.grown (keep_new hD), ?_, upd_same, .nil, Nat.le_refl _, ys, e4, rfl⟩, ?_⟩
        · exact sm _ _ _ _ s0 (fun a z => by
            rcases z with (z | z) | z
            · exact .inl (.inl z)
            · rw [z]; exact .inr hD
            · exact .inl (.inr z)) (fun a o m e => keep_new hD a o e)
        · rintro i k H2 ⟨rfl, hi, σi, ρi, acc, av, ws, r2, st2, s2, hav, ra, hal, rest, el, eacc⟩
          by_cases hlt : i < ds.length
          · right
            have ed : ds.drop i = ds[i] :: ds.drop (i + 1) := (List.drop_eq_getElem_cons hlt)
            rw [ed] at el
            obtain ⟨y0, ρ4, t1, t2⟩ := bind_inv el
            obtain ⟨z0, ρ5, t3, t4⟩ := bind_inv t2
            cases t4
            obtain ⟨_, ρ6', u0, t5⟩ := bind_inv t1
            obtain ⟨hn2, rfl⟩ := lenM_inv u0
            obtain ⟨_, ρ6, u1, u2⟩ := bind_inv t5
            unfold wipeM at u1
            split at u1
            · rename_i hw2
              cases u1
              obtain ⟨_, ρ7, u3, u4⟩ := bind_inv u2
              obtain ⟨_, ρ8, u5, u6⟩ := bind_inv u4
              unfold lenM at u5
              split at u5
              · rename_i hn3
                cases u5
                obtain ⟨b, ρ9, u7, u8⟩ := bind_inv u6
                have ei : ds[i]? = some ds[i] := List.getElem?_eq_getElem hlt
                obtain ⟨go, hy⟩ := si i _ H2 _ s2 (fun p hp => r2.new_out hp) ei
                refine ⟨go, fun H' => ∃ σi ρi acc av, wipe σi vs = wipe σ vs ∧ Rel (mp m₀ D0) K mg H' σi ρi ∧ Stp σ ρ1 H1 σi ρi H' ∧ S (mm (mp m₀ D0) σi ρi) H' ∧ H' D0 = some (.lst av) ∧ RpA (mm (mp m₀ D0) σi ρi) K mg H' av acc ∧ acc.length ≤ i + 1 ∧
                    ∃ rest, lcL n vs g t f (ds.drop (i + 1)) ρi = .ok rest ρ2 ∧ acc ++ rest = ys, fun H' h => ⟨ds.length - (i + 1), by omega, rfl, hlt, h⟩, fun x H3 yl => ?_⟩
                obtain ⟨k3, h3⟩ := hy x H3 yl
                obtain ⟨rw', ow⟩ := r2.wiped vs hw2
                rw [ws] at rw' ow
                have em : mm (mp m₀ D0) (wipe σ vs) (wipeE ρi vs) = mm (mp m₀ D0) σi ρi := mm_congr ow
                have r3 := rw'.grown k3
                refine ⟨mp m₀ D0, wipeE ρi vs, _, r3, by rw [em]; exact h3, ?_⟩
                rw [u3]
                intro σ4 H4 r4 st4 f4
                have hl4 : σ4.length = (wipe σ vs).length := by
                  rw [r4.len, hn3, rw'.len, wipeE_length, hn2]
                have wv : wipe σ4 vs = wipe σ vs := by
                  refine List.ext_getElem? fun j => ?_
                  by_cases hj : j ∈ vs
                  · have a1 : ∀ (τ : L2.St), τ.length = n → j < n → (wipe τ vs)[j]? = some none := fun τ hτ hjn => by
                      cases q : (wipe τ vs)[j]? with
                      | none => rw [List.getElem?_eq_none_iff, wipe_length, hτ] at q; omega
                      | some s =>
                        cases s with
                        | none => rfl
                        | some v => exact absurd hj (wipe_some q).2
                    have ln4 : σ4.length = n := by rw [r4.len]; exact hn3
                    have ln : σ.length = n := by rw [r1.len]; exact hn
                    by_cases hjn : j < n
                    · rw [a1 _ ln4 hjn, a1 _ ln hjn]
                    · rw [List.getElem?_eq_none (by rw [wipe_length, ln4]; omega), List.getElem?_eq_none (by rw [wipe_length, ln]; omega)]
                  · rw [wipe_out hj, wipe_out hj]
                    by_cases hjn : j < n
                    · rw [f4 j (hfx j hjn hj), wipe_out hj]
                    · have ln4 : σ4.length = n := by rw [r4.len]; exact hn3
                      have ln : σ.length = n := by rw [r1.len]; exact hn
                      rw [List.getElem?_eq_none (by omega), List.getElem?_eq_none (by omega)]
                refine ⟨wv, mp m₀ D0, ρ7, r4, ?_⟩
                rw [u7]
                intro H5 r5 st5
                -- the steps since the turn began
                have q1 : Stp σi ρi H2 (wipe σ vs) (wipeE ρi vs) H2 := Stp.same ow
                have q2 : Stp σi ρi H2 σ4 ρ9 H5 := q1.trans ((Stp.grown k3).trans (st4.trans st5))
                have nD : ∀ {τ : L2.St} {π : En} {G : Hp}, Rel (mp m₀ D0) K mg G τ π → ¬ Own τ π D0 := fun {τ π G} rl ⟨j, es, e1, e2⟩ => by
                  obtain ⟨p, _, h1, h2, _, _⟩ := rl.own j es e1
                  rw [e2] at h1; cases h1
                  exact h2 (.inr rfl)
                have ext : ∀ {ρ10 : En} {H6 : Hp} {G : Hp} {a2 : List D} {v2 : List V}, Rel (mp m₀ D0) K mg H6 σ4 ρ10 → Stp σi ρi H2 σ4 ρ10 H6 → (G = H6 ∧ v2 = av ∨ ∃ o, G = upd H6 D0 o ∧ o = .lst v2) → RpA (mm (mp m₀ D0) σ4 ρ10) K mg G v2 a2 → a2.length ≤ i + 1 →
                    (∃ rest, lcL n vs g t f (ds.drop (i + 1)) ρ10 = .ok rest ρ2 ∧ a2 ++ rest = ys) → ∃ σi ρi acc av, wipe σi vs = wipe σ vs ∧ Rel (mp m₀ D0) K mg G σi ρi ∧ Stp σ ρ1 H1 σi ρi G ∧ S (mm (mp m₀ D0) σi ρi) G ∧ G D0 = some (.lst av) ∧ RpA (mm (mp m₀ D0) σi ρi) K mg G av acc ∧ acc.length ≤ i + 1 ∧
                    ∃ rest, lcL n vs g t f (ds.drop (i + 1)) ρi = .ok rest ρ2 ∧ acc ++ rest = ys := fun {ρ10 H6 G a2 v2} r6 st6 hG rp6 hal6 hr6 => by
                  have s6 : S (mm (mp m₀ D0) σ4 ρ10) H6 := sm _ _ _ _ s2 (fun a z => by
                    rcases z with z | z
                    · exact .inl (.inl z)
                    · rcases st6.own a z with y | y
                      · exact .inl (.inr y)
                      · exact .inr y) (fun a o m e => st6.keep a o (fun z => m (.inr z)) e)
                  have t6 := st2.trans st6
                  have d6 : H6 D0 = some (.lst av) := st6.keep D0 _ (nD r2) hav
                  rcases hG with ⟨rfl, rfl⟩ | ⟨o, rfl, rfl⟩
                  · exact ⟨σ4, ρ10, a2, v2, wv, r6, t6, s6, d6, rp6, hal6, hr6⟩
                  · obtain ⟨r7, k7⟩ := r6.updOut (o := .lst v2) (D0 := D0) (.inr rfl)
                    exact ⟨σ4, ρ10, a2, v2, wv, r7, t6.updNew hD, sm _ _ _ _ s6 Sub'.refl k7, upd_same, rp6, hal6, hr6⟩
                have ra5 := q2.rpA r2 ra
                cases b with
                | false =>
                  rw [if_neg Bool.false_ne_true] at u8 ⊢
                  cases u8
                  exact ext r5 q2 (.inl ⟨rfl, rfl⟩) ra5 (by omega) ⟨z0, t3, eacc⟩
                | true =>
                  rw [if_pos rfl] at u8 ⊢
                  obtain ⟨yv, ρ10, u9, u10⟩ := bind_inv u8
                  cases u10
                  refine ⟨mp m₀ D0, ρ9, r5, ?_⟩
                  rw [u9]
                  intro y H6 r6 hy6 st6
                  have q3 : Stp _ _ H2 σ4 ρ4 H6 := q2.trans st6
                  have hD6 : H6 D0 = some (.lst av) := q3.keep D0 _ (nD r2) hav
                  have ra6 := q3.rpA r2 ra
                  obtain ⟨r7, k7⟩ := r6.updOut (o := .lst (av ++ [y])) (D0 := D0) (.inr rfl)
                  refine ⟨av, hD6, ?_, ext r6 q3 (.inr ⟨_, rfl, rfl⟩) (RpA.mono Sub'.refl k7 _ _ (ra6.append (.cons hy6 .nil))) (by simp; omega) ⟨z0, t3, by rw [List.append_assoc]; exact eacc⟩⟩
                  rw [ra.length]
                  exact Nat.lt_of_le_of_lt (by omega : acc.length ≤ 100000) (by decide)
              · cases u5
            · cases u1
          · left
            have e : i = ds.length := by omega
            subst e
            rw [List.drop_length] at el
            have el' : (R.ok [] ρi : R (List D)) = .ok rest ρ2 := el
            cases el'
            rw [List.append_nil] at eacc
            subst eacc
            refine ⟨se _ _ s2, ?_⟩
            obtain ⟨rw', ow⟩ := r2.wiped vs hw
            rw [ws] at rw' ow
            obtain ⟨r9, o9⟩ := Rel.cong (σ := σ) rw' (by rw [wipeE_length, hne, r1.len]; exact hn) fun j s q ns => by
              by_cases hj : j ∈ vs
              · exact absurd (wipeE_no hj q) ns
              · rw [wipe_out hj]
            have ot : ∀ a, Own σ (wipeE _ vs) a ↔ Own σi _ a := fun a => (o9 a).trans (ow a)
            refine fin D0 av H2 r9 (st1.back hD) hav ?_ (st1.trans (st2.trans (Stp.same ot)))
            rw [mm_congr ot]; exact ra
      · cases e6
    · cases e3
  · cases e2
end PV

namespace PV
open PySem PySem.Spec PyProof.Rows L2

/-! ### comprehensions as expressions and statements -/
abbrev IfV (X : Cx) (W : WX) (fx : List Nat) (ifs : List Expr) (t : M Bool) : Prop := PTs X ifs (tT (ct X W fx) t)
section
variable {X : Cx} {W : WX} {fx fx' : List Nat} {e : Expr} {t : M Bool} {fi : M (List D)} {g : D → M Unit} {f : M D} {elt tg iter : Expr} {ifs : List Expr} {scope : Scope} {own : List (Str × Nat)} {pos spos py : Pos} {n i : Nat} {y : Str}
theorem PTs.imp {t t' : TT} (h : PTs X ifs t) (i : ∀ σ H Q, t' σ H Q → t σ H Q) : PTs X ifs t' := ⟨fun pins s σ H Q I w => h.run pins s σ H Q I (i σ H Q w)⟩
theorem if_nil : IfV X W fx [] (M.ret true) := PTs.imp pts_nil fun σ H Q ⟨m₀, ρ, rr, w⟩ => w H rr .refl
theorem if_one (h : TV X W fx e t) : IfV X W fx [e] t := pts_one h
abbrev Blk (X : Cx) (scope : Scope) (p : Cx → Prop) : Prop := ∀ (s : Shared) (H : Hp) (C : Addr) (cl : List (Str × Addr)) (fp : List Addr), p (X.blk s H scope (compEnvC scope cl C X.env) fp)
theorem n_lc (hc : X.calm = true) (hN : X.N.Nodup) (hi : IV X W fx tg iter fi) (ok : BlkOk X.N X.env.scope scope own) (hg : Blk X scope fun Y => GV Y W0 fx' tg g) (ht : Blk X scope fun Y => IfV Y W0 fx' ifs t) (he : Blk X scope fun Y => EV Y W0 fx' elt f)
    (hfx : ∀ j, j < n → j ∉ own.map (·.2) → j ∈ fx') (hs : ∀ x, foldedSetIterable iter X.env x = pure x := by intro _; rfl) : NV X W fx (.ListComp elt [⟨tg, iter, ifs, 0⟩] scope pos) (mLc n (own.map (·.2)) fi g t f) :=
  PE.imp (pe_lc hc hN hi ok hg ht he hs) fun σ H Q h => lc_imp hfx h
theorem s_setLc (i : Nat) {y : Str} (hc : X.calm = true) (hN : X.N.Nodup) (hsw : swapsWith (.ListComp elt [⟨tg, iter, ifs, 0⟩] scope pos) (some (.Name y py)) spos.line X.env = pure true) (hi : IV X W fx tg iter fi) (ok : BlkOk X.N X.env.scope scope own)
    (hg : Blk X scope fun Y => GV Y W0 fx' tg g) (ht : Blk X scope fun Y => IfV Y W0 fx' ifs t) (he : Blk X scope fun Y => EV Y W0 fx' elt f) (hfx : ∀ j, j < n → j ∉ own.map (·.2) → j ∈ fx') (hfi : i ∉ fx := by decide)
    (hy : X.N[i]? = some y := by rfl) (hyl : X.env.scope.names.lookup y = some .local := by rfl) (hs : ∀ x, foldedSetIterable iter X.env x = pure x := by intro _; rfl) : SV X W fx (.Assign [.Name y py] (.ListComp elt [⟨tg, iter, ifs, 0⟩] scope pos) spos) (mSet i (mLst (mLc n (own.map (·.2)) fi g t f))) := by
  refine PS.imp (ps_setLc (g := tG (ct X W0 fx') g) (tt := tT (ct X W0 fx') t) (te := tE (ct X W0 fx') f) hc hN hy hyl hsw hi ok hg ht he hs) fun E σ H h => ?_
  obtain ⟨m₀, ρ, rr, w⟩ := h
  have w' : Want (ct X W fx) m₀ σ ρ H (fun fl ρ' => EndOk (ct X W fx) m₀ σ ρ H E ρ' fl) (M.bind (mLc n (own.map (·.2)) fi g t f) (fun ds => M.bind (put i (.val (.lst ds))) fun _ => M.ret .nx) ρ) := by
    have e : mSet i (mLst (mLc n (own.map (·.2)) fi g t f)) ρ = M.bind (mLc n (own.map (·.2)) fi g t f) (fun ds => M.bind (put i (.val (.lst ds))) fun _ => M.ret .nx) ρ := by
      unfold mSet mLst
      show R.andThen (R.andThen (mLc n (own.map (·.2)) fi g t f ρ) _) _ = R.andThen _ _
      cases mLc n (own.map (·.2)) fi g t f ρ <;> rfl
    rw [← e]; exact w
  refine lc_imp (W := W) hfx (tN.first rr w' fun ds ρ1 p vs H1 r1 n1 e1 h1 s1 w1 => ?_)
  obtain ⟨hil, w2⟩ := put_ok w1
  have nm : ¬ m₀ p := fun z => rr.dom p z n1
  exact w2 _ H1 (r1.drop.put hil (.lst ⟨r1.out nm, e1⟩ (rpA_drop h1))) (s1.trans .set) (fx_set hfi)
theorem s_ownLc (i : Nat) {y : Str} (hc : X.calm = true) (hN : X.N.Nodup) (hsw : swapsWith (.ListComp elt [⟨tg, iter, ifs, 0⟩] scope pos) (some (.Name y py)) spos.line X.env = pure true) (hi : IV X W fx tg iter fi) (ok : BlkOk X.N X.env.scope scope own)
    (hg : Blk X scope fun Y => GV Y W0 fx' tg g) (ht : Blk X scope fun Y => IfV Y W0 fx' ifs t) (he : Blk X scope fun Y => EV Y W0 fx' elt f) (hfx : ∀ j, j < n → j ∉ own.map (·.2) → j ∈ fx') (hfi : i ∉ fx := by decide)
    (hy : X.N[i]? = some y := by rfl) (hyl : X.env.scope.names.lookup y = some .local := by rfl) (hs : ∀ x, foldedSetIterable iter X.env x = pure x := by intro _; rfl) : SV X W fx (.Assign [.Name y py] (.ListComp elt [⟨tg, iter, ifs, 0⟩] scope pos) spos) (mOwn i (mLc n (own.map (·.2)) fi g t f)) := by
  refine PS.imp (ps_setLc (g := tG (ct X W0 fx') g) (tt := tT (ct X W0 fx') t) (te := tE (ct X W0 fx') f) hc hN hy hyl hsw hi ok hg ht he hs) fun E σ H h => ?_
  obtain ⟨m₀, ρ, rr, w⟩ := h
  refine lc_imp (W := W) hfx (tN.first rr w fun ds ρ1 p vs H1 r1 n1 e1 h1 s1 w1 => ?_)
  obtain ⟨hil, w2⟩ := put_ok w1
  exact w2 _ H1 (r1.putOwn (fun z => rr.dom p z n1) hil e1 h1) (s1.putOwn n1) (fx_set hfi)
end

/-! ### defs -/
/-- a def of the text: called where nothing is being shown by repr, it keeps its promise -/
structure FnG (P : Program) (w : World) (K : PySem.W.Frag) (mg : Str → Option Value) (base : Heap) (k : Nat) (f : Addr) (fd : FuncData) (ps : List Str) (sp : Sp) : Prop where
  len : ∀ vs H Q E, sp vs H Q E → vs.length = ps.length
  run : ∀ (A : Around) (outer : List PySem.Env) (s : Shared) (H : Hp) (args : Args) (us : List Value) (vs : List V) (Q : VK) (E : XK), Room k A → A.guards = some [] → Env0 P w K mg base A outer s H → BindsTo s fd args (ps.zip us) → Vals vs us →
    sp vs H Q E → codeAny (model P w) A (.call (.ref f) args) (CR (L2.CX P w) outer P w H s Q E) s
section
variable {P : Program} {w : World} {K : PySem.W.Frag} {mg : Str → Option Value} {base : Heap}
theorem Fun.okG {x qual : Str} {st : Stmt} {f : Addr} {fd : FuncData} {N ps : List Str} {k : Nat} {sp : Sp} (F : Fun K x qual st f fd) (S : FnScope N ps (defScope st)) (len : ∀ vs H Q E, sp vs H Q E → vs.length = ps.length)
    (hbody : ∀ (cdv : Value) (A : Around) (outer : List PySem.Env) (s : Shared) (H : Hp) (vs : List V) (Q : VK) (E : XK), Room k (A.deeper (envOfC qual (defScope st) s.heap.objs.size f cdv)) → A.guards = some [] → sp vs H Q E →
      ∃ t, PSs (cxOf (L2.CX P w) P w K mg base N qual (defScope st) f cdv A outer s H E) (defBody st) t ∧ t { nx := fun _ H' => Q .non H', rt := Q } (start N vs) H) : FnG P w K mg base (k + 1) f fd ps sp := by
  obtain ⟨oc, od, kV, doc, pm, an, cdv, ct, osl, rfl, lk, hcd⟩ := F.ex
  refine ⟨len, fun A outer s H args us vs Q E room guard e0 bound rel want => ?_⟩
  have count := len _ _ _ _ want
  have inK : K.In s.heap := e0.mod.kin.keeps fun b o e => (e0.bs b o e).1
  have free : s.heap.NoLimit := e0.mod.nolimit.keeps fun b o e => (e0.bs b o e).1
  have kinds : ∀ y ∈ ps.zip us, (defScope st).names.lookup y.1 = some .local ∨ ((defScope st).names.lookup y.1 = some .cell ∧ ((cellsFrom (s.heap.objs.size + 1) (defScope st).names []).lookup y.1).isSome = true) := by
    rintro ⟨n, v⟩ hy
    rcases S.par n (List.of_mem_zip hy).1 with q | q
    · exact .inl q
    · exact .inr ⟨q, PySem.W.cellsFrom_some _ _ _ (.inl q)⟩
  refine codeAny_call_function room.depth (inK _ _ lk) rfl S.co S.gen rfl (PySem.W.codeRec_of inK hcd) (bound _ _ _ _ ?_)
  refine wpAny_newFunctionEnv_cells S.kind kinds fun env he s1 x => ?_
  subst he
  refine ⟨free.keeps x.toInCall.keep, codeAny_func ?_⟩
  obtain ⟨t, ht, hq⟩ := hbody cdv A outer s H vs Q E (room.deeper _) guard want
  have I : Inv (cxOf (L2.CX P w) P w K mg base N qual (defScope st) f cdv A outer s H E) [] (start N vs) H s1 := inv_start S room.hd e0 count rel x
  refine wpAny_mono (ht.run [] s1 (start N vs) H _ I hq) (fun fl s' hs => ?_) fun _ _ hs => hs
  cases fl with
  | ret u =>
    obtain ⟨v, σ', H', J, rv, q⟩ := hs
    exact ⟨v, H', J.os, J.bare, J.base, J.hok, rv, q⟩
  | next =>
    obtain ⟨σ', H', J, q⟩ := hs
    exact ⟨V.non, H', J.os, J.bare, J.base, J.hok, rfl, q⟩
  | brk => exact hs.choose_spec.choose_spec.2.elim
  | cont => exact hs.choose_spec.choose_spec.2.elim
end
section
variable {X : Cx} {W : WX} {fx : List Nat} {k : Nat} {f : Addr} {fd : FuncData} {ps ks : List Str} {sp : Sp} {x : Str} {p pos : Pos} {e : Expr} {es : List Expr} {kws : List Keyword} {t tk : TA} {g : List Value → List Value → List Value} {gV : List V → List V → List V}
theorem run_G {pins : List (Addr × Obj)} {σ : L2.St} {H : Hp} {s : Shared} {Q : VK} {E : XK} {args : Args} {us : List Value} {vs : List V} (F : FnG X.prog X.w X.K X.mg X.base k f fd ps sp) (hr : Room k X.A) (hgd : X.A.guards = some []) (hx : ∀ (e : Value) (s' : Shared), L2.CX X.prog X.w X.stack H s E e s' → X.xe e s')
    (hb : BindsTo s fd args (ps.zip us)) (I : Inv X pins σ H s) (r : Vals vs us) (h : sp vs H Q E) : wpAny (model X.prog X.w) X.A (call (.ref f) args.pos args.kw) (EP X pins σ Q) X.xe s := by
  refine wpAny_call (codeAny_mono (F.run X.A X.stack s H args us vs Q E hr hgd I.env0 hb r h) fun r s' hq => ?_)
  cases r with
  | error e => exact hx e s' hq
  | ok fl =>
    cases fl with
    | ret u => exact I.after hq
    | next => exact False.elim hq
    | brk => exact False.elim hq
    | cont => exact False.elim hq
end
end PV

namespace PV
open PySem PySem.Spec PyProof.Rows L2

section
variable {X : Cx} {W : WX} {fx : List Nat} {k : Nat} {f : Addr} {fd : FuncData} {ps ks : List Str} {sp : Sp} {x : Str} {p pos : Pos} {e : Expr} {es : List Expr} {kws : List Keyword} {t tk : TA} {g : List Value → List Value → List Value} {gV : List V → List V → List V}
theorem out_ok {pins : List (Addr × Obj)} {σ : L2.St} {H : Hp} {s : Shared} (tw : Takes X W) (I : Inv X pins σ H s) : ∀ (e : Value) (s' : Shared), L2.CX X.prog X.w X.stack H s (WE W σ) e s' → X.xe e s' := fun e s' c => tw e s' (XE.of_call I (fun _ _ _ h => h) c)
theorem pe_callG (F : FnG X.prog X.w X.K X.mg X.base k f fd ps sp) (hr : Room k X.A) (hgd : X.A.guards = some []) (hg : Gl X x) (hm : X.mg x = some (.ref f)) (hk : PySem.W.keepIn X.K (.ref f) = true) (hb : Binds X.K fd ps []) (tw : Takes X W)
    (ha : PA X (e :: es) t) (hdb : (x == ("__debug__" : Str)) = false := by decide) (he : starEach (e :: es) X.env = (false, eval e X.env) :: starEach es X.env := by rfl) (hpl : (backTo pos (starEach es X.env)).any (·.1) = false := by rfl) :
    PE X (.Call (.Name x p) (e :: es) [] pos) (tCallS sp (WE W) t) := by
  refine ⟨fun pins s σ H Q I h => ?_⟩
  refine wpAny_Call_Name_kw (ld_glob I hg hm ?_ hdb)
  refine PySem.W.callWith_K (h₀ := X.base) I.ok.mod.kin hk (thn (ha.run pos pins s σ H _ I h) fun us s1 ⟨vs, H1, I1, r, q⟩ => ⟨I1.kIn, ?_⟩) he hpl
  have hl : us.length = ps.length := by rw [← r.length]; exact F.len _ _ _ _ q
  have b := hb s1 us I1.kIn (by rw [List.append_nil]; exact hl)
  rw [List.append_nil] at b
  exact run_G (args := ⟨us, []⟩) F hr hgd (out_ok tw I1) b I1 r q
theorem pe_call0G (F : FnG X.prog X.w X.K X.mg X.base k f fd ps sp) (hr : Room k X.A) (hgd : X.A.guards = some []) (hg : Gl X x) (hm : X.mg x = some (.ref f)) (hk : PySem.W.keepIn X.K (.ref f) = true) (hb : Binds X.K fd ps []) (tw : Takes X W)
    (hdb : (x == ("__debug__" : Str)) = false := by decide) : PE X (.Call (.Name x p) [] [] pos) (tCallS sp (WE W) tNil) := by
  refine ⟨fun pins s σ H Q I h => ?_⟩
  refine wpAny_Call_Name_kw (ld_glob I hg hm ?_ hdb)
  have hl : ([] : List Value).length = ps.length := F.len _ _ _ _ h
  have b := hb s [] I.kIn (by rw [List.append_nil]; exact hl)
  rw [List.append_nil] at b
  exact PySem.W.callWith_K0 I.kIn hk (run_G (args := ⟨[], []⟩) F hr hgd (out_ok tw I) b I .nil h)
def tCallKS (sp : Sp) (gV : List V → List V → List V) (E : L2.St → XK) (t tk : TA) : TE := fun σ H Q => t σ H fun vs H1 => tk σ H1 fun zs H2 => sp (gV vs zs) H2 Q (E σ)
theorem pe_callKG (F : FnG X.prog X.w X.K X.mg X.base k f fd ps sp) (hr : Room k X.A) (hgd : X.A.guards = some []) (hg : Gl X x) (hm : X.mg x = some (.ref f)) (hk : PySem.W.keepIn X.K (.ref f) = true) (hb : KBinds X.K fd ps ks g gV) (tw : Takes X W)
    (ha : PA X (e :: es) t) (hkw : PK X kws tk) (hall : (backToKw pos (keywordEach kws X.env)).all (·.1.isSome) = true := by rfl) (hks : (backToKw pos (keywordEach kws X.env)).filterMap (·.1) = ks := by rfl)
    (hdb : (x == ("__debug__" : Str)) = false := by decide) (he : starEach (e :: es) X.env = (false, eval e X.env) :: starEach es X.env := by rfl)
    (hpl : ((backTo pos (starEach (e :: es) X.env)).any (·.1) || (backToKw pos (keywordEach kws X.env)).any (·.1.isNone)) = false := by rfl) :
    PE X (.Call (.Name x p) (e :: es) kws pos) (tCallKS sp gV (WE W) t tk) := by
  refine ⟨fun pins s σ H Q I h => ?_⟩
  refine wpAny_Call_Name_kw (ld_glob I hg hm ?_ hdb)
  refine PySem.W.callWith_KW (h₀ := X.base) I.ok.mod.kin hk hall (thn (ha.run pos pins s σ H _ I h) fun us s1 ⟨vs, H1, I1, r, q⟩ => ?_) hpl he
  refine thn (hkw.run pos pins s1 σ H1 _ I1 q) fun ws s2 ⟨zs, H2, I2, rz, q2⟩ => ⟨I2.kIn, ?_⟩
  rw [hks]
  have r2 := hb.rel r rz
  have hl : (g us ws).length = ps.length := by rw [← r2.length]; exact F.len _ _ _ _ q2
  exact run_G (args := ⟨us, ks.zip ws⟩) F hr hgd (out_ok tw I2) (hb.to s2 us ws I2.kIn hl) I2 r2 q2
theorem pe_callK0G (F : FnG X.prog X.w X.K X.mg X.base k f fd ps sp) (hr : Room k X.A) (hgd : X.A.guards = some []) (hg : Gl X x) (hm : X.mg x = some (.ref f)) (hk : PySem.W.keepIn X.K (.ref f) = true) (hb : KBinds X.K fd ps ks g gV) (tw : Takes X W)
    (hkw : PK X kws tk) (hall : (backToKw pos (keywordEach kws X.env)).all (·.1.isSome) = true := by rfl) (hks : (backToKw pos (keywordEach kws X.env)).filterMap (·.1) = ks := by rfl)
    (hdb : (x == ("__debug__" : Str)) = false := by decide)
    (hpl : ((backTo pos (starEach [] X.env)).any (·.1) || (backToKw pos (keywordEach kws X.env)).any (·.1.isNone)) = false := by rfl) :
    PE X (.Call (.Name x p) [] kws pos) (tCallKS sp gV (WE W) tNil tk) := by
  refine ⟨fun pins s σ H Q I h => ?_⟩
  refine wpAny_Call_Name_kw (ld_glob I hg hm ?_ hdb)
  refine PySem.W.callWith_KW0 (h₀ := X.base) I.ok.mod.kin hk hall (thn (hkw.run pos pins s σ H _ I h) fun ws s2 ⟨zs, H2, I2, rz, q2⟩ => ⟨I2.kIn, ?_⟩) hpl
  rw [hks]
  have r2 := hb.rel .nil rz
  have hl : (g [] ws).length = ps.length := by rw [← r2.length]; exact F.len _ _ _ _ q2
  exact run_G (args := ⟨[], ks.zip ws⟩) F hr hgd (out_ok tw I2) (hb.to s2 [] ws I2.kIn hl) I2 r2 q2
end

/-! ### promises by mirrors -/
def OkD (K : PySem.W.Frag) (mg : Str → Option Value) (m₀ : Addr → Prop) (σ : L2.St) (ρ : En) (H : Hp) (Q : VK) (E : XK) : R D → Prop
  | .no => False
  | .er x ρ' => ∀ cl d H', Rel m₀ K mg H' σ ρ' → Stp σ ρ H σ ρ' H' → ExR (mm m₀ σ ρ') K mg H' cl d x → E cl d H'
  | .ok d ρ' => ∀ v H', Rel m₀ K mg H' σ ρ' → Rp (mm m₀ σ ρ') K mg H' v d → Stp σ ρ H σ ρ' H' → Q v H'
/-- a def that hands back a datum -/
def spD (K : PySem.W.Frag) (mg : Str → Option Value) (n : Nat) (F : M D) : Sp := fun vs H Q E => vs.length = n ∧ ∃ m₀ ρ, Rel m₀ K mg H (vs.map some) ρ ∧ OkD K mg m₀ (vs.map some) ρ H Q E (F ρ)
def OkN (K : PySem.W.Frag) (mg : Str → Option Value) (m₀ : Addr → Prop) (σ : L2.St) (ρ : En) (H : Hp) (Q : VK) : R (List D) → Prop
  | .no => False
  | .er _ _ => False
  | .ok ds ρ' => ∀ p us H', Rel (mp m₀ p) K mg H' σ ρ' → H p = none → H' p = some (.lst us) → RpA (mm (mp m₀ p) σ ρ') K mg H' us ds → Stp σ ρ H σ ρ' H' → Q (.ref p) H'
/-- a def that hands back a new list -/
def spN (K : PySem.W.Frag) (mg : Str → Option Value) (n : Nat) (F : M (List D)) : Sp := fun vs H Q E => vs.length = n ∧ ∃ m₀ ρ, Rel m₀ K mg H (vs.map some) ρ ∧ OkN K mg m₀ (vs.map some) ρ H Q (F ρ)
structure Def (P : Program) (w : World) (K : PySem.W.Frag) (mg : Str → Option Value) (base : Heap) (x : Str) (st : Stmt) (k : Nat) (ps : List Str) (F : M D) : Prop where
  ex : ∃ f fd, mg x = some (.ref f) ∧ Fun K x x st f fd ∧ Binds K fd ps [] ∧ FnG P w K mg base k f fd ps (spD K mg ps.length F)
structure DefN (P : Program) (w : World) (K : PySem.W.Frag) (mg : Str → Option Value) (base : Heap) (x : Str) (st : Stmt) (k : Nat) (ps : List Str) (F : M (List D)) : Prop where
  ex : ∃ f fd, mg x = some (.ref f) ∧ Fun K x x st f fd ∧ Binds K fd ps [] ∧ FnG P w K mg base k f fd ps (spN K mg ps.length F)
/-- a def's own slots at its end -/
def finE : En → En → Option En
  | [], _ => some []
  | .own _ :: ρ, .own ds :: ρ' => (finE ρ ρ').map (.own ds :: ·)
  | .own _ :: _, _ => none
  | .val d :: ρ, _ :: ρ' => (finE ρ ρ').map (.val d :: ·)
  | .no :: ρ, _ :: ρ' => (finE ρ ρ').map (.no :: ·)
  | .val _ :: _, [] => none
  | .no :: _, [] => none
theorem finE_ok : ∀ {ρ ρ' r : En}, finE ρ ρ' = some r → r.length = ρ.length ∧ ∀ (i : Nat) (s : Sl), r[i]? = some s → (∃ ds ds', ρ[i]? = some (.own ds) ∧ ρ'[i]? = some (.own ds') ∧ s = .own ds') ∨ (ρ[i]? = some s ∧ ∀ ds, s ≠ .own ds)
  | [], _, r, h => by cases h; exact ⟨rfl, fun i s e => by simp at e⟩
  | s0 :: ρ, ρ', r, h => by
    have step : ∀ {s1 s2 : Sl} {π : En}, ((finE ρ π).map (s2 :: ·) = some r) → ((∃ ds ds', s0 = .own ds ∧ s1 = .own ds' ∧ s2 = .own ds') ∨ (s0 = s2 ∧ ∀ ds, s2 ≠ .own ds)) → ρ' = s1 :: π →
        r.length = (s0 :: ρ).length ∧ ∀ (i : Nat) (s : Sl), r[i]? = some s → (∃ ds ds', (s0 :: ρ)[i]? = some (.own ds) ∧ ρ'[i]? = some (.own ds') ∧ s = .own ds') ∨ ((s0 :: ρ)[i]? = some s ∧ ∀ ds, s ≠ .own ds) := fun {s1 s2 π} e c e' => by
      obtain ⟨r', e1, e2⟩ := Option.map_eq_some_iff.mp e
      subst e2; subst e'
      obtain ⟨h1, h2⟩ := finE_ok e1
      refine ⟨by rw [List.length_cons, List.length_cons, h1], fun i s q => ?_⟩
      cases i with
      | zero =>
        simp at q; subst q
        rcases c with ⟨ds, ds', rfl, rfl, rfl⟩ | ⟨rfl, c⟩
        · exact .inl ⟨ds, ds', rfl, rfl, rfl⟩
        · exact .inr ⟨rfl, c⟩
      | succ i => exact h2 i s (by simpa using q)
    cases s0 with
    | own ds =>
      cases ρ' with
      | nil => cases h
      | cons s1 π =>
        cases s1 with
        | own ds' => exact step (s1 := .own ds') h (.inl ⟨ds, ds', rfl, rfl, rfl⟩) rfl
        | val d => cases h
        | no => cases h
    | val d =>
      cases ρ' with
      | nil => cases h
      | cons s1 π => exact step (s1 := s1) h (.inr ⟨rfl, by simp⟩) rfl
    | no =>
      cases ρ' with
      | nil => cases h
      | cons s1 π => exact step (s1 := s1) h (.inr ⟨rfl, by simp⟩) rfl
/-- what is owned at the entry stands at fx -/
def ownsIn (fx : List Nat) (ρ : En) : Bool := (List.range ρ.length).all fun i => !isOwn ρ i || decide (i ∈ fx)
theorem ownsIn_ok {fx : List Nat} {ρ : En} (h : ownsIn fx ρ = true) {i : Nat} {ds : List D} (e : ρ[i]? = some (.own ds)) : i ∈ fx := by
  unfold ownsIn at h
  rw [List.all_eq_true] at h
  have h2 := h i (List.mem_range.mpr (List.getElem?_eq_some_iff.mp e).1)
  unfold isOwn at h2
  rw [e] at h2
  simpa using h2
def fnEnd {α : Type} (ρ : En) (r : R α) : R α := match r with
  | .no => .no
  | .er x ρ' => match finE ρ ρ' with
    | some q => .er x q
    | none => .no
  | .ok a ρ' => match finE ρ ρ' with
    | some q => .ok a q
    | none => .no
def asRet (f : M Fl) : M D := M.bind f fun fl => match fl with
  | .rt d => M.ret d
  | .nx => M.ret .non
  | _ => fun _ => .no
def asRetO (f : M Fl) : M (List D) := M.bind f fun fl => match fl with
  | .ro ds => M.ret ds
  | _ => fun _ => .no
def fnB {α : Type} (fx : List Nat) (n m : Nat) (f : M α) : M α := fun ρ => if ρ.length = n ∧ ownsIn fx ρ = true then fnEnd ρ (f (ρ ++ List.replicate m .no)) else .no
section
variable {m₀ : Addr → Prop} {K : PySem.W.Frag} {mg : Str → Option Value} {H H' : Hp} {vs : List V} {ρ ρ' q : En} {n m : Nat} {fx : List Nat} {σ' : L2.St}
theorem getElem?_start {i : Nat} {s : Sl} (hs : s ≠ .no) (e : (ρ ++ List.replicate m Sl.no)[i]? = some s) : ρ[i]? = some s := by
  by_cases h : i < ρ.length
  · rw [List.getElem?_append_left h] at e; exact e
  · rw [List.getElem?_append_right (by omega), List.getElem?_replicate] at e
    split at e
    · exact absurd (Option.some.inj e).symm hs
    · cases e
theorem start_get {i : Nat} (h : i < vs.length) : (vs.map some ++ List.replicate m (none : Option V))[i]? = (vs.map some)[i]? := by
  rw [List.getElem?_append_left (by simpa using h)]
theorem Rel.start (r : Rel m₀ K mg H (vs.map some) ρ) : Rel m₀ K mg H (vs.map some ++ List.replicate m none) (ρ ++ List.replicate m .no) ∧ ∀ a, Own (vs.map some ++ List.replicate m none) (ρ ++ List.replicate m .no) a ↔ Own (vs.map some) ρ a := by
  have hl : vs.length = ρ.length := by have := r.len; simpa using this
  have lt : ∀ {i : Nat} {s : Sl}, ρ[i]? = some s → i < vs.length := fun {i s} e => by rw [hl]; exact (List.getElem?_eq_some_iff.mp e).1
  have o : ∀ a, Own (vs.map some ++ List.replicate m none) (ρ ++ List.replicate m .no) a ↔ Own (vs.map some) ρ a := fun a => by
    constructor
    · rintro ⟨k, fs, e1, e2⟩
      have e3 := getElem?_start (by simp) e1
      exact ⟨k, fs, e3, by rw [← start_get (m := m) (lt e3)]; exact e2⟩
    · rintro ⟨k, fs, e1, e2⟩
      exact ⟨k, fs, by rw [List.getElem?_append_left (List.getElem?_eq_some_iff.mp e1).1]; exact e1, by rw [start_get (lt e1)]; exact e2⟩
  have em := mm_congr (m₀ := m₀) o
  refine ⟨⟨by simp [hl], r.dom, fun j e q => ?_, fun j es q => ?_, fun j k es fs p q1 q2 q3 q4 => ?_⟩, o⟩
  · have q' := getElem?_start (by simp) q
    obtain ⟨w, h1, h2⟩ := r.val j e q'
    exact ⟨w, by rw [start_get (lt q')]; exact h1, by rw [em]; exact h2⟩
  · have q' := getElem?_start (by simp) q
    obtain ⟨p, ws, h1, h2, h3, h4⟩ := r.own j es q'
    exact ⟨p, ws, by rw [start_get (lt q')]; exact h1, h2, h3, by rw [em]; exact h4⟩
  · have q1' := getElem?_start (by simp) q1
    have q2' := getElem?_start (by simp) q2
    rw [start_get (lt q1')] at q3
    rw [start_get (lt q2')] at q4
    exact r.inj j k es fs p q1' q2' q3 q4
/-- the entry's view of the end -/
theorem Rel.finish {m₁ : Addr → Prop} (hm1 : ∀ a, m₀ a → m₁ a) (r : Rel m₀ K mg H (vs.map some) ρ) (r' : Rel m₁ K mg H' σ' ρ') (s : Stp (vs.map some ++ List.replicate m none) (ρ ++ List.replicate m .no) H σ' ρ' H') (f : Fx fx (vs.map some ++ List.replicate m none) σ') (ho : ownsIn fx ρ = true) (e : finE ρ ρ' = some q)
    (hnew : ∀ a, m₁ a → m₀ a ∨ H a = none) : Rel m₁ K mg H' (vs.map some) q ∧ Stp (vs.map some) ρ H (vs.map some) q H' ∧ ∀ a, mm m₁ (vs.map some) q a → mm m₁ σ' ρ' a := by
  obtain ⟨hq, hg⟩ := finE_ok e
  have hl : vs.length = ρ.length := by have := r.len; simpa using this
  obtain ⟨rs, os⟩ := r.start (m := m)
  have sl : ∀ {i : Nat} {ds : List D}, ρ[i]? = some (.own ds) → σ'[i]? = (vs.map some)[i]? := fun {i ds} h => by
    rw [f i (ownsIn_ok ho h), start_get (by rw [hl]; exact (List.getElem?_eq_some_iff.mp h).1)]
  have oq : ∀ {i : Nat} {ds : List D}, q[i]? = some (.own ds) → ρ'[i]? = some (.own ds) ∧ ∃ es, ρ[i]? = some (.own es) := fun {i ds} h => by
    rcases hg i _ h with ⟨es, ds', h1, h2, h3⟩ | ⟨h1, h2⟩
    · cases h3; exact ⟨h2, es, h1⟩
    · exact absurd rfl (h2 ds)
  have sub : ∀ a, Own (vs.map some) q a → Own σ' ρ' a := fun a ⟨i, ds, e1, e2⟩ => by
    obtain ⟨h1, es, h2⟩ := oq e1
    exact ⟨i, ds, h1, by rw [sl h2]; exact e2⟩
  have subm : ∀ a, mm m₁ (vs.map some) q a → mm m₁ σ' ρ' a := fun a z => z.imp id (sub a)
  have keepO : Kp (Own (vs.map some) ρ) H H' := fun a o n e => s.keep a o (fun z => n ((os a).mp z)) e
  refine ⟨⟨by rw [hq]; exact r.len, r'.dom, fun j d h => ?_, fun j es h => ?_, fun j k es fs p q1 q2 q3 q4 => ?_⟩, ⟨keepO, s.grow, fun a z => ?_⟩, subm⟩
  · rcases hg j _ h with ⟨es, ds', h1, h2, h3⟩ | ⟨h1, h2⟩
    · cases h3
    · obtain ⟨v, a1, a2⟩ := r.val j d h1
      refine ⟨v, a1, Rp.mono (fun a z => ?_) (fun a o n e => keepO a o (fun y => n (.inr y)) e) _ _ a2⟩
      rcases z with z | z
      · exact (hnew a z).imp .inl id
      · rcases s.own a (sub a z) with y | y
        · exact .inl (.inr ((os a).mp y))
        · exact .inr y
  · obtain ⟨h1, es', h2⟩ := oq h
    obtain ⟨p, ws, a1, a2, a3, a4⟩ := r'.own j es h1
    exact ⟨p, ws, by rw [← sl h2]; exact a1, a2, a3, RpA.mono (fun a z => .inl (subm a z)) Kp.refl _ _ a4⟩
  · obtain ⟨h1, es', h2⟩ := oq q1
    obtain ⟨h3, fs', h4⟩ := oq q2
    exact r'.inj j k es fs p h1 h3 (by rw [sl h2]; exact q3) (by rw [sl h4]; exact q4)
  · rcases s.own a (sub a z) with y | y
    · exact .inl ((os a).mp y)
    · exact .inr y
end
/-- the body of a def keeps its promise -/
theorem fn_core {K : PySem.W.Frag} {mg : Str → Option Value} {fx : List Nat} {f : M Fl} {vs : List V} {H : Hp} {Q : VK} {E : XK} {N : List Str} {n m : Nat} (hN : N.length = n + m) (h : spD K mg n (fnB fx n m (asRet f)) vs H Q E) :
    tS ⟨K, mg, fun cl d _ H' => E cl d H', fx⟩ f { nx := fun _ H' => Q .non H', rt := Q } (start N vs) H := by
  obtain ⟨hl, m₀, ρ, r, w⟩ := h
  have hs : start N vs = vs.map some ++ List.replicate m none := by
    unfold L2.start
    rw [hN, hl, Nat.add_sub_cancel_left]
  unfold fnB at w
  by_cases hc : ρ.length = n ∧ ownsIn fx ρ = true
  · rw [if_pos hc] at w
    obtain ⟨rs, os⟩ := r.start (m := m)
    rw [hs]
    refine ⟨m₀, _, rs, ?_⟩
    unfold asRet M.bind at w
    cases q : f (ρ ++ List.replicate m .no) with
    | no => rw [q] at w; exact w.elim
    | er y ρ' =>
      rw [q] at w
      intro cl d σ' H' r' s' f' ex
      have w' : OkD K mg m₀ (vs.map some) ρ H Q E (match finE ρ ρ' with
        | some q => .er y q
        | none => .no) := w
      cases e : finE ρ ρ' with
      | none => rw [e] at w'; exact w'.elim
      | some z =>
        rw [e] at w'
        obtain ⟨r2, s2, sub⟩ := Rel.finish (fun _ h => h) r r' s' f' hc.2 e (fun a z => .inl z)
        refine w' cl d H' r2 s2 ⟨ex.1, ?_⟩
        have e2 := ex.2
        revert e2
        cases y.given with
        | none => exact id
        | some fy => exact fun ⟨dx, v, a1, a2, a3⟩ => ⟨dx, v, a1, a2, Rp.mono (fun a z => .inl (sub a z)) Kp.refl _ _ a3⟩
    | ok fl ρ' =>
      rw [q] at w
      cases fl with
      | nx =>
        intro σ' H' r' s' f'
        have w' : OkD K mg m₀ (vs.map some) ρ H Q E (match finE ρ ρ' with
          | some q => .ok .non q
          | none => .no) := w
        cases e : finE ρ ρ' with
        | none => rw [e] at w'; exact w'.elim
        | some z =>
          rw [e] at w'
          obtain ⟨r2, s2, sub⟩ := Rel.finish (fun _ h => h) r r' s' f' hc.2 e (fun a z => .inl z)
          exact w' .non H' r2 .non s2
      | rt d =>
        intro v σ' H' r' hv s' f'
        have w' : OkD K mg m₀ (vs.map some) ρ H Q E (match finE ρ ρ' with
          | some q => .ok d q
          | none => .no) := w
        cases e : finE ρ ρ' with
        | none => rw [e] at w'; exact w'.elim
        | some z =>
          rw [e] at w'
          obtain ⟨r2, s2, sub⟩ := Rel.finish (fun _ h => h) r r' s' f' hc.2 e (fun a z => .inl z)
          exact w' v H' r2 (Rp.mono (fun a z => .inl (sub a z)) Kp.refl _ _ hv) s2
      | bk => exact w.elim
      | ct => exact w.elim
      | ro ds => exact w.elim
  · rw [if_neg hc] at w; exact w.elim
theorem fn_coreN {K : PySem.W.Frag} {mg : Str → Option Value} {fx : List Nat} {f : M Fl} {vs : List V} {H : Hp} {Q : VK} {E : XK} {N : List Str} {n m : Nat} (hN : N.length = n + m) (h : spN K mg n (fnB fx n m (asRetO f)) vs H Q E) :
    tS ⟨K, mg, fun cl d _ H' => E cl d H', fx⟩ f { nx := fun _ H' => Q .non H', rt := Q } (start N vs) H := by
  obtain ⟨hl, m₀, ρ, r, w⟩ := h
  have hs : start N vs = vs.map some ++ List.replicate m none := by
    unfold L2.start
    rw [hN, hl, Nat.add_sub_cancel_left]
  unfold fnB at w
  by_cases hc : ρ.length = n ∧ ownsIn fx ρ = true
  · rw [if_pos hc] at w
    obtain ⟨rs, os⟩ := r.start (m := m)
    rw [hs]
    refine ⟨m₀, _, rs, ?_⟩
    unfold asRetO M.bind at w
    cases q : f (ρ ++ List.replicate m .no) with
    | no => rw [q] at w; exact w.elim
    | er y ρ' =>
      rw [q] at w
      have w' : OkN K mg m₀ (vs.map some) ρ H Q (match finE ρ ρ' with
        | some q => .er y q
        | none => .no) := w
      cases e : finE ρ ρ' with
      | none => rw [e] at w'; exact w'.elim
      | some z => rw [e] at w'; exact w'.elim
    | ok fl ρ' =>
      rw [q] at w
      cases fl with
      | ro ds =>
        intro p us σ' H' r' n' e' hv s' f'
        have w' : OkN K mg m₀ (vs.map some) ρ H Q (match finE ρ ρ' with
          | some q => .ok ds q
          | none => .no) := w
        cases e : finE ρ ρ' with
        | none => rw [e] at w'; exact w'.elim
        | some z =>
          rw [e] at w'
          obtain ⟨r2, s2, sub⟩ := Rel.finish (m₁ := mp m₀ p) (fun _ h => .inl h) r r' s' f' hc.2 e (fun a z => z.imp id fun y => by rw [y]; exact n')
          exact w' p us H' r2 n' e' (RpA.mono (fun a z => .inl (sub a z)) Kp.refl _ _ hv) s2
      | rt d => exact w.elim
      | nx => exact w.elim
      | bk => exact w.elim
      | ct => exact w.elim
  · rw [if_neg hc] at w; exact w.elim
end PV

namespace PV
open PySem PySem.Spec PyProof.Rows L2

section
variable {m m' m₀ : Addr → Prop} {K : PySem.W.Frag} {g : Str → Option Value} {H H' : Hp} {σ σ' : L2.St} {ρ ρ' : En} {vs vs' : List V} {ds ds' : List D} {a p : Addr} {i : Nat} {v : V} {d : D} {cl : Value} {od : Option Addr} {x : Exn}
theorem ExR.sub (s : ∀ a, m' a → m a) (h : ExR m K g H cl od x) : ExR m' K g H cl od x := by
  refine ⟨h.1, ?_⟩
  have e2 := h.2
  revert e2
  cases x.given with
  | none => exact id
  | some fy => exact fun ⟨dx, v, a1, a2, a3⟩ => ⟨dx, v, a1, a2, Rp.mono (fun a z => .inl (s a z)) Kp.refl _ _ a3⟩
theorem no_own : ¬ Own σ' (ds.map Sl.val) a := by
  rintro ⟨i, es, e, _⟩
  rw [List.getElem?_map] at e
  cases q : ds[i]? <;> rw [q] at e <;> simp at e
theorem Rel.args (r : Rel m₀ K g H σ ρ) (h : RpA (mm m₀ σ ρ) K g H vs ds) : Rel (mm m₀ σ ρ) K g H (vs.map some) (ds.map .val) := by
  have dom : ∀ a, mm m₀ σ ρ a → H a ≠ none := fun a z => by
    rcases z with z | ⟨j, es, e1, e2⟩
    · exact r.dom a z
    · obtain ⟨q, ws, h1, _, h3, _⟩ := r.own j es e1
      rw [e2] at h1; cases h1
      rw [h3]; simp
  refine ⟨by rw [List.length_map, List.length_map, h.length], dom, fun j d e => ?_, fun j es e => ?_, fun j k es fs p q1 _ _ _ => ?_⟩
  · rw [List.getElem?_map] at e
    cases q : ds[j]? with
    | none => rw [q] at e; simp at e
    | some d' =>
      rw [q] at e
      obtain rfl : d' = d := by simpa using e
      obtain ⟨v, e1, e2⟩ := h.get q
      refine ⟨v, by rw [List.getElem?_map, e1]; rfl, Rp.mono (fun a z => .inl ?_) Kp.refl _ _ e2⟩
      exact z.elim id fun y => (no_own y).elim
  · rw [List.getElem?_map] at e
    cases q : ds[j]? <;> rw [q] at e <;> simp at e
  · rw [List.getElem?_map] at q1
    cases q : ds[j]? <;> rw [q] at q1 <;> simp at q1
/-- an owned list was written elsewhere -/
theorem Rel.written (r : Rel m₀ K g H σ ρ) (e : ρ[i]? = some (.own ds)) (ep : σ[i]? = some (some (.ref p))) (k : ∀ a o, a ≠ p → H a = some o → H' a = some o) (eH : H' p = some (.lst vs')) (hA : RpA (mm m₀ σ ρ) K g H' vs' ds') :
    Rel m₀ K g H' σ (ρ.set i (.own ds')) ∧ Stp σ ρ H σ (ρ.set i (.own ds')) H' := by
  obtain ⟨p', vs, h1, h2, h3, h4⟩ := r.own i ds e
  rw [ep] at h1; cases h1
  have hl := (List.getElem?_eq_some_iff.mp e).1
  have ow : Own σ ρ p := ⟨i, ds, e, ep⟩
  have kp : Kp (Own σ ρ) H H' := fun a o n q => k a o (fun z => n (by rw [z]; exact ow)) q
  have kpm : Kp (mm m₀ σ ρ) H H' := fun a o n q => kp a o (fun z => n (.inr z)) q
  have em : mm m₀ σ (ρ.set i (.own ds')) = mm m₀ σ ρ := mm_congr (own_set_own e)
  have gr : ∀ a, H a ≠ none → H' a ≠ none := fun a n => by
    by_cases z : a = p
    · rw [z, eH]; simp
    · cases q : H a with
      | none => exact absurd q n
      | some o => rw [k a o z q]; simp
  refine ⟨⟨by rw [List.length_set]; exact r.len, fun a z => gr a (r.dom a z), fun j d q => ?_, fun j fs q => ?_, fun j l fs hs b q1 q2 q3 q4 => ?_⟩, kp, gr, fun a z => .inl ((own_set_own e a).mp z)⟩
  · rw [em]
    by_cases hk : j = i
    · subst hk; rw [List.getElem?_set_self hl] at q; cases q
    · rw [List.getElem?_set_ne (Ne.symm hk)] at q
      obtain ⟨w, q1, q2⟩ := r.val j d q
      exact ⟨w, q1, Rp.mono Sub'.refl kpm _ _ q2⟩
  · rw [em]
    by_cases hk : j = i
    · subst hk
      rw [List.getElem?_set_self hl] at q; cases q
      exact ⟨p, vs', ep, h2, eH, hA⟩
    · rw [List.getElem?_set_ne (Ne.symm hk)] at q
      obtain ⟨b, ws, q1, q2, q3, q4⟩ := r.own j fs q
      refine ⟨b, ws, q1, q2, k b _ (fun z => hk (r.inj j i fs ds p q e (by rw [← z]; exact q1) ep)) q3, RpA.mono Sub'.refl kpm _ _ q4⟩
  · have f1 : ∃ fs', ρ[j]? = some (.own fs') := by
      by_cases hk : j = i
      · subst hk; exact ⟨_, e⟩
      · rw [List.getElem?_set_ne (Ne.symm hk)] at q1; exact ⟨_, q1⟩
    have f2 : ∃ fs', ρ[l]? = some (.own fs') := by
      by_cases hk : l = i
      · subst hk; exact ⟨_, e⟩
      · rw [List.getElem?_set_ne (Ne.symm hk)] at q2; exact ⟨_, q2⟩
    obtain ⟨_, f1⟩ := f1
    obtain ⟨_, f2⟩ := f2
    exact r.inj j l _ _ b f1 f2 q3 q4
/-- what a callee sees whose first argument is an owned list -/
theorem own_hd {es : List D} : Own (some (V.ref p) :: vs.map some) (Sl.own es :: ds.map .val) a ↔ a = p := by
  constructor
  · rintro ⟨j, fs, e1, e2⟩
    cases j with
    | zero => simp at e2; exact e2.symm
    | succ j =>
      simp at e1
  · rintro rfl
    exact ⟨0, es, rfl, rfl⟩
def mless (m : Addr → Prop) (p : Addr) : Addr → Prop := fun a => m a ∧ a ≠ p
theorem mm_hd {m : Addr → Prop} {es : List D} (hp : m p) : mm (mless m p) (some (V.ref p) :: vs.map some) (Sl.own es :: ds.map .val) = m := funext fun a => propext (by
  constructor
  · rintro (⟨z, _⟩ | z)
    · exact z
    · rw [own_hd.mp z]; exact hp
  · intro z
    by_cases h : a = p
    · exact .inr (own_hd.mpr h)
    · exact .inl ⟨z, h⟩)
theorem Rel.args1 {m : Addr → Prop} {us : List V} {es : List D} (hp : m p) (dom : ∀ a, m a → H a ≠ none) (eH : H p = some (.lst us)) (hA : RpA m K g H us es) (h : RpA m K g H vs ds) : Rel (mless m p) K g H (some (V.ref p) :: vs.map some) (Sl.own es :: ds.map .val) := by
  refine ⟨by rw [List.length_cons, List.length_cons, List.length_map, List.length_map, h.length], fun a z => dom a z.1, fun j d e => ?_, fun j fs e => ?_, fun j k fs hs q e1 e2 _ _ => ?_⟩
  · cases j with
    | zero => simp at e
    | succ j =>
      have e' : (ds.map Sl.val)[j]? = some (Sl.val d) := by simpa using e
      rw [List.getElem?_map] at e'
      cases q : ds[j]? with
      | none => rw [q] at e'; simp at e'
      | some d' =>
        rw [q] at e'
        obtain rfl : d' = d := by simpa using e'
        obtain ⟨v, f1, f2⟩ := h.get q
        refine ⟨v, ?_, by rw [mm_hd hp]; exact f2⟩
        show (vs.map some)[j]? = _
        rw [List.getElem?_map, f1]; rfl
  · cases j with
    | zero =>
      simp at e; subst e
      exact ⟨p, us, rfl, fun z => z.2 rfl, eH, by rw [mm_hd hp]; exact hA⟩
    | succ j => simp at e
  · cases j with
    | zero =>
      cases k with
      | zero => rfl
      | succ k => simp at e2
    | succ j => simp at e1
theorem Rel.kept (r : Rel m₀ K g H σ ρ) (k : Kp m₀ H H') (gr : ∀ a, H a ≠ none → H' a ≠ none) : Rel m₀ K g H' σ ρ := by
  refine ⟨r.len, fun a z => gr a (r.dom a z), fun j d e => ?_, fun j es e => ?_, r.inj⟩
  · obtain ⟨v, h1, h2⟩ := r.val j d e
    exact ⟨v, h1, Rp.mono Sub'.refl (fun a o n q => k a o (fun z => n (.inl z)) q) _ _ h2⟩
  · obtain ⟨p, ws, h1, h2, h3, h4⟩ := r.own j es e
    exact ⟨p, ws, h1, h2, k _ _ h2 h3, RpA.mono Sub'.refl (fun a o n q => k a o (fun z => n (.inl z)) q) _ _ h4⟩
theorem Rel.domm (r : Rel m₀ K g H σ ρ) (a : Addr) (z : mm m₀ σ ρ a) : H a ≠ none := by
  rcases z with z | ⟨j, es, e1, e2⟩
  · exact r.dom a z
  · obtain ⟨q, ws, h1, _, h3, _⟩ := r.own j es e1
    rw [e2] at h1; cases h1
    rw [h3]; simp
end

/-! ### mirrors of calls -/
def callV {α : Type} (n : Nat) (F : M α) (ds : List D) : M α := fun ρ => if ds.length = n then match F (ds.map .val) with
    | .no => .no
    | .er x _ => .er x ρ
    | .ok d _ => .ok d ρ
  else .no
def callO {α : Type} (n : Nat) (F : M α) (i : Nat) (ds : List D) : M α := fun ρ => match ρ[i]? with
  | some (.own L) => if ds.length + 1 = n then match F (.own L :: ds.map .val) with
      | .no => .no
      | .er x (.own L' :: _) => .er x (ρ.set i (.own L'))
      | .er _ _ => .no
      | .ok d (.own L' :: _) => .ok d (ρ.set i (.own L'))
      | .ok _ _ => .no
    else .no
  | _ => .no
def callN {α : Type} (n : Nat) (F : M α) (L : List D) : M α := fun ρ => if n = 1 then match F [.own L] with
    | .no => .no
    | .er x _ => .er x ρ
    | .ok d _ => .ok d ρ
  else .no
section
variable {P : Program} {w : World} {K : PySem.W.Frag} {mg : Str → Option Value} {base : Heap}
/-- how a def is known to those that call it -/
structure DefV (P : Program) (w : World) (K : PySem.W.Frag) (mg : Str → Option Value) (base : Heap) (x : Str) (st : Stmt) (k : Nat) (ps : List Str) (F : M D) : Prop where
  ex : ∃ f fd, mg x = some (.ref f) ∧ FunD K x x (defArgs st) (defBody st) (defScope st) [] [] f fd ∧ Binds K fd ps [] ∧ FnG P w K mg base k f fd ps (spD K mg ps.length F)
structure DefL (P : Program) (w : World) (K : PySem.W.Frag) (mg : Str → Option Value) (base : Heap) (x : Str) (st : Stmt) (k : Nat) (ps : List Str) (F : M (List D)) : Prop where
  ex : ∃ f fd, mg x = some (.ref f) ∧ FunD K x x (defArgs st) (defBody st) (defScope st) [] [] f fd ∧ Binds K fd ps [] ∧ FnG P w K mg base k f fd ps (spN K mg ps.length F)
end
section
variable {c : Ct} {m₀ : Addr → Prop} {σ : L2.St} {ρ : En} {H : Hp} {Q : VK} {n i : Nat} {F : M D} {ds : List D} {vs : List V} {S : D → En → Prop}
/-- the promise is asked as the mirror says -/
theorem callV_ok (r : Rel m₀ c.K c.g H σ ρ) (h : RpA (mm m₀ σ ρ) c.K c.g H vs ds) (w : Want c m₀ σ ρ H (fun d ρ' => ∀ v H', Rel m₀ c.K c.g H' σ ρ' → Rp (mm m₀ σ ρ') c.K c.g H' v d → Stp σ ρ H σ ρ' H' → Q v H') (callV n F ds ρ)) :
    spD c.K c.g n F vs H Q (WE c.W σ) := by
  unfold callV at w
  split at w
  · rename_i hl
    refine ⟨by rw [h.length]; exact hl, mm m₀ σ ρ, ds.map .val, r.args h, ?_⟩
    split at w
    · exact w.elim
    · rename_i x ρ' e
      rw [e]
      intro cl d H' rc sc ex
      have k : ∀ a o, H a = some o → H' a = some o := fun a o q => sc.keep a o no_own q
      exact w cl d σ H' (r.grown k) (.grown k) .refl (ex.sub fun a z => .inl z)
    · rename_i d ρ' e
      rw [e]
      intro v H' rc hv sc
      have k : ∀ a o, H a = some o → H' a = some o := fun a o q => sc.keep a o no_own q
      exact w v H' (r.grown k) (Rp.mono (fun a z => .inl (.inl z)) Kp.refl _ _ hv) (.grown k)
  · exact w.elim
theorem callO_ok (r : Rel m₀ c.K c.g H σ ρ) (h : RpA (mm m₀ σ ρ) c.K c.g H vs ds) {v0 : V} (e0 : σ[i]? = some (some v0)) (w : Want c m₀ σ ρ H (fun d ρ' => ∀ v H', Rel m₀ c.K c.g H' σ ρ' → Rp (mm m₀ σ ρ') c.K c.g H' v d → Stp σ ρ H σ ρ' H' → Q v H') (callO n F i ds ρ)) :
    spD c.K c.g n F (v0 :: vs) H Q (WE c.W σ) := by
  unfold callO at w
  split at w
  · rename_i L eo
    obtain ⟨p, us, ep, np, eH, hA⟩ := r.own i L eo
    rw [e0] at ep; cases ep
    split at w
    · rename_i hl
      have hp : mm m₀ σ ρ p := .inr ⟨i, L, eo, e0⟩
      have rc := Rel.args1 hp r.domm eH hA h
      refine ⟨by rw [List.length_cons, h.length]; exact hl, mless (mm m₀ σ ρ) p, _, rc, ?_⟩
      have fin : ∀ {L' : List D} {τ : En} {H' : Hp}, Rel (mless (mm m₀ σ ρ) p) c.K c.g H' (some (V.ref p) :: vs.map some) (.own L' :: τ) → Stp (some (V.ref p) :: vs.map some) (.own L :: ds.map .val) H (some (V.ref p) :: vs.map some) (.own L' :: τ) H' →
          (Rel m₀ c.K c.g H' σ (ρ.set i (.own L')) ∧ Stp σ ρ H σ (ρ.set i (.own L')) H') ∧ ∀ a, mm m₀ σ (ρ.set i (.own L')) a → mm (mless (mm m₀ σ ρ) p) (some (V.ref p) :: vs.map some) (.own L' :: τ) a := fun {L' τ H'} r' s' => by
        have sub : ∀ a, mm m₀ σ ρ a → mm (mless (mm m₀ σ ρ) p) (some (V.ref p) :: vs.map some) (.own L' :: τ) a := fun a z => by
          by_cases hap : a = p
          · exact .inr ⟨0, L', rfl, by rw [hap]; rfl⟩
          · exact .inl ⟨z, hap⟩
        obtain ⟨p', us', f1, f2, f3, f4⟩ := r'.own 0 L' rfl
        cases f1
        refine ⟨r.written eo e0 (fun a o n q => s'.keep a o (fun z => n (own_hd.mp z)) q) f3 (RpA.mono (fun a z => .inl (sub a z)) Kp.refl _ _ f4), fun a z => sub a ?_⟩
        rwa [mm_congr (own_set_own eo)] at z
      show OkD c.K c.g (mless (mm m₀ σ ρ) p) (some (V.ref p) :: vs.map some) _ H Q (WE c.W σ) _
      split at w
      · exact w.elim
      · rename_i x L' τ e
        rw [e]
        intro cl d H' r' s' ex
        obtain ⟨⟨g1, g2⟩, g3⟩ := fin r' s'
        exact w cl d σ H' g1 g2 .refl (ex.sub g3)
      · exact w.elim
      · rename_i d L' τ e
        rw [e]
        intro v H' r' hv s'
        obtain ⟨⟨g1, g2⟩, g3⟩ := fin r' s'
        exact w v H' g1 (Rp.mono (fun a z => .inl (g3 a z)) Kp.refl _ _ hv) g2
      · exact w.elim
    · exact w.elim
  · exact w.elim
theorem callN_ok {p : Addr} {us : List V} {L : List D} {H0 : Hp} {ρ0 : En} (r0 : Rel m₀ c.K c.g H0 σ ρ0) (hp : H0 p = none) (s0 : Stp σ ρ0 H0 σ ρ H) (r : Rel (mp m₀ p) c.K c.g H σ ρ) (eH : H p = some (.lst us)) (hA : RpA (mm (mp m₀ p) σ ρ) c.K c.g H us L)
    (w : Want c m₀ σ ρ0 H0 (fun d ρ' => ∀ v H', Rel m₀ c.K c.g H' σ ρ' → Rp (mm m₀ σ ρ') c.K c.g H' v d → Stp σ ρ0 H0 σ ρ' H' → Q v H') (callN n F L ρ)) :
    spD c.K c.g n F [.ref p] H Q (WE c.W σ) := by
  unfold callN at w
  split at w
  · rename_i hl
    have hpm : mm (mp m₀ p) σ ρ p := .inl (.inr rfl)
    have rc := Rel.args1 (vs := []) (ds := []) hpm r.domm eH hA .nil
    refine ⟨hl.symm, mless (mm (mp m₀ p) σ ρ) p, _, rc, ?_⟩
    have nO : ¬ Own σ ρ p := fun ⟨j, es, e1, e2⟩ => by
      obtain ⟨q, ws, h1, h2, h3, _⟩ := r.own j es e1
      rw [e2] at h1; cases h1
      exact h2 (.inr rfl)
    have fin : ∀ {τ : En} {H' : Hp}, Stp [some (V.ref p)] [.own L] H [some (V.ref p)] τ H' → Rel m₀ c.K c.g H' σ ρ ∧ Stp σ ρ0 H0 σ ρ H' := fun {τ H'} s' => by
      have k : ∀ a o, a ≠ p → H a = some o → H' a = some o := fun a o n q => s'.keep a o (fun z => n (own_hd (vs := []) (ds := []) |>.mp z)) q
      refine ⟨(r.kept (fun a o n q => k a o (fun z => n (.inr z)) q) s'.grow).drop, fun a o n q => ?_, fun a z => s'.grow a (s0.grow a z), fun a z => s0.own a z⟩
      refine k a o (fun z => ?_) (s0.keep a o n q)
      rw [z, hp] at q; cases q
    have sub : ∀ a, mm m₀ σ ρ a → mless (mm (mp m₀ p) σ ρ) p a := fun a z => by
      refine ⟨z.imp .inl id, fun q => ?_⟩
      rcases z with z | z
      · exact r0.dom a z (by rw [q]; exact hp)
      · exact nO (by rw [← q]; exact z)
    show OkD c.K c.g (mless (mm (mp m₀ p) σ ρ) p) [some (V.ref p)] _ H Q (WE c.W σ) _
    split at w
    · exact w.elim
    · rename_i x τ e
      have e' : F (Sl.own L :: List.map Sl.val []) = .er x τ := e
      rw [e']
      intro cl d H' r' s' ex
      obtain ⟨g1, g2⟩ := fin s'
      exact w cl d σ H' g1 g2 .refl (ex.sub fun a z => .inl (sub a z))
    · rename_i d τ e
      have e' : F (Sl.own L :: List.map Sl.val []) = .ok d τ := e
      rw [e']
      intro v H' r' hv s'
      obtain ⟨g1, g2⟩ := fin s'
      exact w v H' g1 (Rp.mono (fun a z => .inl (.inl (sub a z))) Kp.refl _ _ hv) g2
  · exact w.elim
theorem Rel.addG {p : Addr} {H' : Hp} {g : Str → Option Value} {K : PySem.W.Frag} (r : Rel m₀ K g H σ ρ) (hp : H p = none) (k : ∀ a o, H a = some o → H' a = some o) (e : H' p ≠ none) : Rel (mp m₀ p) K g H' σ ρ := by
  have sb : Sub' (mm (mp m₀ p) σ ρ) (mm m₀ σ ρ) H := fun a z => by
    rcases z with (z | z) | z
    · exact .inl (.inl z)
    · exact .inr (by rw [z]; exact hp)
    · exact .inl (.inr z)
  refine ⟨r.len, fun a z => ?_, fun j d q => ?_, fun j es q => ?_, r.inj⟩
  · rcases z with z | z
    · exact (r.grown k).dom a z
    · rw [z]; exact e
  · obtain ⟨v, h1, h2⟩ := r.val j d q
    exact ⟨v, h1, Rp.mono sb (fun a o _ q => k a o q) _ _ h2⟩
  · obtain ⟨b, ws, h1, h2, h3, h4⟩ := r.own j es q
    have nb : ¬ mp m₀ p b := fun z => Or.elim (show m₀ b ∨ b = p from z) h2 fun y => by
      rw [y, hp] at h3; cases h3
    exact ⟨b, ws, h1, nb, k _ _ h3, RpA.mono sb (fun a o _ q => k a o q) _ _ h4⟩
def callL (n : Nat) (F : M (List D)) (ds : List D) : M (List D) := fun ρ => if ds.length = n then match F (ds.map .val) with
    | .ok d _ => .ok d ρ
    | _ => .no
  else .no
theorem callL_ok {F : M (List D)} (r : Rel m₀ c.K c.g H σ ρ) (h : RpA (mm m₀ σ ρ) c.K c.g H vs ds)
    (w : Want c m₀ σ ρ H (fun es ρ' => ∀ p us H', Rel (mp m₀ p) c.K c.g H' σ ρ' → H p = none → H' p = some (.lst us) → RpA (mm (mp m₀ p) σ ρ') c.K c.g H' us es → Stp σ ρ H σ ρ' H' → Q (.ref p) H') (callL n F ds ρ)) :
    spN c.K c.g n F vs H Q (WE c.W σ) := by
  unfold callL at w
  split at w
  · rename_i hl
    refine ⟨by rw [h.length]; exact hl, mm m₀ σ ρ, ds.map .val, r.args h, ?_⟩
    split at w
    · rename_i d ρ' e
      rw [e]
      intro p us H' rc hp eH hv sc
      have k : ∀ a o, H a = some o → H' a = some o := fun a o q => sc.keep a o no_own q
      refine w p us H' (r.addG hp k (by rw [eH]; simp)) hp eH (RpA.mono (fun a z => .inl ?_) Kp.refl _ _ hv) (.grown k)
      rcases z with (z | z) | z
      · exact .inl (.inl (.inl z))
      · exact .inl (.inr z)
      · exact .inl (.inl (.inr z))
    · exact w.elim
  · exact w.elim
end
section
variable {X : Cx} {W : WX} {fx : List Nat} {k j : Nat} {ps ks : List Str} {x y : Str} {p pos pos' : Pos} {e : Expr} {es : List Expr} {kws : List Keyword} {F : M D} {st : Stmt} {fl : M (List D)} {fn : M (List D)}
/-- f(e, ..): data -/
theorem e_callV (G : DefV X.prog X.w X.K X.mg X.base x st j ps F) (hr : Room k X.A) (hgd : X.A.guards = some []) (tw : Takes X W) (hg : Gl X x) (ha : LV X W fx (e :: es) fl) (hjk : j ≤ k := by decide)
    (hdb : (x == ("__debug__" : Str)) = false := by decide) (he : starEach (e :: es) X.env = (false, eval e X.env) :: starEach es X.env := by rfl) (hpl : (backTo pos (starEach es X.env)).any (·.1) = false := by rfl) :
    EV X W fx (.Call (.Name x p) (e :: es) [] pos) (M.bind fl (callV ps.length F)) := by
  obtain ⟨f, fd, hm, hF, hb, hG⟩ := G.ex
  refine PE.imp (pe_callG hG (hr.mono hjk) hgd hg hm hF.kp hb tw ha hdb he hpl) fun σ H Q ⟨m₀, ρ, rr, w⟩ => ?_
  refine tL.first rr w fun ds ρ1 vs H1 _ r1 h1 s1 w1 => ?_
  exact callV_ok (c := ct X W fx) r1 h1 (w1.mono fun d ρ2 _ hs v H2 r2 h2 s2 => hs v H2 r2 h2 (s1.trans s2))
/-- f(): nothing -/
theorem e_call0 (G : DefV X.prog X.w X.K X.mg X.base x st j ps F) (hr : Room k X.A) (hgd : X.A.guards = some []) (tw : Takes X W) (hg : Gl X x) (hjk : j ≤ k := by decide)
    (hdb : (x == ("__debug__" : Str)) = false := by decide) : EV X W fx (.Call (.Name x p) [] [] pos) (callV ps.length F []) := by
  obtain ⟨f, fd, hm, hF, hb, hG⟩ := G.ex
  refine PE.imp (pe_call0G hG (hr.mono hjk) hgd hg hm hF.kp hb tw hdb) fun σ H Q ⟨m₀, ρ, rr, w⟩ => ?_
  exact callV_ok (c := ct X W fx) rr .nil w
/-- f(o, e, ..): the owned list o, data -/
theorem e_callO (i : Nat) (G : DefV X.prog X.w X.K X.mg X.base x st j ps F) (hr : Room k X.A) (hgd : X.A.guards = some []) (tw : Takes X W) (hg : Gl X x) (ho : PE X e (tVar i)) (ha : LV X W fx es fl) (hjk : j ≤ k := by decide)
    (hdb : (x == ("__debug__" : Str)) = false := by decide) (he : starEach (e :: es) X.env = (false, eval e X.env) :: starEach es X.env := by rfl) (hpl : (backTo pos (starEach es X.env)).any (·.1) = false := by rfl) :
    EV X W fx (.Call (.Name x p) (e :: es) [] pos) (mOwned i (M.bind fl (callO ps.length F i))) := by
  obtain ⟨f, fd, hm, hF, hb, hG⟩ := G.ex
  refine PE.imp (pe_callG hG (hr.mono hjk) hgd hg hm hF.kp hb tw (pa_cons ho ha he) hdb he hpl) fun σ H Q ⟨m₀, ρ, rr, w⟩ => ?_
  unfold mOwned at w
  by_cases hi : isOwn ρ i = true
  · rw [if_pos hi] at w
    obtain ⟨L, eo⟩ := isOwn_ok hi
    obtain ⟨q, us, eq, _, _, _⟩ := rr.own i L eo
    refine ⟨_, eq, ?_⟩
    refine tL.first rr w fun ds ρ1 vs H1 _ r1 h1 s1 w1 => ?_
    exact callO_ok (c := ct X W fx) r1 h1 eq (w1.mono fun d ρ2 _ hs v H2 r2 h2 s2 => hs v H2 r2 h2 (s1.trans s2))
  · rw [if_neg hi] at w; exact w.elim
/-- f([..]): a new list -/
theorem e_callN (G : DefV X.prog X.w X.K X.mg X.base x st j ps F) (hr : Room k X.A) (hgd : X.A.guards = some []) (tw : Takes X W) (hg : Gl X x) (ha : NV X W fx e fn) (hjk : j ≤ k := by decide)
    (hdb : (x == ("__debug__" : Str)) = false := by decide) (he : starEach (e :: []) X.env = (false, eval e X.env) :: starEach [] X.env := by rfl) (hpl : (backTo pos (starEach [] X.env)).any (·.1) = false := by rfl) :
    EV X W fx (.Call (.Name x p) [e] [] pos) (M.bind fn (callN ps.length F)) := by
  obtain ⟨f, fd, hm, hF, hb, hG⟩ := G.ex
  refine PE.imp (pe_callG hG (hr.mono hjk) hgd hg hm hF.kp hb tw (pa_cons ha pa_nil he) hdb he hpl) fun σ H Q ⟨m₀, ρ, rr, w⟩ => ?_
  have w' := w.bind
  refine ⟨m₀, ρ, rr, w'.mono fun L ρ1 _ hs q us H1 r1 n1 e1 h1 s1 => ?_⟩
  exact callN_ok (c := ct X W fx) rr n1 s1 r1 e1 h1 hs
/-- f(e, ..), a def that makes a new list -/
theorem n_callV {F : M (List D)} (G : DefL X.prog X.w X.K X.mg X.base x st j ps F) (hr : Room k X.A) (hgd : X.A.guards = some []) (tw : Takes X W) (hg : Gl X x) (ha : LV X W fx (e :: es) fl) (hjk : j ≤ k := by decide)
    (hdb : (x == ("__debug__" : Str)) = false := by decide) (he : starEach (e :: es) X.env = (false, eval e X.env) :: starEach es X.env := by rfl) (hpl : (backTo pos (starEach es X.env)).any (·.1) = false := by rfl) :
    NV X W fx (.Call (.Name x p) (e :: es) [] pos) (M.bind fl (callL ps.length F)) := by
  obtain ⟨f, fd, hm, hF, hb, hG⟩ := G.ex
  refine PE.imp (pe_callG hG (hr.mono hjk) hgd hg hm hF.kp hb tw ha hdb he hpl) fun σ H Q ⟨m₀, ρ, rr, w⟩ => ?_
  refine tL.first rr w fun ds ρ1 vs H1 _ r1 h1 s1 w1 => ?_
  refine callL_ok (c := ct X W fx) r1 h1 (w1.mono fun d ρ2 _ hs q us H2 r2 n2 e2 h2 s2 => hs q us H2 r2 (s1.back n2) e2 h2 (s1.trans s2))

/-! ### keywords -/
abbrev KV (X : Cx) (W : WX) (fx : List Nat) (kws : List Keyword) (f : M (List D)) : Prop := PK X kws (tL (ct X W fx) f)
theorem k_nil : KV X W fx [] dNil := ⟨fun pos pins s σ H Q I ⟨m₀, ρ, rr, w⟩ => pk_nil.run pos pins s σ H Q I (w [] H rr .nil .refl)⟩
theorem k_cons {nm : Option Str} {kpos : Pos} {fa : M D} (ha : EV X W fx e fa) (hl : KV X W fx kws fl) : KV X W fx (⟨nm, e, kpos⟩ :: kws) (dCons fa fl) := by
  refine ⟨fun pos pins s σ H Q I ⟨m₀, ρ, rr, w⟩ => (pk_cons ha hl).run pos pins s σ H Q I ?_⟩
  refine tE.first rr w fun dx ρ1 x H1 r1 h1 s1 w1 => tL.first r1 w1 fun ds ρ2 vs H2 _ r2 h2 s2 w2 => ?_
  exact w2 (x :: vs) H2 r2 (.cons (s2.rp r1 h1) h2) (s1.trans s2)
def pick {α : Type} (ix : List Nat) (xs : List α) : List α := ix.filterMap (xs[·]?)
def kwOf {α : Type} (a b : Nat) (ix : List Nat) (us ws : List α) : List α := if us.length = a ∧ ws.length = b then pick ix (us ++ ws) else []
theorem RpA.pick {m : Addr → Prop} {K : PySem.W.Frag} {g : Str → Option Value} {H : Hp} {vs : List V} {ds : List D} (h : RpA m K g H vs ds) : ∀ ix, RpA m K g H (PV.pick ix vs) (PV.pick ix ds)
  | [] => .nil
  | i :: ix => by
    have t := RpA.pick h ix
    cases e : ds[i]? with
    | none =>
      have e2 : vs[i]? = none := by
        rw [List.getElem?_eq_none_iff] at e ⊢
        rw [h.length]; exact e
      have a1 : PV.pick (i :: ix) vs = PV.pick ix vs := List.filterMap_cons_none e2
      have a2 : PV.pick (i :: ix) ds = PV.pick ix ds := List.filterMap_cons_none e
      rw [a1, a2]; exact t
    | some d =>
      obtain ⟨v, e2, h2⟩ := h.get e
      have a1 : PV.pick (i :: ix) vs = v :: PV.pick ix vs := List.filterMap_cons_some e2
      have a2 : PV.pick (i :: ix) ds = d :: PV.pick ix ds := List.filterMap_cons_some e
      rw [a1, a2]; exact .cons h2 t
theorem vals_get : ∀ {vs : List V} {us : List Value} (i : Nat), Vals vs us → (vs[i]? = none ∧ us[i]? = none) ∨ ∃ v u, vs[i]? = some v ∧ us[i]? = some u ∧ RelV v u
  | _, _, _, .nil => .inl ⟨rfl, rfl⟩
  | _, _, 0, .cons r _ => .inr ⟨_, _, rfl, rfl, r⟩
  | _, _, i + 1, .cons _ t => vals_get i t
theorem vals_pick {vs : List V} {us : List Value} (h : Vals vs us) : ∀ ix, Vals (PV.pick ix vs) (PV.pick ix us)
  | [] => .nil
  | i :: ix => by
    have t := vals_pick h ix
    rcases vals_get i h with ⟨e1, e2⟩ | ⟨v, u, e1, e2, r⟩
    · have a1 : PV.pick (i :: ix) vs = PV.pick ix vs := List.filterMap_cons_none e1
      have a2 : PV.pick (i :: ix) us = PV.pick ix us := List.filterMap_cons_none e2
      rw [a1, a2]; exact t
    · have a1 : PV.pick (i :: ix) vs = v :: PV.pick ix vs := List.filterMap_cons_some e1
      have a2 : PV.pick (i :: ix) us = u :: PV.pick ix us := List.filterMap_cons_some e2
      rw [a1, a2]; exact .cons r t
theorem kb_of {K : PySem.W.Frag} {qual : Str} {params : Arguments} {body : List Stmt} {scope : Scope} {f : Addr} {fd : FuncData} (F : FunD K x qual params body scope [] [] f fd) (a b : Nat) (ix : List Nat) (hn : ps ≠ [])
    (h : ∀ (kV doc pm : Value) (an : Option Addr) (cdv ct : Value) (us ws : List Value), us.length = a → ws.length = b → bindArgs (PySem.W.fnOf x qual params body scope .none kV doc pm an cdv ct) ⟨us, ks.zip ws⟩ = pure (ps.zip (PV.pick ix (us ++ ws)))) :
    KBinds K fd ps ks (kwOf a b ix) (kwOf a b ix) := by
  obtain ⟨oc, od, dV, kV, doc, pm, an, cdv, ct, osl, rfl, lk, hcd, hD, hK⟩ := F.ex
  rcases hD with ⟨_, rfl⟩ | ⟨e, _⟩
  · refine ⟨fun s us ws hK hl => ?_, fun {vs us zs ws} r1 r2 => ?_⟩
    · unfold kwOf at hl ⊢
      split at hl
      · rename_i hc
        rw [if_pos hc]
        exact .of_eq (h kV doc pm an cdv ct us ws hc.1 hc.2)
      · exact absurd (List.length_eq_zero_iff.mp hl.symm) hn
    · unfold kwOf
      rw [← r1.length, ← r2.length]
      split
      · exact vals_pick (r1.append r2) ix
      · exact .nil
  · exact absurd rfl e
variable {a b : Nat} {ix : List Nat} {fk : M (List D)}
def callK (n a b : Nat) (ix : List Nat) (F : M D) (ds es : List D) : M D := callV n F (kwOf a b ix ds es)
theorem RpA.kwOf {m : Addr → Prop} {K : PySem.W.Frag} {g : Str → Option Value} {H : Hp} {vs ws : List V} {ds es : List D} (h : RpA m K g H vs ds) (h2 : RpA m K g H ws es) : RpA m K g H (PV.kwOf a b ix vs ws) (PV.kwOf a b ix ds es) := by
  unfold PV.kwOf
  rw [h.length, h2.length]
  split
  · exact (h.append h2).pick ix
  · exact .nil
theorem e_callK (G : DefV X.prog X.w X.K X.mg X.base x st j ps F) (hr : Room k X.A) (hgd : X.A.guards = some []) (tw : Takes X W) (hg : Gl X x) (ha : LV X W fx (e :: es) fl) (hk : KV X W fx kws fk) (hjk : j ≤ k)
    (hb : ∀ (kV doc pm : Value) (an : Option Addr) (cdv ct : Value) (us ws : List Value), us.length = a → ws.length = b → bindArgs (PySem.W.fnOf x x (defArgs st) (defBody st) (defScope st) .none kV doc pm an cdv ct) ⟨us, ks.zip ws⟩ = pure (ps.zip (PV.pick ix (us ++ ws))))
    (hn : ps ≠ [] := by decide) (hall : (backToKw pos (keywordEach kws X.env)).all (·.1.isSome) = true := by rfl) (hks : (backToKw pos (keywordEach kws X.env)).filterMap (·.1) = ks := by rfl)
    (hdb : (x == ("__debug__" : Str)) = false := by decide) (he : starEach (e :: es) X.env = (false, eval e X.env) :: starEach es X.env := by rfl)
    (hpl : ((backTo pos (starEach (e :: es) X.env)).any (·.1) || (backToKw pos (keywordEach kws X.env)).any (·.1.isNone)) = false := by rfl) :
    EV X W fx (.Call (.Name x p) (e :: es) kws pos) (M.bind fl fun ds => M.bind fk fun es => callK ps.length a b ix F ds es) := by
  obtain ⟨f, fd, hm, hF, hb0, hG⟩ := G.ex
  refine PE.imp (pe_callKG hG (hr.mono hjk) hgd hg hm hF.kp (kb_of hF a b ix hn hb) tw ha hk hall hks hdb he hpl) fun σ H Q ⟨m₀, ρ, rr, w⟩ => ?_
  refine tL.first rr w fun ds ρ1 vs H1 _ r1 h1 s1 w1 => tL.first r1 w1 fun es ρ2 ws H2 _ r2 h2 s2 w2 => ?_
  refine callV_ok (c := ct X W fx) r2 (RpA.kwOf (s2.rpA r1 h1) h2) (w2.mono fun d ρ3 _ hs v H3 r3 h3 s3 => hs v H3 r3 h3 (s1.trans (s2.trans s3)))
theorem e_callK0 (G : DefV X.prog X.w X.K X.mg X.base x st j ps F) (hr : Room k X.A) (hgd : X.A.guards = some []) (tw : Takes X W) (hg : Gl X x) (hk : KV X W fx kws fk) (hjk : j ≤ k)
    (hb : ∀ (kV doc pm : Value) (an : Option Addr) (cdv ct : Value) (us ws : List Value), us.length = 0 → ws.length = b → bindArgs (PySem.W.fnOf x x (defArgs st) (defBody st) (defScope st) .none kV doc pm an cdv ct) ⟨us, ks.zip ws⟩ = pure (ps.zip (PV.pick ix (us ++ ws))))
    (hn : ps ≠ [] := by decide) (hall : (backToKw pos (keywordEach kws X.env)).all (·.1.isSome) = true := by rfl) (hks : (backToKw pos (keywordEach kws X.env)).filterMap (·.1) = ks := by rfl)
    (hdb : (x == ("__debug__" : Str)) = false := by decide)
    (hpl : ((backTo pos (starEach [] X.env)).any (·.1) || (backToKw pos (keywordEach kws X.env)).any (·.1.isNone)) = false := by rfl) :
    EV X W fx (.Call (.Name x p) [] kws pos) (M.bind fk fun es => callK ps.length 0 b ix F [] es) := by
  obtain ⟨f, fd, hm, hF, hb0, hG⟩ := G.ex
  refine PE.imp (pe_callK0G hG (hr.mono hjk) hgd hg hm hF.kp (kb_of hF 0 b ix hn hb) tw hk hall hks hdb hpl) fun σ H Q ⟨m₀, ρ, rr, w⟩ => ?_
  show tL (ct X W fx) fk σ H _
  refine tL.first rr w fun es ρ2 ws H2 _ r2 h2 s2 w2 => ?_
  exact callV_ok (c := ct X W fx) r2 (RpA.kwOf .nil h2) (w2.mono fun d ρ3 _ hs v H3 r3 h3 s3 => hs v H3 r3 h3 (s2.trans s3))
end
end PV

namespace PV
open PySem PySem.Spec PyProof.Rows L2

section
variable {P : Program} {w : World} {K : PySem.W.Frag} {mg : Str → Option Value} {base : Heap}
theorem FunD.okG {x qual : Str} {params : Arguments} {body : List Stmt} {scope : Scope} {f : Addr} {fd : FuncData} {N ps : List Str} {k : Nat} {sp : Sp} (F : FunD K x qual params body scope [] [] f fd) (S : FnScope N ps scope) (len : ∀ vs H Q E, sp vs H Q E → vs.length = ps.length)
    (hbody : ∀ (cdv : Value) (A : Around) (outer : List PySem.Env) (s : Shared) (H : Hp) (vs : List V) (Q : VK) (E : XK), Room k (A.deeper (envOfC qual scope s.heap.objs.size f cdv)) → A.guards = some [] → sp vs H Q E →
      ∃ t, PSs (cxOf (L2.CX P w) P w K mg base N qual scope f cdv A outer s H E) body t ∧ t { nx := fun _ H' => Q .non H', rt := Q } (L2.start N vs) H) : FnG P w K mg base (k + 1) f fd ps sp := by
  obtain ⟨oc, od, dV, kV, doc, pm, an, cdv, ct, osl, rfl, lk, hcd, _, _⟩ := F.ex
  refine ⟨len, fun A outer s H args us vs Q E room guard e0 bound rel want => ?_⟩
  have count := len _ _ _ _ want
  have inK : K.In s.heap := e0.mod.kin.keeps fun b o e => (e0.bs b o e).1
  have free : s.heap.NoLimit := e0.mod.nolimit.keeps fun b o e => (e0.bs b o e).1
  have kinds : ∀ y ∈ ps.zip us, scope.names.lookup y.1 = some .local ∨ (scope.names.lookup y.1 = some .cell ∧ ((cellsFrom (s.heap.objs.size + 1) scope.names []).lookup y.1).isSome = true) := by
    rintro ⟨n, v⟩ hy
    rcases S.par n (List.of_mem_zip hy).1 with q | q
    · exact .inl q
    · exact .inr ⟨q, PySem.W.cellsFrom_some _ _ _ (.inl q)⟩
  refine codeAny_call_function room.depth (inK _ _ lk) rfl S.co S.gen rfl (PySem.W.codeRec_of inK hcd) (bound _ _ _ _ ?_)
  refine wpAny_newFunctionEnv_cells S.kind kinds fun env he s1 x => ?_
  subst he
  refine ⟨free.keeps x.toInCall.keep, codeAny_func ?_⟩
  obtain ⟨t, ht, hq⟩ := hbody cdv A outer s H vs Q E (room.deeper _) guard want
  have I : Inv (cxOf (L2.CX P w) P w K mg base N qual scope f cdv A outer s H E) [] (L2.start N vs) H s1 := inv_start S room.hd e0 count rel x
  refine wpAny_mono (ht.run [] s1 (L2.start N vs) H _ I hq) (fun fl s' hs => ?_) fun _ _ hs => hs
  cases fl with
  | ret u =>
    obtain ⟨v, σ', H', J, rv, q⟩ := hs
    exact ⟨v, H', J.os, J.bare, J.base, J.hok, rv, q⟩
  | next =>
    obtain ⟨σ', H', J, q⟩ := hs
    exact ⟨V.non, H', J.os, J.bare, J.base, J.hok, rfl, q⟩
  | brk => exact hs.choose_spec.choose_spec.2.elim
  | cont => exact hs.choose_spec.choose_spec.2.elim

/-- what a body's walk may lean on -/
structure Fine (X : Cx) (W : WX) (k : Nat) : Prop where
  hr : Room k X.A
  hg : X.A.guards = some []
  tw : Takes X W
  hp : PassesOwn (model X.prog X.w) X.A X.env X.xe
  nd : X.N.Nodup
/-- the walk of a body -/
def Walk (P : Program) (w : World) (K : PySem.W.Frag) (mg : Str → Option Value) (base : Heap) (x : Str) (st : Stmt) (k : Nat) (N : List Str) (fx : List Nat) (f : M Fl) : Prop :=
  ∀ (fa : Addr) (cdv : Value) (A : Around) (outer : List PySem.Env) (s : Shared) (H : Hp) (E : XK),
    Fine (cxOf (L2.CX P w) P w K mg base N x (defScope st) fa cdv A outer s H E) (fun cl d _ H' => E cl d H') k →
    BV (cxOf (L2.CX P w) P w K mg base N x (defScope st) fa cdv A outer s H E) (fun cl d _ H' => E cl d H') fx (defBody st) f
theorem defV_mk {x : Str} {st : Stmt} {f : Addr} {N ps : List Str} {k m : Nat} {fx : List Nat} {mir : M Fl} (hm : mg x = some (.ref f)) (F : ∃ fd, FunD K x x (defArgs st) (defBody st) (defScope st) [] [] f fd) (S : FnScope N ps (defScope st))
    (hb : ∀ (kV doc pm : Value) (an : Option Addr) (cdv ct : Value) (us : List Value), us.length = ps.length → bindArgs (PySem.W.fnOf x x (defArgs st) (defBody st) (defScope st) .none kV doc pm an cdv ct) ⟨us, []⟩ = pure (ps.zip us)) (hN : N.length = ps.length + m)
    (body : Walk P w K mg base x st k N fx mir) : DefV P w K mg base x st (k + 1) ps (fnB fx ps.length m (asRet mir)) := by
  obtain ⟨fd, F⟩ := F
  refine ⟨f, fd, hm, F, F.bindsN hb, FunD.okG F S (fun vs H Q E h => h.1) fun cdv A outer s H vs Q E hr hg h => ⟨_, body f cdv A outer s H E ⟨hr, hg, takes_of rfl rfl rfl rfl, passes_of rfl, S.nd⟩, ?_⟩⟩
  exact fn_core hN h
theorem defL_mk {x : Str} {st : Stmt} {f : Addr} {N ps : List Str} {k m : Nat} {fx : List Nat} {mir : M Fl} (hm : mg x = some (.ref f)) (F : ∃ fd, FunD K x x (defArgs st) (defBody st) (defScope st) [] [] f fd) (S : FnScope N ps (defScope st))
    (hb : ∀ (kV doc pm : Value) (an : Option Addr) (cdv ct : Value) (us : List Value), us.length = ps.length → bindArgs (PySem.W.fnOf x x (defArgs st) (defBody st) (defScope st) .none kV doc pm an cdv ct) ⟨us, []⟩ = pure (ps.zip us)) (hN : N.length = ps.length + m)
    (body : Walk P w K mg base x st k N fx mir) : DefL P w K mg base x st (k + 1) ps (fnB fx ps.length m (asRetO mir)) := by
  obtain ⟨fd, F⟩ := F
  refine ⟨f, fd, hm, F, F.bindsN hb, FunD.okG F S (fun vs H Q E h => h.1) fun cdv A outer s H vs Q E hr hg h => ⟨_, body f cdv A outer s H E ⟨hr, hg, takes_of rfl rfl rfl rfl, passes_of rfl, S.nd⟩, ?_⟩⟩
  exact fn_coreN hN h
end

/-! ### facts of the top -/
mutual
/-- the value stands for the datum, all of it written -/
def conB (K : PySem.W.Frag) : D → Value → Bool
  | .non, .none => true
  | .bl b, .bool c => decide (b = c)
  | .int i, .int j _ => decide (i = j)
  | .str x, .str y _ => decide (x = y)
  | .tup ds, .ref a => (match K.lookup a with
    | some ⟨.type c, _, .seq its _, _⟩ => decide (c = "tuple") && (decide (its.size ≤ sizeLine) && conA K ds its.toList)
    | _ => false)
  | _, _ => false
def conA (K : PySem.W.Frag) : List D → List Value → Bool
  | [], [] => true
  | d :: ds, u :: us => conB K d u && conA K ds us
  | _, _ => false
end
mutual
theorem conB_ok {K : PySem.W.Frag} : ∀ (d : D) (u : Value), conB K d u = true → ∃ v, RelV v u ∧ ∀ m g H, Rp m K g H v d
  | .non, u, h => by
    cases u <;> simp [conB] at h
    exact ⟨.non, rfl, fun _ _ _ => .non⟩
  | .bl b, u, h => by
    cases u <;> simp [conB] at h
    exact ⟨.bl b, by rw [h]; rfl, fun _ _ _ => .bl b⟩
  | .int i, u, h => by
    cases u <;> simp [conB] at h
    exact ⟨.int i, by rw [h]; exact ⟨_, rfl⟩, fun _ _ _ => .int i⟩
  | .str x, u, h => by
    cases u <;> simp [conB] at h
    exact ⟨.str x, by rw [h]; exact ⟨_, rfl⟩, fun _ _ _ => .str x⟩
  | .tup ds, u, h => by
    cases u with
    | ref a =>
      simp only [conB] at h
      cases q : K.lookup a with
      | none => rw [q] at h; cases h
      | some o =>
        obtain ⟨oc, od, dt, osl⟩ := o
        rw [q] at h
        cases oc with
        | type c =>
          cases dt with
          | seq its n =>
            obtain ⟨h1, h2⟩ := He.ba (show (decide (c = "tuple") && (decide (its.size ≤ sizeLine) && conA K ds its.toList)) = true from h)
            obtain ⟨h3, h4⟩ := He.ba h2
            obtain ⟨vs, a1, a2⟩ := conA_ok ds _ h4
            exact ⟨.ref a, rfl, fun m g H => .tup (.inr ⟨_, its, n, q, congrArg Value.type (of_decide_eq_true h1), rfl, of_decide_eq_true h3, a1⟩) (a2 m g H)⟩
          | _ => cases h
        | _ => cases dt <;> cases h
    | _ => simp [conB] at h
  | .lst _, u, h => by cases u <;> simp [conB] at h
  | .dic _ _, u, h => by cases u <;> simp [conB] at h
  | .fz _, u, h => by cases u <;> simp [conB] at h
  | .ins _ _ _, u, h => by cases u <;> simp [conB] at h
theorem conA_ok {K : PySem.W.Frag} : ∀ (ds : List D) (us : List Value), conA K ds us = true → ∃ vs, Vals vs us ∧ ∀ m g H, RpA m K g H vs ds
  | [], [], _ => ⟨[], .nil, fun _ _ _ => .nil⟩
  | d :: ds, u :: us, h => by
    simp only [conA] at h
    obtain ⟨h1, h2⟩ := He.ba h
    obtain ⟨v, a1, a2⟩ := conB_ok d u h1
    obtain ⟨vs, b1, b2⟩ := conA_ok ds us h2
    exact ⟨v :: vs, .cons a1 b1, fun m g H => .cons (a2 m g H) (b2 m g H)⟩
  | [], _ :: _, h => by simp [conA] at h
  | _ :: _, [], h => by simp [conA] at h
end
inductive Fp where
  | fn (x : Str)
  | free (x : Str)
  | bi (x : Str) (n : String)
  | con (x : Str) (d : D)
  | fa (f : He.Fa)
  | isE (x y : Str) (b : Bool)
  | isT (x : Str) (T : String) (b : Bool)
/-- what isinstance asks of an error's class -/
def excB (K : PySem.W.Frag) (D : Addr) : Bool :=
  decide (PySem.W.findIn K (.ref D) "__getattribute__" = some (some (.builtin "BaseException.__getattribute__"))) && (decide (PySem.W.findIn K (.ref D) "__getattr__" = some none) &&
  (decide (PySem.W.subIn K (.ref D) (.type "BaseException") = some true) && (PySem.W.hasDictIn K D && (decide (PySem.W.findIn K (.ref D) "__class__" = some (some (.builtin "object.__class__"))) &&
  (decide (PySem.W.specialIn K (.builtin "object.__class__") "__get__" = some (some (.builtin "getset_descriptor.__get__"))) && (decide (PySem.W.takesIn K (.builtin "object.__class__") = some true) && decide (PySem.W.mroIn K D (.type "object") = some true)))))))
def Fp.ok (K : PySem.W.Frag) : Fp → Bool
  | .fa f => f.ok K
  | .isE x y b => excB K (He.ga K x) && decide (PySem.W.kitOne K (.ref (He.ga K x)) (.ref (He.ga K y)) = some b)
  | .isT x T b => excB K (He.ga K x) && decide (PySem.W.kitOne K (.ref (He.ga K x)) (.type T) = some b)
  | .fn x => (He.Fa.glo x).ok K
  | .free x => (He.Fa.free x).ok K
  | .bi x n => He.eqO (PySem.W.nsIn K mainGlobals x) (some (some (.builtin n)))
  | .con x d => (match PySem.W.nsIn K mainGlobals x with
    | some (some u) => conB K d u
    | _ => false)
section
variable {K : PySem.W.Frag} {h : Heap} {mg : Str → Option Value}
theorem bi_ok (X : K.In h) (G : h.Ns mainGlobals mg) {x : Str} {n : String} (c : (Fp.bi x n).ok K = true) : mg x = some (.builtin n) := PySem.W.mg_of X G (He.eqO_ok c)
theorem con_ok (X : K.In h) (G : h.Ns mainGlobals mg) {x : Str} {d : D} (c : (Fp.con x d).ok K = true) : ∃ v u, mg x = some u ∧ RelV v u ∧ ∀ m g H, Rp m K g H v d := by
  have c2 : (match PySem.W.nsIn K mainGlobals x with
    | some (some u) => conB K d u
    | _ => false) = true := c
  cases e : PySem.W.nsIn K mainGlobals x with
  | none => rw [e] at c2; cases c2
  | some o =>
    rw [e] at c2
    cases o with
    | none => cases c2
    | some u =>
      obtain ⟨v, a1, a2⟩ := conB_ok d u c2
      exact ⟨v, u, PySem.W.mg_of X G e, a1, a2⟩
end
abbrev AlP : Type := Bool × List He.FnW
def obsP (fa : List Fp) (fn : List He.DefD) (K : PySem.W.Frag) : AlP := ((fa.all fun f => f.ok K) && fn.all fun d => d.ok K, fn.map fun d => He.fnW K d.at_)
def valP (fn : List He.DefD) : AlP := (true, fn.map He.DefD.val)
def SaysP (fa : List Fp) (fn : List He.DefD) (K : PySem.W.Frag) : Prop := obsP fa fn K = valP fn
def obsPG (n : Nat) (fa : List Fp) (fn : List He.DefD) (g : Addr → Option Obj) : AlP := obsP fa fn (He.frG g (He.asD g n))
def hookP (n : Nat) (fa : List Fp) (fn : List He.DefD) : PySem.W.Hook where
  α := AlP
  obs := fun s => obsPG n fa fn s.heap.get?
  val := fun _ => valP fn
  says := fun _ h => ∃ K : PySem.W.Frag, K.In h ∧ SaysP fa fn K
  of := fun _ _ e => ⟨_, He.frG_in, e⟩
  keeps := fun _ _ _ ⟨K, hK, c⟩ k => ⟨K, PySem.W.Frag.In.keeps hK k, c⟩
theorem obsPG_eq {n : Nat} {fa : List Fp} {fn : List He.DefD} {g : Addr → Option Obj} {s : Shared} (h : ∀ a, g a = s.heap.get? a) : obsPG n fa fn g = (hookP n fa fn).obs s := by
  have e : g = s.heap.get? := funext h
  rw [e] <;> rfl
section
variable {fa : List Fp} {fn : List He.DefD} {K : PySem.W.Frag}
theorem SaysP.fact (c : SaysP fa fn K) (i : Nat) {f : Fp} (h : fa[i]? = some f := by rfl) : f.ok K = true := by
  have c1 := (He.ba (show ((fa.all fun f => f.ok K) && fn.all fun d => d.ok K) = true from congrArg (fun z : AlP => z.1) c)).1
  exact List.all_eq_true.mp c1 f (List.mem_of_getElem? h)
theorem SaysP.def_ (c : SaysP fa fn K) (i : Nat) {d : He.DefD} (h : fn[i]? = some d := by rfl) : ∃ fd, FunD K d.name d.qual d.params d.body d.scope (d.dvs K) (d.kws K) (He.fAd K d.at_) fd := by
  have c2 := (He.ba (show ((fa.all fun f => f.ok K) && fn.all fun d => d.ok K) = true from congrArg (fun z : AlP => z.1) c)).2
  have e : fn.map (fun d => He.fnW K d.at_) = fn.map He.DefD.val := congrArg (fun z : AlP => z.2) c
  have e2 : (fn.map fun d => He.fnW K d.at_)[i]? = (fn.map He.DefD.val)[i]? := by rw [e]
  rw [List.getElem?_map, List.getElem?_map, h] at e2
  exact He.DefD.funD (Option.some.inj e2) (List.all_eq_true.mp c2 d (List.mem_of_getElem? h))
end

/-! ### the law's end -/
/-- the law's mirror, at the script's numbers -/
def Good (n : Nat) (F : M D) : Prop := ∀ ns : List Int, ns.length ≤ n → ∃ ρ', F [.val (.fz ns)] = .ok (.bl true) ρ'
section
variable {P : Program} {w : World} {K : PySem.W.Frag} {mg mb : Str → Option Value} {k : Nat} {fa a : Addr} {fd : FuncData} {x : Str} {F : M D} {s₁ : Shared} {vs : List Value} {ns : List Int}
/-- one call, in a heap where at most the script is known -/
theorem end_one {Hb : Heap} {H : Hp} (hG : FnG P w K mg Hb k fa fd [x] (spD K mg 1 F)) (e0 : Env0 P w K mg Hb callerA [] s₁ H) (hb : BindsTo s₁ fd ⟨[Value.ref a], []⟩ [(x, Value.ref a)]) (hr : Room k callerA) (hO : Only H) (hS : RF (fun _ => False) K H a (ns.map V.int)) (hF : ∃ ρ', F [.val (.fz ns)] = .ok (.bl true) ρ') :
    codeAny (model P w) callerA (.call (.ref fa) ⟨[Value.ref a], []⟩) (CR (L2.CX P w) [] P w H s₁ (fun v _ => v = .bl true) fun _ _ _ => False) s₁ := by
  refine hG.run callerA [] s₁ H ⟨[.ref a], []⟩ [.ref a] [.ref a] _ _ hr rfl e0 hb (.cons rfl .nil) ⟨rfl, fun _ => False, [.val (.fz ns)], ?_, ?_⟩
  · have r0 : Rel (fun _ => False) K mg H [] [] := ⟨rfl, fun _ z => z.elim, fun i d e => by simp at e, fun i d e => by simp at e, fun i j _ _ _ e _ _ _ => by simp at e⟩
    have no : ∀ a, ¬ mm (fun _ => False) ([] : L2.St) [] a := fun a z => z.elim id fun ⟨i, _, e, _⟩ => by simp at e
    have em : mm (fun _ => False) ([] : L2.St) [] = fun _ => False := funext fun a => propext ⟨fun z => no a z, False.elim⟩
    have r1 := r0.args (vs := [.ref a]) (ds := [.fz ns]) (by rw [em]; exact .cons (.fz hS) .nil)
    rw [em] at r1
    exact r1
  · obtain ⟨ρ', e⟩ := hF
    show OkD _ _ _ _ _ _ _ _ (F [.val (.fz ns)])
    rw [e]
    intro v H' _ hv _
    exact hv.bl_inv
end
end PV

namespace PV
open PySem PySem.Spec PyProof.Rows L2

section
variable {P : Program} {w : World} {K : PySem.W.Frag} {mg mb : Str → Option Value} {k : Nat} {fa a : Addr} {fd : FuncData} {x : Str} {F : M D} {s₁ : Shared} {vs : List Value} {ns : List Int} {h : Heap} {H : Hp}
/-- the script alone may be known -/
structure Lone (K : PySem.W.Frag) (h : Heap) (H : Hp) (a : Addr) (ns : List Int) : Prop where
  rf : RF (fun _ => False) K H a (ns.map V.int)
  one : ∀ b, H b ≠ none → b = a ∧ K.lookup b = none
  only : Only H
theorem lone_none (hl : (∃ o, K.lookup a = some o)) (KX : K.In h) (ha : h.get? a = some { cls := .type "list", data := .seq vs.toArray }) (hi : IntsAre vs ns) (hn : ns.length ≤ sizeLine) : Lone K h (fun _ => none) a ns ∧ HOk P w (fun _ => none) h := by
  obtain ⟨o, hk⟩ := hl
  have eo : o = { cls := .type "list", data := .seq vs.toArray } := by
    have := KX a o hk
    rw [ha] at this
    exact (Option.some.inj this).symm
  subst eo
  have sz : vs.toArray.size ≤ sizeLine := by
    have := hi.length
    simp only [List.size_toArray]; omega
  refine ⟨⟨.inr ⟨_, vs.toArray, _, hk, rfl, rfl, rfl, sz, ?_⟩, fun b z => absurd rfl z, fun b => .inl rfl⟩, fun b u z => nomatch z⟩
  have := vals_ints hi
  simpa using this
theorem lone_one (hl : K.lookup a = none) (ha : h.get? a = some { cls := .type "list", data := .seq vs.toArray }) (hi : IntsAre vs ns) (hn : ns.length ≤ sizeLine) :
    ∃ H, Lone K h H a ns ∧ HOk P w H h := by
  let o : Obj := { cls := .type "list", data := .seq vs.toArray }
  let H : Hp := fun b => if b = a then some (.frz o (.lst (ns.map V.int))) else none
  have at_a : H a = some (.frz o (.lst (ns.map V.int))) := if_pos rfl
  have off : ∀ b, b ≠ a → H b = none := fun b q => if_neg q
  have is_a : ∀ b, H b ≠ none → b = a := fun b z => Classical.byContradiction fun q => z (off b q)
  refine ⟨H, ⟨.inl ⟨id, o, at_a⟩, fun b z => ⟨is_a b z, by rw [is_a b z]; exact hl⟩, fun b => ?_⟩, fun b u z => ?_⟩
  · by_cases q : b = a
    · exact .inr ⟨o, _, by rw [q]; exact at_a⟩
    · exact .inl (off b q)
  · have q := is_a b (by rw [z]; simp)
    subst q
    rw [at_a] at z; cases z
    exact ⟨ha, by simpa using hn, vs, _, vals_ints hi, ha⟩
/-- the heap less the script still holds what is written -/
theorem lone_env (L : Lone K s₁.heap H a ns) (hok : HOk P w H s₁.heap) (KX : K.In s₁.heap) (gM : s₁.heap.Ns mainGlobals mg) (gB : s₁.heap.Ns builtinsNs mb) (hbb : ∀ x : Str, x ≠ "__name__" → mb x = bootBuiltins x) (nl : s₁.heap.NoLimit) (hg : s₁.gens = #[])
    (ha : s₁.heap.get? a = some { cls := .type "list", data := .seq vs.toArray }) : K.In (hidT s₁.heap H) ∧ (hidT s₁.heap H).Ns mainGlobals mg ∧ Env0 P w K mg (hidT s₁.heap H) callerA [] s₁ H := by
  have stays : ∀ {b : Addr} {m : Str → Option Value}, s₁.heap.Ns b m → (hidT s₁.heap H).Ns b m := fun {b m} ⟨o, es, ep, e, d, r⟩ => by
    refine ⟨o, es, ep, hidT_get e (Classical.byContradiction fun z => ?_), d, r⟩
    rw [(L.one b z).1, ha] at e
    have e' := Option.some.inj e
    rw [← e'] at d
    cases d
  have inn : K.In (hidT s₁.heap H) := fun b o e => hidT_get (KX b o e) (Classical.byContradiction fun z => by
    rw [(L.one b z).2] at e
    cases e)
  obtain ⟨mc, c1, c2⟩ := nl
  have md : Mod K mg (hidT s₁.heap H) := ⟨inn, stays gM, ⟨mb, stays gB, hbb⟩, mc, stays c1, c2⟩
  refine ⟨inn, stays gM, rfl, md, fun b o e => of_hidT e, Nat.le_of_eq (hidT_size _ _), trivial, fun b z => ?_, hok, .of_eq hg⟩
  have z' : b ∈ ([] : List Addr) := z
  cases z'
theorem end_two (L : Lone K s₁.heap H a ns) (hok : HOk P w H s₁.heap) (KX : K.In s₁.heap) (gM : s₁.heap.Ns mainGlobals mg) (gB : s₁.heap.Ns builtinsNs mb) (hbb : ∀ x : Str, x ≠ "__name__" → mb x = bootBuiltins x) (nl : s₁.heap.NoLimit) (hg : s₁.gens = #[])
    (ha : s₁.heap.get? a = some { cls := .type "list", data := .seq vs.toArray }) (hr : Room k callerA) (hG : ∀ base : Heap, K.In base → base.Ns mainGlobals mg → FnG P w K mg base k fa fd [x] (spD K mg 1 F)) (hb : BindsTo s₁ fd ⟨[Value.ref a], []⟩ [(x, Value.ref a)]) (hF : ∃ ρ', F [.val (.fz ns)] = .ok (.bl true) ρ') :
    codeAny (model P w) callerA (.call (.ref fa) ⟨[.ref a], []⟩) (fun r s' => r = .ok (.ret (.bool true)) ∧ OldK s₁.heap s'.heap ∧ s'.os = s₁.os ∧ AllBare s'.gens) s₁ := by
  obtain ⟨i1, i2, e0⟩ := lone_env L hok KX gM gB hbb nl hg ha
  refine codeAny_mono (end_one (hG _ i1 i2) e0 hb hr L.only L.rf hF) fun r s' z => ?_
  match r, z with
  | .error e, z =>
    obtain ⟨_, _, _, _, _, z⟩ := z
    exact (z.2.2.2.2.2.2.2).elim
  | .ok .next, z => exact False.elim z
  | .ok .brk, z => exact False.elim z
  | .ok .cont, z => exact False.elim z
  | .ok (.ret u), z =>
    obtain ⟨v, H', z1, z2, z3, z4, z5, z6⟩ := z
    have z7 : v = .bl true := z6
    subst z7
    have z8 : u = Value.bool true := z5
    subst z8
    refine ⟨rfl, OldK.of_keep fun b o e => ?_, z1, z2⟩
    rcases L.only b with q | ⟨ob, xs, q⟩
    · refine z3.keep b o e q (fun z => ?_) (by simp)
      have z' : b ∈ ([] : List Addr) := z
      cases z'
    · have q2 := z3.frzs b ob _ q
      obtain ⟨f1, _⟩ := hok b _ q
      obtain ⟨f2, _⟩ := z4 b _ q2
      rw [e] at f1; cases f1
      exact f2
end
/-- the goal behind the head -/
theorem end_walk {l : PySem.W.OpenLaw} {n k : Nat} {q : Program} {loose : List Str} {XP : (Str → Option Value) → Heap → Prop} {d : DefRec} {x : Str} {F : M D} {fs : List Fp} {fn : List He.DefD} {YP : World → Heap → Prop} {st : Stmt}
    (hn : l.most = some n) (hn2 : n ≤ sizeLine) (hdf : d.params.defaults = []) (hr : Room k callerA) (hY : ∀ w h, YP w h → ∃ K : PySem.W.Frag, K.In h ∧ SaysP fs fn K) (hd : d.name = x)
    (hF : Good n F) {y : Str}
    (hG : ∀ (w : World) (K : PySem.W.Frag) (mg : Str → Option Value) (h : Heap), K.In h → h.Ns mainGlobals mg → SaysP fs fn K → ∀ base : Heap, K.In base → base.Ns mainGlobals mg → DefV l.prog w K mg base x st k [y] F) :
    PySem.W.WalkO q loose XP YP l.row.toRowW d [] (fun f vs => PySem.call f vs) := by
  refine Att.attach_call hn hdf fun w s₀ s₁ mg mb fa o pm cd doc a vs ns G Y ho _ hcd hmg hobj hints hlen hg => ?_
  obtain ⟨K, KX, c⟩ := hY w _ Y
  have gM := G.T.g
  have hsz := Nat.le_trans hlen hn2
  have hmg' : mg x = some (.ref fa) := by rw [← hd]; exact hmg
  obtain ⟨fd0, hb0, b0⟩ : ∃ fd, (∀ s : Shared, K.In s.heap → BindsTo s fd ⟨[Value.ref a], []⟩ [(y, Value.ref a)]) ∧ ∀ base : Heap, K.In base → base.Ns mainGlobals mg → FnG l.prog w K mg base k fa fd [y] (spD K mg 1 F) := by
    obtain ⟨f, fd, e1, e2, e3, _⟩ := (hG w K mg _ KX gM c _ KX gM).ex
    rw [hmg'] at e1; cases e1
    refine ⟨fd, fun s i => ?_, fun base i1 i2 => ?_⟩
    · have := e3 s [Value.ref a] i rfl
      simpa using this
    · obtain ⟨f', fd', e1', e2', _, e4'⟩ := (hG w K mg _ KX gM c base i1 i2).ex
      rw [hmg'] at e1'; cases e1'
      obtain ⟨_, _, _, _, _, _, _, _, _, _, _, l1, _, _⟩ := e2.ex
      obtain ⟨_, _, _, _, _, _, _, _, _, _, _, l2, _, _⟩ := e2'.ex
      rw [l1] at l2
      cases l2
      exact e4'
  have hF' := hF ns hlen
  cases hk : K.lookup a with
  | some ok =>
    obtain ⟨L, hok⟩ := lone_none (P := l.prog) (w := w) ⟨ok, hk⟩ KX hobj hints hsz
    exact end_two L hok KX gM G.T.b G.T.builtins G.T.nolimit hg hobj hr b0 (hb0 s₁ KX) hF'
  | none =>
    obtain ⟨H, L, hok⟩ := lone_one (P := l.prog) (w := w) hk hobj hints hsz
    exact end_two L hok KX gM G.T.b G.T.builtins G.T.nolimit hg hobj hr b0 (hb0 s₁ KX) hF'
end PV

namespace PV
open PySem PySem.Spec PyProof.Rows L2

theorem takes0 {X : Cx} : Takes X W0 := fun u s' ⟨a, B, sI, pins, σ, H, cls, d, e, I, nb, up, sky, na, os, ag, w⟩ => w.elim
theorem set_selfE {ρ : En} {i : Nat} {x : Sl} (h : ρ[i]? = some x) : ρ.set i x = ρ := by
  obtain ⟨hl, e⟩ := List.getElem?_eq_some_iff.mp h
  rw [← e, List.set_getElem_self]
theorem dIx_lst {ds : List D} {k d : D} (h : dIx (.lst ds) k = some d) : ∃ i, k = .int i ∧ atI ds i = some d := by
  cases k <;> simp only [dIx] at h
  · cases h
  · cases h
  · exact ⟨_, rfl, h⟩
  all_goals cases h
theorem Fine.un {X : Cx} {W : WX} {k : Nat} (F : Fine X W k) : X.A.units + 64 < cLine := by have := F.hr.un; omega
theorem gSub_noer (j : Nat) (i : Int) : ∀ d ρ x ρ', gSub1 j (M.ret (.int i)) d ρ ≠ .er x ρ' := fun d ρ x ρ' h => by
  unfold gSub1 mOwned at h
  split at h
  · have h' : (mAt j (setAt (.int i) d) ρ).andThen (fun _ => M.ret ()) = .er x ρ' := h
    unfold mAt at h'
    split at h'
    · split at h' <;> cases h'
    · cases h'
  · cases h
section
variable {X : Cx} {W : WX} {fx : List Nat} {a b c e o : Expr} {fa fb fc fi fe : M D} {pos p : Pos} {j : Nat}
/-- o[i], o owned -/
theorem e_ixO (j : Nat) (ho : PE X o (tVar j)) (hi : EV X W fx e fi) (hs : PlainIx e) : EV X W fx (.Subscript o e pos) (mIxO j fi) := by
  refine PE.imp (pe_ix ix_A ho hi hs) fun σ H Q ⟨m₀, ρ, rr, w⟩ => ?_
  unfold mIxO mOwned at w
  by_cases ho : isOwn ρ j = true
  · rw [if_pos ho] at w
    obtain ⟨ds0, eo⟩ := isOwn_ok ho
    obtain ⟨p0, _, ep, _, _, _⟩ := rr.own j ds0 eo
    refine ⟨.ref p0, ep, ?_⟩
    refine tE.first rr w fun k ρ1 iv H1 r1 h1 s1 w2 => ?_
    unfold mAt at w2
    split at w2
    · rename_i ds eo1
      split at w2
      · rename_i d es e2
        obtain ⟨d', e3, e4⟩ := Option.map_eq_some_iff.mp e2
        cases e4
        obtain ⟨p, vs, ep1, eH, hA, hw⟩ := r1.write eo1
        rw [ep] at ep1; cases ep1
        rw [set_selfE eo1] at w2
        obtain ⟨i, rfl, e4⟩ := dIx_lst e3
        cases h1
        obtain ⟨v, e5, h5⟩ := atI_rp hA e4
        exact .inl ⟨_, _, _, _, rfl, rfl, .inl (.inl eH), e5, w2 v H1 r1 h5 s1⟩
      · exact w2.elim
    · exact w2.elim
  · rw [if_neg ho] at w; exact w.elim
/-- len(o), o owned -/
theorem e_lenO (j : Nat) (hg : Gl X "len") (hm : X.mg "len" = none) (ho : PE X e (tVar j)) (he : starEach (e :: []) X.env = (false, eval e X.env) :: starEach [] X.env := by rfl) (hpl : (backTo pos (starEach [] X.env)).any (·.1) = false := by rfl) :
    EV X W fx (.Call (.Name "len" p) [e] [] pos) (mLenO j) := by
  refine PE.imp (pe_callB call_lenA hg hm boot_len (pa_cons ho pa_nil he) (by decide) (by decide) he hpl) fun σ H Q ⟨m₀, ρ, rr, w⟩ => ?_
  unfold mLenO mAt at w
  split at w
  · rename_i ds eo
    obtain ⟨p0, vs, ep, _, eH, hA⟩ := rr.own j ds eo
    simp only [set_selfE eo] at w
    refine ⟨.ref p0, ep, .inl ⟨p0, vs, rfl, .inl (.inl (.inl eH)), ?_⟩⟩
    rw [hA.length]
    exact w _ H rr (.int _) .refl
  · exact w.elim
/-! chains of comparisons -/
def mChain (f g : D → D → Option D) (fa fb fc : M D) : M D := M.bind fa fun x => M.bind fb fun y => M.bind (lift (f x y)) fun z => M.bind (lift (asB z)) fun k => if k = true then M.bind fc fun w => lift (g y w) else M.ret (.bl false)
theorem chain_core {r r' : R2} {f g : D → D → Option D} (hd : OpD X r f) (hd' : OpD X r' g) {σ : L2.St} {H : Hp} {Q : VK} (h : tE (ct X W fx) (mChain f g fa fb fc) σ H Q) : tChain r r' (tE (ct X W fx) fa) (tE (ct X W fx) fb) (tE (ct X W fx) fc) σ H Q := by
  obtain ⟨m₀, ρ, rr, w⟩ := h
  refine tE.first rr w fun dx ρ1 x H1 r1 h1 s1 w1 => tE.first r1 w1 fun dy ρ2 y H2 r2 h2 s2 w2 => ?_
  obtain ⟨dz, e, w3⟩ := w2.lift1
  refine hd _ H2 x y dx dy dz (s2.rp r1 h1) h2 e (fun p hp => r2.new_out hp) _ fun v H' k h' => ?_
  obtain ⟨b, eb, w4⟩ := w3.lift1
  rw [asB_inv eb] at h'
  refine ⟨b, h'.bl_inv, ?_⟩
  have st : Stp σ ρ H σ ρ2 H' := s1.trans (s2.trans (.grown k))
  cases b with
  | false =>
    rw [if_neg Bool.false_ne_true] at w4 ⊢
    exact w4 _ H' (r2.grown k) (.bl false) st
  | true =>
    rw [if_pos rfl] at w4 ⊢
    have w5 := w4.later (.grown k) .refl
    refine tE.first (r2.grown k) w5 fun dw ρ3 u H3 r3 h3 s3 w6 => ?_
    obtain ⟨dq, eq, w7⟩ := w6.lift
    have t23 : Stp σ ρ2 H2 σ ρ3 H3 := (Stp.grown k).trans s3
    exact hd' _ H3 y u dy dw dq (t23.rp r2 h2) h3 eq (fun p hp => r3.new_out hp) Q fun v' H'' k' h'' => w7 v' H'' (r3.grown k') h'' (st.trans (s3.trans (.grown k')))
theorem e_chain {op op' : CmpOp} {r r' : R2} {f g : D → D → Option D} (ho : OpR X (compareOp op) r) (hd : OpD X r f) (ho' : OpR X (compareOp op') r') (hd' : OpD X r' g) (ha : EV X W fx a fa) (hb : EV X W fx b fb) (hc : EV X W fx c fc)
    (hm : lastMarks [op, op'] [b, c] = false := by with_unfolding_all rfl) : EV X W fx (.Compare a [op, op'] [b, c] pos) (mChain f g fa fb fc) :=
  PE.imp (pe_chain ho ho' ha hb hc hm) fun _ _ _ h => chain_core hd hd' h
theorem t_chain {op op' : CmpOp} {r r' : R2} {f g : D → D → Option D} (ho : OpR X (compareOp op) r) (hd : OpD X r f) (ho' : OpR X (compareOp op') r') (hd' : OpD X r' g) (ha : EV X W fx a fa) (hb : EV X W fx b fb) (hc : EV X W fx c fc)
    (hm : lastMarks [op, op'] [b, c] = false := by with_unfolding_all rfl) : TV X W fx (.Compare a [op, op'] [b, c] pos) (mTest (mChain f g fa fb fc)) := by
  refine PT.imp (pt_chain ho ho' ha hb hc hm) fun σ H Q h => ?_
  exact chain_core hd hd' (test_core h)
/-! x, y = a, b -/
def mPar (i j : Nat) (fl : M (List D)) : M Fl := M.bind fl fun ds => match ds with
  | [x, y] => M.bind (put i (.val x)) fun _ => M.bind (put j (.val y)) fun _ => M.ret .nx
  | _ => fun _ => .no
def mPar3 (i j l : Nat) (fl : M (List D)) : M Fl := M.bind fl fun ds => match ds with
  | [x, y, z] => M.bind (put i (.val x)) fun _ => M.bind (put j (.val y)) fun _ => M.bind (put l (.val z)) fun _ => M.ret .nx
  | _ => fun _ => .no
variable {fl : M (List D)}
theorem put_ok2 {c : Ct} {m₀ : Addr → Prop} {σ : L2.St} {ρ ρ1 : En} {H : Hp} {β : Type} {S : β → En → Prop} {i : Nat} {sl : Sl} {k : Unit → M β} (w : Want c m₀ σ ρ H S (M.bind (put i sl) k ρ1)) : i < ρ1.length ∧ Want c m₀ σ ρ H S (k () (ρ1.set i sl)) := by
  have w' : Want c m₀ σ ρ H S ((if i < ρ1.length then R.ok () (ρ1.set i sl) else R.no).andThen k) := w
  by_cases h : i < ρ1.length
  · rw [if_pos h] at w'; exact ⟨h, w'⟩
  · rw [if_neg h] at w'; exact w'.elim
theorem s_par (i j : Nat) {x y : Str} {px py pt pt2 : Pos} {kt k2} (hc : X.calm = true) (hN : X.N.Nodup) (ha : LV X W fx [a, b] fl) (hi : X.N[i]? = some x := by rfl) (hj : X.N[j]? = some y := by rfl) (hij : i ≠ j := by decide)
    (hx : X.env.scope.names.lookup x = some .local := by rfl) (hy : X.env.scope.names.lookup y = some .local := by rfl) (hfi : i ∉ fx := by decide) (hfj : j ∉ fx := by decide)
    (hw : swappedStores [.Tuple [.Name x px, .Name y py] kt pt] (.Tuple [a, b] k2 pt2) X.env = pure (some [x, y]) := by rfl)
    (hs : swapsWithSole [.Tuple [.Name x px, .Name y py] kt pt] (.Tuple [a, b] k2 pt2) pos.line X.env = pure false := by rfl) :
    SV X W fx (.Assign [.Tuple [.Name x px, .Name y py] kt pt] (.Tuple [a, b] k2 pt2) pos) (mPar i j fl) := by
  refine PS.imp (ps_par hc hN hi hj hij hx hy ha hw hs) fun E σ H ⟨m₀, ρ, rr, w⟩ => ?_
  refine tL.first rr w fun ds ρ1 vs H1 _ r1 h1 s1 w1 => ?_
  split at w1
  · obtain ⟨v, w', rfl, h2, h3⟩ := rp2 h1
    obtain ⟨hi1, w2⟩ := put_ok2 w1
    obtain ⟨hj1, w3⟩ := put_ok2 w2
    refine ⟨v, w', rfl, w3 _ H1 ?_ ((s1.trans .set).trans .set) ((fx_set hfi).trans (fx_set hfj))⟩
    exact (r1.put hi1 h2).put hj1 (Stp.set.rp r1 h3)
  · exact w1.elim
theorem s_par3 (i j l : Nat) {x y z : Str} {px py pz pt pt2 : Pos} {kt k2} (hc : X.calm = true) (hN : X.N.Nodup) (ha : LV X W fx [a, b, c] fl) (hi : X.N[i]? = some x := by rfl) (hj : X.N[j]? = some y := by rfl) (hl : X.N[l]? = some z := by rfl) (hij : i ≠ j := by decide) (hil : i ≠ l := by decide) (hjl : j ≠ l := by decide)
    (hx : X.env.scope.names.lookup x = some .local := by rfl) (hy : X.env.scope.names.lookup y = some .local := by rfl) (hz : X.env.scope.names.lookup z = some .local := by rfl) (hfi : i ∉ fx := by decide) (hfj : j ∉ fx := by decide) (hfl : l ∉ fx := by decide)
    (hw : swappedStores [.Tuple [.Name x px, .Name y py, .Name z pz] kt pt] (.Tuple [a, b, c] k2 pt2) X.env = pure (some [x, y, z]) := by rfl)
    (hs : swapsWithSole [.Tuple [.Name x px, .Name y py, .Name z pz] kt pt] (.Tuple [a, b, c] k2 pt2) pos.line X.env = pure false := by rfl) :
    SV X W fx (.Assign [.Tuple [.Name x px, .Name y py, .Name z pz] kt pt] (.Tuple [a, b, c] k2 pt2) pos) (mPar3 i j l fl) := by
  refine PS.imp (ps_par3 hc hN hi hj hl hij hil hjl hx hy hz ha hw hs) fun E σ H ⟨m₀, ρ, rr, w⟩ => ?_
  refine tL.first rr w fun ds ρ1 vs H1 _ r1 h1 s1 w1 => ?_
  split at w1
  · cases h1 with
    | cons h2 h1 =>
      obtain ⟨v', w', rfl, h3, h4⟩ := rp2 h1
      obtain ⟨hi1, w2⟩ := put_ok2 w1
      obtain ⟨hj1, w3⟩ := put_ok2 w2
      obtain ⟨hl1, w4⟩ := put_ok2 w3
      refine ⟨_, v', w', rfl, w4 _ H1 ?_ (((s1.trans .set).trans .set).trans .set) (((fx_set hfi).trans (fx_set hfj)).trans (fx_set hfl))⟩
      exact ((r1.put hi1 h2).put hj1 (Stp.set.rp r1 h3)).put hl1 (Stp.set.rp (r1.put hi1 h2) (Stp.set.rp r1 h4))
  · exact w1.elim
/-! several, some of them new lists -/
inductive It where
  | d (x : D) | n (xs : List D)
inductive ItA (m : Addr → Prop) (K : PySem.W.Frag) (g : Str → Option Value) (H : Hp) : List V → List It → List Addr → Prop
  | nil : ItA m K g H [] [] []
  | d {v : V} {x : D} {vs : List V} {is : List It} {ps : List Addr} : Rp m K g H v x → ItA m K g H vs is ps → ItA m K g H (v :: vs) (.d x :: is) ps
  | n {p : Addr} {us vs : List V} {xs : List D} {is : List It} {ps : List Addr} : H p = some (.lst us) → RpA m K g H us xs → p ∉ ps → ItA m K g H vs is ps → ItA m K g H (.ref p :: vs) (.n xs :: is) (p :: ps)
def mo (m₀ : Addr → Prop) (ps : List Addr) : Addr → Prop := fun a => m₀ a ∨ a ∈ ps
theorem mo_nil {m₀ : Addr → Prop} : mo m₀ [] = m₀ := funext fun a => propext ⟨fun z => z.elim id fun y => by simp at y, .inl⟩
theorem mo_cons {m₀ : Addr → Prop} {p : Addr} {ps : List Addr} : mo m₀ (p :: ps) = mo (mp m₀ p) ps := funext fun a => propext (by unfold mo mp; rw [List.mem_cons, or_assoc])
theorem mo_cons2 {m₀ : Addr → Prop} {p : Addr} {ps : List Addr} : mo m₀ (p :: ps) = mp (mo m₀ ps) p := funext fun a => propext (by unfold mo mp; rw [List.mem_cons]; exact ⟨fun z => z.elim (fun z => .inl (.inl z)) fun z => z.elim .inr fun z => .inl (.inr z), fun z => z.elim (fun z => z.elim .inl fun z => .inr (.inr z)) fun z => .inr (.inl z)⟩)
def tJ (c : Ct) (f : M (List It)) : TA := fun σ H Q => ∃ m₀ ρ, Rel m₀ c.K c.g H σ ρ ∧ Want c m₀ σ ρ H (fun is ρ' => ∀ vs ps H', Rel (mo m₀ ps) c.K c.g H' σ ρ' → (∀ a ∈ ps, H a = none) → ItA (mm (mo m₀ ps) σ ρ') c.K c.g H' vs is ps → Stp σ ρ H σ ρ' H' → Q vs H') (f ρ)
abbrev JV (X : Cx) (W : WX) (fx : List Nat) (es : List Expr) (f : M (List It)) : Prop := PA X es (tJ (ct X W fx) f)
theorem Want.less {α : Type} {c : Ct} {m₀ : Addr → Prop} {p : Addr} {σ : L2.St} {ρ : En} {H : Hp} {S : α → En → Prop} {r : R α} (h : Want c m₀ σ ρ H S r) : Want c (mp m₀ p) σ ρ H S r := by
  cases r with
  | no => exact h
  | er y ρ' => exact fun cl d σ' H' r' s' f' e => h cl d σ' H' r'.drop s' f' (e.sub fun a z => z.elim (fun y => .inl (.inl y)) .inr)
  | ok a ρ' => exact h
theorem ItA.mono {m m' : Addr → Prop} {K : PySem.W.Frag} {g : Str → Option Value} {H H' : Hp} {vs : List V} {is : List It} {ps : List Addr} (h : ItA m K g H vs is ps) (s : Sub' m' m H) (k : Kp m H H') (kp : ∀ p ∈ ps, ∀ o, H p = some o → H' p = some o) : ItA m' K g H' vs is ps := by
  induction h with
  | nil => exact .nil
  | d h1 h2 ih => exact .d (Rp.mono s k _ _ h1) (ih kp)
  | n h1 h2 h3 h4 ih => exact .n (kp _ (by simp) _ h1) (RpA.mono s k _ _ h2) h3 (ih fun p hp => kp p (List.mem_cons_of_mem _ hp))
def iNil : M (List It) := M.ret []
def iD (fa : M D) (fl : M (List It)) : M (List It) := M.bind fa fun x => M.bind fl fun xs => M.ret (.d x :: xs)
def iN (fn : M (List D)) (fl : M (List It)) : M (List It) := M.bind fn fun x => M.bind fl fun xs => M.ret (.n x :: xs)
variable {es : List Expr} {fj : M (List It)} {fn : M (List D)}
theorem j_nil : JV X W fx [] iNil := PA.imp pa_nil fun σ H Q ⟨m₀, ρ, rr, w⟩ => w [] [] H (by rw [mo_nil]; exact rr) (fun a h => by simp at h) .nil .refl
theorem j_d (ha : EV X W fx e fa) (hl : JV X W fx es fj) (hs : starEach (e :: es) X.env = (false, eval e X.env) :: starEach es X.env := by rfl) : JV X W fx (e :: es) (iD fa fj) := by
  refine PA.imp (pa_cons ha hl hs) fun σ H Q ⟨m₀, ρ, rr, w⟩ => ?_
  refine tE.first rr w fun dx ρ1 x H1 r1 h1 s1 w1 => ?_
  refine ⟨m₀, ρ1, r1, w1.bind.mono fun is ρ2 _ q vs ps H2 r2 hp h2 s2 => ?_⟩
  refine q (x :: vs) ps H2 r2 (fun a ha => ?_) (.d ?_ h2) (s1.trans s2)
  · exact s1.back (hp a ha)
  · refine Rp.mono (fun a z => ?_) (fun a o n e => s2.keep a o (fun z => n (.inr z)) e) _ _ h1
    rcases z with (z | z) | z
    · exact .inl (.inl z)
    · exact .inr (hp a z)
    · exact (s2.own a z).imp .inr id
theorem j_n (ha : NV X W fx e fn) (hl : JV X W fx es fj) (hs : starEach (e :: es) X.env = (false, eval e X.env) :: starEach es X.env := by rfl) : JV X W fx (e :: es) (iN fn fj) := by
  refine PA.imp (pa_cons ha hl hs) fun σ H Q ⟨m₀, ρ, rr, w⟩ => ?_
  refine tN.first rr w fun ds ρ1 p us H1 r1 n1 e1 h1 s1 w1 => ?_
  refine ⟨mp m₀ p, ρ1, r1, w1.less.bind.mono fun is ρ2 _ q vs ps H2 r2 hp h2 s2 => ?_⟩
  have np : p ∉ ps := fun z => by have := hp p z; rw [e1] at this; cases this
  have nO : ¬ Own σ ρ1 p := fun ⟨j, es, a1, a2⟩ => by
    obtain ⟨q, ws, b1, b2, _, _⟩ := r1.own j es a1
    rw [a2] at b1; cases b1
    exact b2 (.inr rfl)
  refine q (.ref p :: vs) (p :: ps) H2 (by rw [mo_cons]; exact r2) (fun a ha => ?_) (.n (s2.keep p _ nO e1) ?_ np (by rw [mo_cons]; exact h2)) (s1.trans s2)
  · rcases List.mem_cons.mp ha with z | z
    · rw [z]; exact n1
    · exact s1.back (hp a z)
  · rw [mo_cons]
    refine RpA.mono (fun a z => ?_) (fun a o n e => s2.keep a o (fun z => n (.inr z)) e) _ _ h1
    rcases z with (z | z) | z
    · exact .inl (.inl z)
    · exact .inr (hp a z)
    · exact (s2.own a z).imp .inr id
def It.sl : It → Sl
  | .d x => .val x
  | .n xs => .own xs
/-- one store of several -/
theorem it_put {m₀ : Addr → Prop} {K : PySem.W.Frag} {g : Str → Option Value} {H0 H : Hp} {σ0 σ : L2.St} {ρ0 ρ : En} {v : V} {vs : List V} {it : It} {is : List It} {ps : List Addr} {i : Nat} (r : Rel (mo m₀ ps) K g H σ ρ) (hm : ∀ a ∈ ps, H0 a = none) (hm0 : ∀ a ∈ ps, ¬ m₀ a) (h : ItA (mm (mo m₀ ps) σ ρ) K g H (v :: vs) (it :: is) ps) (s : Stp σ0 ρ0 H0 σ ρ H) (hi : i < ρ.length) :
    ∃ qs, (∀ a ∈ qs, H0 a = none) ∧ (∀ a ∈ qs, ¬ m₀ a) ∧ Rel (mo m₀ qs) K g H (σ.set i (some v)) (ρ.set i it.sl) ∧ ItA (mm (mo m₀ qs) (σ.set i (some v)) (ρ.set i it.sl)) K g H vs is qs ∧ Stp σ0 ρ0 H0 (σ.set i (some v)) (ρ.set i it.sl) H := by
  cases h with
  | d h1 h2 =>
    rename_i x
    have st : Stp σ ρ H (σ.set i (some v)) (ρ.set i (.val x)) H := .set
    refine ⟨ps, hm, hm0, r.put hi h1, h2.mono (fun a z => ?_) Kp.refl (fun _ _ _ e => e), s.trans st⟩
    rcases z with z | z
    · exact .inl (.inl z)
    · exact (st.own a z).imp .inr id
  | n h1 h2 h3 h4 =>
    rename_i p us xs qs
    rw [mo_cons2] at r h2 h4
    have np : ¬ mo m₀ qs p := fun z => z.elim (hm0 p (by simp)) h3
    refine ⟨qs, fun a ha => hm a (List.mem_cons_of_mem _ ha), fun a ha => hm0 a (List.mem_cons_of_mem _ ha), r.putOwn np hi h1 h2, h4.mono (fun a z => ?_) Kp.refl (fun _ _ _ e => e), s.putOwn (hm p (by simp))⟩
    rcases z with z | ⟨j, es, e1, e2⟩
    · exact .inl (.inl (.inl z))
    · by_cases hj : j = i
      · subst hj
        rw [List.getElem?_set_self (by rw [r.len]; exact hi)] at e2
        cases e2
        exact .inl (.inl (.inr rfl))
      · rw [List.getElem?_set_ne (Ne.symm hj)] at e1 e2
        exact .inl (.inr ⟨j, es, e1, e2⟩)
def mJ2 (i j : Nat) (fl : M (List It)) : M Fl := M.bind fl fun ds => match ds with
  | [x, y] => M.bind (put i x.sl) fun _ => M.bind (put j y.sl) fun _ => M.ret .nx
  | _ => fun _ => .no
def mJ3 (i j l : Nat) (fl : M (List It)) : M Fl := M.bind fl fun ds => match ds with
  | [x, y, z] => M.bind (put i x.sl) fun _ => M.bind (put j y.sl) fun _ => M.bind (put l z.sl) fun _ => M.ret .nx
  | _ => fun _ => .no
theorem it_len {m : Addr → Prop} {K : PySem.W.Frag} {g : Str → Option Value} {H : Hp} {vs : List V} {is : List It} {ps : List Addr} (h : ItA m K g H vs is ps) : vs.length = is.length := by
  induction h with
  | nil => rfl
  | d _ _ ih => rw [List.length_cons, List.length_cons, ih]
  | n _ _ _ _ ih => rw [List.length_cons, List.length_cons, ih]
theorem s_j2 (i j : Nat) {x y : Str} {px py pt pt2 : Pos} {kt k2} (hc : X.calm = true) (hN : X.N.Nodup) (ha : JV X W fx [a, b] fj) (hi : X.N[i]? = some x := by rfl) (hj : X.N[j]? = some y := by rfl) (hij : i ≠ j := by decide)
    (hx : X.env.scope.names.lookup x = some .local := by rfl) (hy : X.env.scope.names.lookup y = some .local := by rfl) (hfi : i ∉ fx := by decide) (hfj : j ∉ fx := by decide)
    (hw : swappedStores [.Tuple [.Name x px, .Name y py] kt pt] (.Tuple [a, b] k2 pt2) X.env = pure (some [x, y]) := by rfl)
    (hs : swapsWithSole [.Tuple [.Name x px, .Name y py] kt pt] (.Tuple [a, b] k2 pt2) pos.line X.env = pure false := by rfl) :
    SV X W fx (.Assign [.Tuple [.Name x px, .Name y py] kt pt] (.Tuple [a, b] k2 pt2) pos) (mJ2 i j fj) := by
  refine PS.imp (ps_par hc hN hi hj hij hx hy ha hw hs) fun E σ H ⟨m₀, ρ, rr, w⟩ => ?_
  refine ⟨m₀, ρ, rr, w.bind.mono fun is ρ1 _ q vs ps H1 r1 hp h1 s1 => ?_⟩
  have hm0 : ∀ a ∈ ps, ¬ m₀ a := fun a ha z => rr.dom a z (hp a ha)
  split at q
  · rename_i ix iy
    obtain ⟨v, w', rfl⟩ : ∃ v w', vs = [v, w'] := by
      match vs, it_len h1 with
      | [v, w'], _ => exact ⟨v, w', rfl⟩
    obtain ⟨hi1, q2⟩ := put_ok2 q
    obtain ⟨hj1, q3⟩ := put_ok2 q2
    obtain ⟨qs, a1, a2, a3, a4, a5⟩ := it_put r1 hp hm0 h1 s1 hi1
    obtain ⟨rs, b1, b2, b3, b4, b5⟩ := it_put a3 a1 a2 a4 a5 hj1
    cases b4
    rw [mo_nil] at b3
    exact ⟨v, w', rfl, q3 _ H1 b3 b5 ((fx_set hfi).trans (fx_set hfj))⟩
  · exact q.elim
theorem s_j3 (i j l : Nat) {x y z : Str} {px py pz pt pt2 : Pos} {kt k2} (hc : X.calm = true) (hN : X.N.Nodup) (ha : JV X W fx [a, b, c] fj) (hi : X.N[i]? = some x := by rfl) (hj : X.N[j]? = some y := by rfl) (hl : X.N[l]? = some z := by rfl) (hij : i ≠ j := by decide) (hil : i ≠ l := by decide) (hjl : j ≠ l := by decide)
    (hx : X.env.scope.names.lookup x = some .local := by rfl) (hy : X.env.scope.names.lookup y = some .local := by rfl) (hz : X.env.scope.names.lookup z = some .local := by rfl) (hfi : i ∉ fx := by decide) (hfj : j ∉ fx := by decide) (hfl : l ∉ fx := by decide)
    (hw : swappedStores [.Tuple [.Name x px, .Name y py, .Name z pz] kt pt] (.Tuple [a, b, c] k2 pt2) X.env = pure (some [x, y, z]) := by rfl)
    (hs : swapsWithSole [.Tuple [.Name x px, .Name y py, .Name z pz] kt pt] (.Tuple [a, b, c] k2 pt2) pos.line X.env = pure false := by rfl) :
    SV X W fx (.Assign [.Tuple [.Name x px, .Name y py, .Name z pz] kt pt] (.Tuple [a, b, c] k2 pt2) pos) (mJ3 i j l fj) := by
  refine PS.imp (ps_par3 hc hN hi hj hl hij hil hjl hx hy hz ha hw hs) fun E σ H ⟨m₀, ρ, rr, w⟩ => ?_
  refine ⟨m₀, ρ, rr, w.bind.mono fun is ρ1 _ q vs ps H1 r1 hp h1 s1 => ?_⟩
  have hm0 : ∀ a ∈ ps, ¬ m₀ a := fun a ha z => rr.dom a z (hp a ha)
  split at q
  · rename_i ix iy iz
    obtain ⟨v, w', z', rfl⟩ : ∃ v w' z', vs = [v, w', z'] := by
      match vs, it_len h1 with
      | [v, w', z'], _ => exact ⟨v, w', z', rfl⟩
    obtain ⟨hi1, q2⟩ := put_ok2 q
    obtain ⟨hj1, q3⟩ := put_ok2 q2
    obtain ⟨hl1, q4⟩ := put_ok2 q3
    obtain ⟨qs, a1, a2, a3, a4, a5⟩ := it_put r1 hp hm0 h1 s1 hi1
    obtain ⟨rs, b1, b2, b3, b4, b5⟩ := it_put a3 a1 a2 a4 a5 hj1
    obtain ⟨ts, c1, c2, c3, c4, c5⟩ := it_put b3 b1 b2 b4 b5 hl1
    cases c4
    rw [mo_nil] at c3
    exact ⟨v, w', z', rfl, q4 _ H1 c3 c5 (((fx_set hfi).trans (fx_set hfj)).trans (fx_set hfl))⟩
  · exact q.elim
/-! list(x) as a new list -/
def mListN (fa : M D) : M (List D) := M.bind fa fun d => lift d.items?
theorem n_list {p : Pos} (hg : Gl X "list") (hm : X.mg "list" = none) (ha : EV X W fx a fa) (he : starEach [a] X.env = [(false, eval a X.env)] := by rfl) (hpl : (backTo pos (starEach [] X.env)).any (·.1) = false := by rfl) : NV X W fx (.Call (.Name "list" p) [a] [] pos) (mListN fa) := by
  refine PE.imp (pe_callTy call_list_of hg hm boot_list (pa_cons ha pa_nil he) (by decide) (by decide) he hpl) fun σ H Q ⟨m₀, ρ, rr, w⟩ => ?_
  refine tE.first rr w fun d ρ1 v H1 r1 h1 s1 w1 => ?_
  obtain ⟨ds, e2, w2⟩ := w1.lift
  obtain ⟨b, xs, rfl, hs, hA⟩ := items_ok h1 e2
  refine ⟨_, _, rfl, hs, fun l hl => ?_⟩
  exact w2 l xs _ (r1.add hl) (s1.back hl) upd_same (rpA_add hA hl) (s1.trans (.grown (keep_new hl)))
/-! numbers: bits, roots -/
def dBits : D → Option D
  | .int i => some (.int (Builtin.Int.intBits i : Nat))
  | _ => none
theorem e_bits {apos : Pos} (ha : EV X W fx a fa) (hbase : attributeBase a "bit_length" X.env (eval a X.env) = eval a X.env := by rfl) (hline : (apos.endLine == pos.line) = true := by rfl) : EV X W fx (.Call (.Attribute a "bit_length" apos) [] [] pos) (mUn dBits fa) := by
  refine PE.imp (pe_bits ha hbase hline) fun σ H Q ⟨m₀, ρ, rr, w⟩ => ?_
  refine tE.first rr w fun d ρ1 v H1 r1 h1 s1 w1 => ?_
  obtain ⟨dz, e, w2⟩ := w1.lift
  cases d <;> simp only [dBits] at e <;> cases e
  cases h1
  exact ⟨_, rfl, w2 _ H1 r1 (.int _) s1⟩
def dIsqrt : List D → Option D
  | [.int i] => if 0 ≤ i ∧ i.toNat.log2 < 9000 then some (.int (Float64.isqrt i.toNat : Nat)) else none
  | _ => none
def rIsqrt : List V → Hp → VK → Prop := fun vs H Q => ∃ a : Int, vs = [.int a] ∧ 0 ≤ a ∧ a.toNat.log2 < 9000 ∧ Q (.int ((Float64.isqrt a.toNat : Nat) : Int)) H
theorem cr_isqrt : CallR X (.builtin "math.isqrt") rIsqrt := by
  intro pins s σ H vs us Q I r h
  obtain ⟨i, rfl, h0, h1, q⟩ := h
  obtain ⟨u, rfl, rx⟩ := vals1 r
  obtain ⟨t, rfl⟩ := rx
  exact call_function_meets PySem.W.MGF.kind_isqrt PySem.W.MGF.plain_isqrt PySem.W.MGF.entry_isqrt (PySem.W.MGF.args_isqrt _) (PySem.W.mg_run_isqrt i t (by omega) (by omega) (by omega)).meets ⟨.int _, H, I.tok _, ⟨_, rfl⟩, q⟩
theorem isqrt_d : CallD X rIsqrt dIsqrt := by
  intro m H vs ds dz h e hm Q q
  unfold dIsqrt at e
  split at e
  · split at e
    · cases e
      rename_i hl
      obtain ⟨v, rfl, h1⟩ := rp1 h
      cases h1
      exact ⟨_, rfl, hl.1, hl.2, q _ H grown_refl (.int _)⟩
    · cases e
  · cases e
/-! constants of the top -/
def ConOk (K : PySem.W.Frag) (mg : Str → Option Value) (x : Str) (d : D) : Prop := ∃ v u, mg x = some u ∧ RelV v u ∧ ∀ m g H, Rp m K g H v d
theorem e_con {x : Str} {d : D} (h : ConOk X.K X.mg x d) (hg : Gl X x := by rfl) (hd : (x == ("__debug__" : Str)) = false := by decide) : EV X W fx (.Name x pos) (M.ret d) := by
  obtain ⟨v, u, h1, h2, h3⟩ := h
  exact e_glob hg h1 h2 (fun m H => h3 m X.mg H) hd
end
/-! ### what is known of the top -/
structure TopOk (fs : List Fp) (fn : List He.DefD) (K : PySem.W.Frag) (mg : Str → Option Value) : Prop where
  ex : ∃ h : Heap, K.In h ∧ h.Ns mainGlobals mg ∧ SaysP fs fn K
section
variable {fs : List Fp} {fn : List He.DefD} {K : PySem.W.Frag} {mg : Str → Option Value}
theorem TopOk.con (T : TopOk fs fn K mg) (i : Nat) {x : Str} {d : D} (h : fs[i]? = some (.con x d) := by rfl) : ConOk K mg x d := by
  obtain ⟨hp, a, b, c⟩ := T.ex
  exact con_ok a b (c.fact i h)
theorem TopOk.bi (T : TopOk fs fn K mg) (i : Nat) {x : Str} {n : String} (h : fs[i]? = some (.bi x n) := by rfl) : mg x = some (.builtin n) := by
  obtain ⟨hp, a, b, c⟩ := T.ex
  exact bi_ok a b (c.fact i h)
theorem TopOk.free (T : TopOk fs fn K mg) (i : Nat) {x : Str} (h : fs[i]? = some (.free x) := by rfl) : mg x = none := by
  obtain ⟨hp, a, b, c⟩ := T.ex
  exact He.free_ok a b (c.fact i h)
theorem TopOk.glo (T : TopOk fs fn K mg) (i : Nat) {x : Str} (h : fs[i]? = some (.fn x) := by rfl) : mg x = some (.ref (He.fAd K (x, none))) := by
  obtain ⟨hp, a, b, c⟩ := T.ex
  exact He.glo_ok a b (c.fact i h)
theorem TopOk.fa (T : TopOk fs fn K mg) (i : Nat) {f : He.Fa} (h : fs[i]? = some (.fa f) := by rfl) : f.ok K = true := by
  obtain ⟨hp, a, b, c⟩ := T.ex
  exact c.fact i h
theorem TopOk.isE (T : TopOk fs fn K mg) (i : Nat) {x y : Str} {b : Bool} (h : fs[i]? = some (.isE x y b) := by rfl) : excB K (He.fAd K (x, none)) = true ∧ PySem.W.kitOne K (.ref (He.fAd K (x, none))) (.ref (He.fAd K (y, none))) = some b := by
  obtain ⟨hp, a, b, c⟩ := T.ex
  obtain ⟨h1, h2⟩ := He.ba (c.fact i h)
  exact ⟨h1, of_decide_eq_true h2⟩
theorem TopOk.isT (T : TopOk fs fn K mg) (i : Nat) {x : Str} {t : String} {b : Bool} (h : fs[i]? = some (.isT x t b) := by rfl) : excB K (He.fAd K (x, none)) = true ∧ PySem.W.kitOne K (.ref (He.fAd K (x, none))) (.type t) = some b := by
  obtain ⟨hp, a, b, c⟩ := T.ex
  obtain ⟨h1, h2⟩ := He.ba (c.fact i h)
  exact ⟨h1, of_decide_eq_true h2⟩
theorem TopOk.fd (T : TopOk fs fn K mg) (i : Nat) {d : He.DefD} (h : fn[i]? = some d := by rfl) : ∃ fd, FunD K d.name d.qual d.params d.body d.scope (d.dvs K) (d.kws K) (He.fAd K d.at_) fd := by
  obtain ⟨hp, a, b, c⟩ := T.ex
  exact c.def_ i h
end
end PV

namespace PV
open PySem PySem.Spec PyProof.Rows L2

/-! ### what a mirror does, by wishes -/
def wp {α : Type} (x : M α) (ρ : En) (Q : α → En → Prop) : Prop := ∃ a ρ', x ρ = .ok a ρ' ∧ Q a ρ'
def ow {α : Type} (o : Option α) (Q : α → Prop) : Prop := ∃ a, o = some a ∧ Q a
section
variable {α β : Type} {ρ ρ' : En} {Q Q' : α → En → Prop} {x : M α}
theorem wp_of {a : α} (h : x ρ = .ok a ρ') : wp x ρ Q ↔ Q a ρ' := ⟨fun ⟨b, r, e, q⟩ => by rw [h] at e; cases e; exact q, fun q => ⟨a, ρ', h, q⟩⟩
theorem wp_eq {v : α} (h : wp x ρ fun d r => d = v ∧ r = ρ') : wp x ρ Q ↔ Q v ρ' := by
  obtain ⟨a, r, e, rfl, rfl⟩ := h
  exact wp_of e
theorem wp_mono (h : wp x ρ Q) (i : ∀ a r, Q a r → Q' a r) : wp x ρ Q' := by
  obtain ⟨a, r, e, q⟩ := h
  exact ⟨a, r, e, i a r q⟩
theorem ow_some {a : α} {P : α → Prop} : ow (some a) P ↔ P a := ⟨fun ⟨b, e, q⟩ => by cases e; exact q, fun q => ⟨a, rfl, q⟩⟩
theorem ow_of {o : Option α} {a : α} {P : α → Prop} (h : o = some a) : ow o P ↔ P a := by rw [h]; exact ow_some
theorem wp_ret {a : α} : wp (M.ret a) ρ Q ↔ Q a ρ := wp_of rfl
theorem wp_bind {x : M β} {f : β → M α} : wp (M.bind x f) ρ Q ↔ wp x ρ fun a r => wp (f a) r Q := by
  constructor
  · rintro ⟨a, r, e, q⟩
    obtain ⟨b, r1, e1, e2⟩ := bind_inv e
    exact ⟨b, r1, e1, a, r, e2, q⟩
  · rintro ⟨b, r1, e1, a, r, e2, q⟩
    exact ⟨a, r, by rw [bind_ok e1]; exact e2, q⟩
theorem wp_lift {o : Option α} : wp (lift o) ρ Q ↔ ow o fun a => Q a ρ := by
  cases o with
  | none => exact ⟨fun ⟨_, _, e, _⟩ => (nomatch e), fun ⟨_, e, _⟩ => nomatch e⟩
  | some a => exact (wp_of (ρ' := ρ) (a := a) rfl).trans (ow_some (P := fun a => Q a ρ)).symm
end
def slw (s : Option Sl) (ρ : En) (i : Nat) (Q : D → En → Prop) : Prop := match s with
  | some (.val d) => Q d ρ
  | some (.own ds) => Q (.lst ds) (ρ.set i (.val (.lst ds)))
  | _ => False
section
variable {ρ ρ1 : En} {Q : D → En → Prop} {QU : Unit → En → Prop} {QF : Fl → En → Prop} {QB : Bool → En → Prop} {QL : List D → En → Prop} {QO : Option Int → En → Prop} {i j l n : Nat} {fa fb fc f : M D} {fl : M (List D)} {t : M Bool} {fi : M (List D)}
theorem wp_var : wp (dVar i) ρ Q ↔ slw ρ[i]? ρ i Q := by
  cases h : ρ[i]? with
  | none => exact ⟨fun ⟨_, _, e, _⟩ => (by unfold dVar at e; rw [h] at e; cases e), False.elim⟩
  | some s =>
    cases s with
    | no => exact ⟨fun ⟨_, _, e, _⟩ => (by unfold dVar at e; rw [h] at e; cases e), False.elim⟩
    | val d => exact wp_of (by unfold dVar; rw [h])
    | own ds => exact wp_of (by unfold dVar; rw [h])
theorem slw_val {d : D} : slw (some (.val d)) ρ i Q ↔ Q d ρ := Iff.rfl
theorem slw_own {ds : List D} : slw (some (.own ds)) ρ i Q ↔ Q (.lst ds) (ρ.set i (.val (.lst ds))) := Iff.rfl
theorem wp_put {s : Sl} : wp (put i s) ρ QU ↔ i < ρ.length ∧ QU () (ρ.set i s) := by
  dsimp only [put, wp]
  split
  · rename_i h
    constructor
    · rintro ⟨a, r, e, q⟩; cases e; exact ⟨h, q⟩
    · rintro ⟨_, q⟩; exact ⟨_, _, rfl, q⟩
  · rename_i h
    exact ⟨fun ⟨_, _, e, _⟩ => (nomatch e), fun ⟨z, _⟩ => absurd z h⟩
theorem wp_op {g : D → D → Option D} : wp (mOp g fa fb) ρ Q ↔ wp fa ρ fun x r => wp fb r fun y r2 => ow (g x y) fun z => Q z r2 := by
  unfold mOp; simp only [wp_bind, wp_lift]
theorem wp_un {g : D → Option D} : wp (mUn g fa) ρ Q ↔ wp fa ρ fun x r => ow (g x) fun z => Q z r := by
  unfold mUn; simp only [wp_bind, wp_lift]
theorem wp_cb {g : List D → Option D} : wp (mCB g fl) ρ Q ↔ wp fl ρ fun x r => ow (g x) fun z => Q z r := by
  unfold mCB; simp only [wp_bind, wp_lift]
theorem wp_test : wp (mTest fa) ρ QB ↔ wp fa ρ fun x r => ow (asB x) fun z => QB z r := by
  unfold mTest; simp only [wp_bind, wp_lift]
theorem ow_asB {b : Bool} {P : Bool → Prop} : ow (asB (.bl b)) P ↔ P b := ow_some
theorem wp_iteM {α : Type} {c : Prop} [Decidable c] {x y : M α} {Q : α → En → Prop} : wp (if c then x else y) ρ Q ↔ if c then wp x ρ Q else wp y ρ Q := by split <;> rfl
theorem wp_if : wp (mIf t fa fb) ρ Q ↔ wp t ρ fun c r => if c = true then wp fa r Q else wp fb r Q := by
  unfold mIf; simp only [wp_bind, wp_iteM]
theorem wp_and : wp (mAnd fa fb) ρ Q ↔ wp fa ρ fun x r => ow (asB x) fun c => if c = true then wp fb r Q else Q (.bl false) r := by
  unfold mAnd; simp only [wp_bind, wp_iteM, wp_lift, wp_ret]
theorem wp_or : wp (mOr fa fb) ρ Q ↔ wp fa ρ fun x r => ow (asB x) fun c => if c = true then Q (.bl true) r else wp fb r Q := by
  unfold mOr; simp only [wp_bind, wp_iteM, wp_lift, wp_ret]
theorem wp_not : wp (mNot fa) ρ Q ↔ wp fa ρ fun x r => ow (asB x) fun c => Q (.bl (!c)) r := by
  unfold mNot; simp only [wp_bind, wp_lift, wp_ret]
variable {ta tb : M Bool}
theorem wp_andT : wp (mAndT ta tb) ρ QB ↔ wp ta ρ fun c r => if c = true then wp tb r QB else QB false r := by
  unfold mAndT; simp only [wp_bind, wp_iteM, wp_ret]
theorem wp_orT : wp (mOrT ta tb) ρ QB ↔ wp ta ρ fun c r => if c = true then QB true r else wp tb r QB := by
  unfold mOrT; simp only [wp_bind, wp_iteM, wp_ret]
theorem wp_notT : wp (mNotT ta) ρ QB ↔ wp ta ρ fun c r => QB (!c) r := by
  unfold mNotT; simp only [wp_bind, wp_ret]
theorem wp_chain {g g' : D → D → Option D} : wp (mChain g g' fa fb fc) ρ Q ↔ wp fa ρ fun x r => wp fb r fun y r2 => ow (g x y) fun z => ow (asB z) fun k => if k = true then wp fc r2 fun w r3 => ow (g' y w) fun v => Q v r3 else Q (.bl false) r2 := by
  unfold mChain; simp only [wp_bind, wp_iteM, wp_lift, wp_ret]
theorem wp_nil : wp dNil ρ QL ↔ QL [] ρ := wp_ret
theorem wp_cons : wp (dCons fa fl) ρ QL ↔ wp fa ρ fun x r => wp fl r fun xs r2 => QL (x :: xs) r2 := by
  unfold dCons; simp only [wp_bind, wp_ret]
theorem wp_tup : wp (mTup fl) ρ Q ↔ wp fl ρ fun xs r => Q (.tup xs) r := by
  unfold mTup; simp only [wp_bind, wp_ret]
theorem wp_lst : wp (mLst fl) ρ Q ↔ wp fl ρ fun xs r => Q (.lst xs) r := by
  unfold mLst; simp only [wp_bind, wp_ret]
theorem wp_oNone : wp oNone ρ QO ↔ QO none ρ := wp_ret
theorem wp_oSome : wp (oSome fa) ρ QO ↔ wp fa ρ fun d r => ∃ k, d = .int k ∧ QO (some k) r := by
  unfold oSome
  simp only [wp_bind, wp_lift]
  constructor
  · intro h
    refine wp_mono h fun d r ⟨a, e, q⟩ => ?_
    split at e
    · cases e; exact ⟨_, rfl, q⟩
    · cases e
  · intro h
    refine wp_mono h fun d r ⟨k, e, q⟩ => ?_
    subst e
    exact ⟨_, rfl, q⟩
theorem wp_sl {lo hi : M (Option Int)} : wp (mSl fa lo hi) ρ Q ↔ wp fa ρ fun d r => wp lo r fun a r2 => wp hi r2 fun b r3 => ow (dSl a b d) fun z => Q z r3 := by
  unfold mSl; simp only [wp_bind, wp_lift]
/-! statements -/
def flw (fl : Fl) (ρ : En) (K : En → Prop) (Q : Fl → En → Prop) : Prop := match fl with
  | .nx => K ρ
  | .bk => Q .bk ρ
  | .ct => Q .ct ρ
  | .rt d => Q (.rt d) ρ
  | .ro ds => Q (.ro ds) ρ
variable {F G : M Fl}
theorem wp_seq : wp (mSeq F G) ρ QF ↔ wp F ρ fun fl r => flw fl r (fun r2 => wp G r2 QF) QF := by
  unfold mSeq
  simp only [wp_bind]
  constructor
  · intro h
    refine wp_mono h fun fl r q => ?_
    cases fl <;> first | exact q | exact wp_ret.mp q
  · intro h
    refine wp_mono h fun fl r q => ?_
    cases fl <;> first | exact q | exact wp_ret.mpr q
theorem flw_nx {K : En → Prop} : flw .nx ρ K QF ↔ K ρ := Iff.rfl
theorem flw_bk {K : En → Prop} : flw .bk ρ K QF ↔ QF .bk ρ := Iff.rfl
theorem flw_ct {K : En → Prop} : flw .ct ρ K QF ↔ QF .ct ρ := Iff.rfl
theorem flw_rt {K : En → Prop} {d : D} : flw (.rt d) ρ K QF ↔ QF (.rt d) ρ := Iff.rfl
theorem flw_ro {K : En → Prop} {d : List D} : flw (.ro d) ρ K QF ↔ QF (.ro d) ρ := Iff.rfl
theorem wp_set : wp (mSet i fa) ρ QF ↔ wp fa ρ fun d r => i < r.length ∧ QF .nx (r.set i (.val d)) := by
  unfold mSet; simp only [wp_bind, wp_put, wp_ret]
theorem wp_own : wp (mOwn i fl) ρ QF ↔ wp fl ρ fun d r => i < r.length ∧ QF .nx (r.set i (.own d)) := by
  unfold mOwn; simp only [wp_bind, wp_put, wp_ret]
theorem wp_rett : wp (mRet fa) ρ QF ↔ wp fa ρ fun d r => QF (.rt d) r := by
  unfold mRet; simp only [wp_bind, wp_ret]
theorem wp_retO : wp (mRetO fl) ρ QF ↔ wp fl ρ fun d r => QF (.ro d) r := by
  unfold mRetO; simp only [wp_bind, wp_ret]
theorem wp_expr : wp (mExpr fa) ρ QF ↔ wp fa ρ fun d r => QF .nx r := by
  unfold mExpr; simp only [wp_bind, wp_ret]
theorem wp_ifS : wp (mIfS t F G) ρ QF ↔ wp t ρ fun c r => if c = true then wp F r QF else wp G r QF := by
  unfold mIfS; simp only [wp_bind, wp_iteM]
theorem wp_asg {g : D → M Unit} : wp (mAsg fa g) ρ QF ↔ wp fa ρ fun d r => wp (g d) r fun _ r2 => QF .nx r2 := by
  unfold mAsg; simp only [wp_bind, wp_ret]
def l2w (ds : List D) (P : D → D → Prop) : Prop := match ds with
  | [x, y] => P x y
  | _ => False
def l3w (ds : List D) (P : D → D → D → Prop) : Prop := match ds with
  | [x, y, z] => P x y z
  | _ => False
theorem l2w_mk {x y : D} {P : D → D → Prop} : l2w [x, y] P ↔ P x y := Iff.rfl
theorem l3w_mk {x y z : D} {P : D → D → D → Prop} : l3w [x, y, z] P ↔ P x y z := Iff.rfl
theorem wp_no {α : Type} {Q : α → En → Prop} : wp (fun _ => .no) ρ Q ↔ False := ⟨fun ⟨_, _, e, _⟩ => (nomatch e), False.elim⟩
theorem wp_par : wp (mPar i j fl) ρ QF ↔ wp fl ρ fun ds r => l2w ds fun x y => i < r.length ∧ j < (r.set i (.val x)).length ∧ QF .nx ((r.set i (.val x)).set j (.val y)) := by
  unfold mPar
  simp only [wp_bind]
  constructor
  · intro h
    refine wp_mono h fun ds r q => ?_
    split at q
    · simp only [wp_bind, wp_put, wp_ret] at q; exact q
    · exact (wp_no.mp q).elim
  · intro h
    refine wp_mono h fun ds r q => ?_
    unfold l2w at q
    split at q
    · simp only [wp_bind, wp_put, wp_ret]; exact q
    · exact q.elim
theorem wp_par3 : wp (mPar3 i j l fl) ρ QF ↔ wp fl ρ fun ds r => l3w ds fun x y z => i < r.length ∧ j < (r.set i (.val x)).length ∧ l < ((r.set i (.val x)).set j (.val y)).length ∧ QF .nx (((r.set i (.val x)).set j (.val y)).set l (.val z)) := by
  unfold mPar3
  simp only [wp_bind]
  constructor
  · intro h
    refine wp_mono h fun ds r q => ?_
    split at q
    · simp only [wp_bind, wp_put, wp_ret] at q; exact q
    · exact (wp_no.mp q).elim
  · intro h
    refine wp_mono h fun ds r q => ?_
    unfold l3w at q
    split at q
    · simp only [wp_bind, wp_put, wp_ret]; exact q
    · exact q.elim
/-! targets -/
theorem wp_gN {d : D} : wp (gN i d) ρ QU ↔ i < ρ.length ∧ QU () (ρ.set i (.val d)) := wp_put
theorem wp_gsNil : wp (gsNil []) ρ QU ↔ QU () ρ := wp_ret
theorem wp_gsCons {g : D → M Unit} {h : List D → M Unit} {d : D} {ds : List D} : wp (gsCons g h (d :: ds)) ρ QU ↔ wp (g d) ρ fun _ r => wp (h ds) r QU := by
  unfold gsCons; simp only [wp_bind]
theorem wp_gT {h : List D → M Unit} {ds : List D} : wp (gT h (.tup ds)) ρ QU ↔ wp (h ds) ρ QU := Iff.rfl
theorem wp_gTl {h : List D → M Unit} {ds : List D} : wp (gT h (.lst ds)) ρ QU ↔ wp (h ds) ρ QU := Iff.rfl
/-! owned lists -/
def ownw (s : Option Sl) (P : List D → Prop) : Prop := match s with
  | some (.own ds) => P ds
  | _ => False
theorem ownw_mk {ds : List D} {P : List D → Prop} : ownw (some (.own ds)) P ↔ P ds := Iff.rfl
theorem ownw_iff {s : Option Sl} {P : List D → Prop} : ownw s P ↔ ∃ ds, s = some (.own ds) ∧ P ds := by
  unfold ownw
  constructor
  · intro h; split at h
    · exact ⟨_, rfl, h⟩
    · exact h.elim
  · rintro ⟨ds, rfl, h⟩; exact h
theorem isOwn_iff : isOwn ρ j = true ↔ ownw ρ[j]? fun _ => True := by
  rw [ownw_iff]
  exact ⟨fun h => (isOwn_ok h).imp fun _ e => ⟨e, trivial⟩, fun ⟨ds, e, _⟩ => by unfold isOwn; rw [e]⟩
theorem wp_owned {α : Type} {x : M α} {Q : α → En → Prop} : wp (mOwned j x) ρ Q ↔ (ownw ρ[j]? fun _ => True) ∧ wp x ρ Q := by
  rw [← isOwn_iff]
  dsimp only [mOwned, wp]
  constructor
  · rintro ⟨a, r, e, q⟩
    by_cases h : isOwn ρ j = true
    · rw [if_pos h] at e; exact ⟨h, a, r, e, q⟩
    · rw [if_neg h] at e; cases e
  · rintro ⟨h, a, r, e, q⟩
    exact ⟨a, r, by rw [if_pos h]; exact e, q⟩
theorem wp_at {α : Type} {g : List D → Option (α × List D)} {Q : α → En → Prop} : wp (mAt j g) ρ Q ↔ ownw ρ[j]? fun ds => ow (g ds) fun z => Q z.1 (ρ.set j (.own z.2)) := by
  rw [ownw_iff]
  dsimp only [mAt, wp]
  constructor
  · rintro ⟨a, r, e, q⟩
    split at e
    · rename_i ds eo
      split at e
      · rename_i a' es e2
        cases e
        exact ⟨ds, eo, (a, es), e2, q⟩
      · cases e
    · cases e
  · rintro ⟨ds, eo, ⟨a, es⟩, e2, q⟩
    exact ⟨a, ρ.set j (.own es), by simp only [eo, e2], q⟩
theorem wp_ixO : wp (mIxO j fi_) ρ Q ↔ (ownw ρ[j]? fun _ => True) ∧ wp fi_ ρ fun k r => ownw r[j]? fun ds => ow (dIx (.lst ds) k) fun d => Q d r := by
  unfold mIxO
  simp only [wp_owned, wp_bind, wp_at, ownw_iff]
  refine and_congr_right fun _ => ?_
  constructor
  · intro h
    refine wp_mono h fun k r ⟨ds, e, ⟨d, es⟩, e2, q⟩ => ?_
    obtain ⟨d', e3, e4⟩ := Option.map_eq_some_iff.mp e2
    cases e4
    rw [set_selfE e] at q
    exact ⟨_, e, d, e3, q⟩
  · intro h
    refine wp_mono h fun k r ⟨ds, e, d, e2, q⟩ => ?_
    refine ⟨ds, e, (d, ds), by rw [e2]; rfl, ?_⟩
    simp only [set_selfE e]
    exact q
theorem wp_lenO : wp (mLenO j) ρ Q ↔ ownw ρ[j]? fun ds => Q (.int ds.length) ρ := by
  unfold mLenO
  simp only [wp_at, ownw_iff]
  constructor
  · rintro ⟨ds, e, z, e2, q⟩
    cases e2
    rw [set_selfE e] at q
    exact ⟨ds, e, q⟩
  · rintro ⟨ds, e, q⟩
    refine ⟨ds, e, _, rfl, ?_⟩
    simp only [set_selfE e]; exact q
theorem wp_gSub {d : D} : wp (gSub1 j fa d) ρ QU ↔ (ownw ρ[j]? fun _ => True) ∧ wp fa ρ fun k r => ownw r[j]? fun ds => ow (setAt k d ds) fun z => QU () (r.set j (.own z.2)) := by
  unfold gSub1
  simp only [wp_owned, wp_bind, wp_at, wp_ret]
theorem wp_app : wp (mApp j fa) ρ Q ↔ (ownw ρ[j]? fun _ => True) ∧ wp fa ρ fun d r => ownw r[j]? fun ds => ds.length < 100000 ∧ Q .non (r.set j (.own (ds ++ [d]))) := by
  unfold mApp
  simp only [wp_owned, wp_bind, wp_at, wp_ret, ownw_iff]
  refine and_congr_right fun _ => ?_
  constructor
  · intro h
    refine wp_mono h fun k r ⟨ds, e, z, e2, q⟩ => ?_
    unfold appAt at e2
    split at e2
    · rename_i hl
      cases e2
      exact ⟨ds, e, hl, q⟩
    · cases e2
  · intro h
    refine wp_mono h fun k r ⟨ds, e, hl, q⟩ => ?_
    exact ⟨ds, e, ((), ds ++ [k]), by unfold appAt; rw [if_pos hl], q⟩
/-! what is walked -/
theorem wp_iter : wp (mIter fa) ρ QL ↔ wp fa ρ fun d r => ow d.items? fun ds => QL ds r := by
  unfold mIter; simp only [wp_bind, wp_lift]
theorem wp_iter' {g : List D → Option (List D)} : wp (mIter' g fl) ρ QL ↔ wp fl ρ fun d r => ow (g d) fun ds => QL ds r := by
  unfold mIter'; simp only [wp_bind, wp_lift]
theorem wp_for {g : D → M Unit} : wp (mFor fi g F) ρ QF ↔ wp fi ρ fun ds r => wp (loopL g F ds) r QF := by
  unfold mFor; simp only [wp_bind]
/-- behind a loop's turn -/
def turnw (fl : Fl) (ρ : En) (K : En → Prop) (Q : Fl → En → Prop) : Prop := match fl with
  | .nx => K ρ
  | .ct => K ρ
  | .bk => Q .nx ρ
  | .rt d => Q (.rt d) ρ
  | .ro ds => Q (.ro ds) ρ
theorem turnw_nx {K : En → Prop} : turnw .nx ρ K QF ↔ K ρ := Iff.rfl
theorem turnw_ct {K : En → Prop} : turnw .ct ρ K QF ↔ K ρ := Iff.rfl
theorem turnw_bk {K : En → Prop} : turnw .bk ρ K QF ↔ QF .nx ρ := Iff.rfl
theorem turnw_rt {K : En → Prop} {d : D} : turnw (.rt d) ρ K QF ↔ QF (.rt d) ρ := Iff.rfl
theorem turnw_ro {K : En → Prop} {d : List D} : turnw (.ro d) ρ K QF ↔ QF (.ro d) ρ := Iff.rfl
theorem wp_loop0 {g : D → M Unit} : wp (loopL g F []) ρ QF ↔ QF .nx ρ := wp_ret
theorem wp_loop1 {g : D → M Unit} {d : D} {ds : List D} : wp (loopL g F (d :: ds)) ρ QF ↔ wp (g d) ρ fun _ r => wp F r fun fl r2 => turnw fl r2 (fun r3 => wp (loopL g F ds) r3 QF) QF := by
  show wp (M.bind (g d) _) ρ QF ↔ _
  simp only [wp_bind]
  constructor
  · intro h
    refine wp_mono h fun _ r h2 => wp_mono h2 fun fl r2 q => ?_
    cases fl <;> first | exact q | exact wp_ret.mp q
  · intro h
    refine wp_mono h fun _ r h2 => wp_mono h2 fun fl r2 q => ?_
    cases fl <;> first | exact q | exact wp_ret.mpr q
theorem wp_loop {g : D → M Unit} (I : List D → En → Prop) : ∀ {ds : List D} {ρ : En}, I ds ρ → (∀ d ds r, I (d :: ds) r → wp (g d) r fun _ r1 => wp F r1 fun fl r2 => turnw fl r2 (fun r3 => I ds r3) QF) → (∀ r, I [] r → QF .nx r) → wp (loopL g F ds) ρ QF
  | [], ρ, h, _, hd => wp_loop0.mpr (hd ρ h)
  | d :: ds, ρ, h, st, hd => by
    rw [wp_loop1]
    refine wp_mono (st d ds ρ h) fun _ r h2 => wp_mono h2 fun fl r2 q => ?_
    cases fl <;> first | exact q | exact wp_loop I q st hd
theorem wp_while {b : M Fl} (I : Nat → En → Prop) (st : ∀ n r, I n r → wp t r fun c r1 => if c = true then wp b r1 fun fl r2 => turnw fl r2 (fun r3 => ∃ k, k < n ∧ I k r3) QF else QF .nx r1) : ∀ {n : Nat} {ρ : En}, I n ρ → wp (mWhile t b) ρ QF := by
  intro n
  induction n using Nat.strongRecOn with
  | _ n ih =>
    intro ρ h
    obtain ⟨c, r1, e1, h1⟩ := st n ρ h
    have key : wp (M.bind t fun c => if c = true then M.bind b fun fl => match fl with
      | .nx => mWhile t b
      | .ct => mWhile t b
      | .bk => M.ret .nx
      | .rt d => M.ret (.rt d)
      | .ro ds => M.ret (.ro ds)
      else M.ret .nx) ρ QF := by
      rw [wp_bind, wp_of e1]
      cases c with
      | false => rw [if_neg Bool.false_ne_true] at h1 ⊢; exact wp_ret.mpr h1
      | true =>
        rw [if_pos rfl] at h1 ⊢
        rw [wp_bind]
        refine wp_mono h1 fun fl r2 q => ?_
        cases fl with
        | nx => obtain ⟨k, hk, q⟩ := q; exact ih k hk q
        | ct => obtain ⟨k, hk, q⟩ := q; exact ih k hk q
        | bk => exact wp_ret.mpr q
        | rt d => exact wp_ret.mpr q
        | ro ds => exact wp_ret.mpr q
    obtain ⟨fl, r, e, q⟩ := key
    exact ⟨fl, r, mWhile_turn e (by simp), q⟩
/-! comprehensions -/
theorem wp_lenM : wp (lenM n) ρ QU ↔ ρ.length = n ∧ QU () ρ := by
  dsimp only [lenM, wp]
  split
  · rename_i h; exact ⟨fun ⟨_, _, e, q⟩ => by cases e; exact ⟨h, q⟩, fun ⟨_, q⟩ => ⟨_, _, rfl, q⟩⟩
  · rename_i h; exact ⟨fun ⟨_, _, e, _⟩ => (nomatch e), fun ⟨z, _⟩ => absurd z h⟩
theorem wp_wipeM {vs : List Nat} : wp (wipeM vs) ρ QU ↔ (vs.all fun i => !isOwn ρ i) = true ∧ QU () (wipeE ρ vs) := by
  dsimp only [wipeM, wp]
  split
  · rename_i h; exact ⟨fun ⟨_, _, e, q⟩ => by cases e; exact ⟨h, q⟩, fun ⟨_, q⟩ => ⟨_, _, rfl, q⟩⟩
  · rename_i h; exact ⟨fun ⟨_, _, e, _⟩ => (nomatch e), fun ⟨z, _⟩ => absurd z h⟩
theorem wp_noEr {α : Type} {x : M α} {Q : α → En → Prop} : wp (noEr x) ρ Q ↔ wp x ρ Q := by
  dsimp only [noEr, wp]
  constructor
  · rintro ⟨a, r, e, q⟩
    split at e
    · rename_i e2; cases e; exact ⟨_, _, e2, q⟩
    · cases e
  · rintro ⟨a, r, e, q⟩
    exact ⟨a, r, by rw [e], q⟩
variable {vs : List Nat} {g : D → M Unit}
theorem wp_lc : wp (mLc n vs fi g t f) ρ QL ↔ wp fi ρ fun ds r => r.length = n ∧ ds.length ≤ 100000 ∧ wp (lcL n vs g t f ds) r fun ys r2 => r2.length = n ∧ (vs.all fun i => !isOwn r2 i) = true ∧ QL ys (wipeE r2 vs) := by
  unfold mLc
  simp only [wp_bind, wp_noEr, wp_lenM]
  constructor
  · intro h
    refine wp_mono h fun ds r ⟨h1, h2⟩ => ⟨h1, ?_⟩
    by_cases hl : ds.length ≤ 100000
    · rw [if_pos hl] at h2
      simp only [wp_bind, wp_lenM, wp_wipeM, wp_ret] at h2
      exact ⟨hl, h2⟩
    · rw [if_neg hl] at h2; exact (wp_no.mp h2).elim
  · intro h
    refine wp_mono h fun ds r ⟨h1, hl, h2⟩ => ⟨h1, ?_⟩
    rw [if_pos hl]
    simp only [wp_bind, wp_lenM, wp_wipeM, wp_ret]
    exact h2
theorem wp_lc0 : wp (lcL n vs g t f []) ρ QL ↔ QL [] ρ := wp_ret
theorem wp_lc1 {d : D} {ds : List D} : wp (lcL n vs g t f (d :: ds)) ρ QL ↔ ρ.length = n ∧ (vs.all fun i => !isOwn ρ i) = true ∧ wp (g d) (wipeE ρ vs) fun _ r => r.length = n ∧ wp t r fun b r1 =>
    if b = true then wp f r1 fun y r2 => wp (lcL n vs g t f ds) r2 fun zs r3 => QL (y :: zs) r3 else wp (lcL n vs g t f ds) r1 fun zs r3 => QL zs r3 := by
  show wp (M.bind (lcTurn n vs g t f d) _) ρ QL ↔ _
  unfold lcTurn
  simp only [wp_bind, wp_lenM, wp_wipeM, wp_iteM, wp_ret]
  constructor
  · rintro ⟨h1, h2, h3⟩
    refine ⟨h1, h2, wp_mono h3 fun _ r ⟨h4, h5⟩ => ⟨h4, wp_mono h5 fun b r1 h6 => ?_⟩⟩
    cases b with
    | true => exact h6
    | false => exact h6
  · rintro ⟨h1, h2, h3⟩
    refine ⟨h1, h2, wp_mono h3 fun _ r ⟨h4, h5⟩ => ⟨h4, wp_mono h5 fun b r1 h6 => ?_⟩⟩
    cases b with
    | true => exact h6
    | false => exact h6
inductive All2 {α β : Type} (P : α → β → Prop) : List α → List β → Prop
  | nil : All2 P [] []
  | cons {a : α} {b : β} {as : List α} {bs : List β} : P a b → All2 P as bs → All2 P (a :: as) (b :: bs)
/-- a comprehension, each turn by itself: what is kept of the slots is I, what is told of an item is P -/
theorem wp_lcs (I : En → Prop) (P : D → List D → Prop) : ∀ {ds : List D} {ρ : En}, I ρ → (∀ d, d ∈ ds → ∀ r, I r → r.length = n ∧ (vs.all fun i => !isOwn r i) = true ∧ wp (g d) (wipeE r vs) fun _ r1 => r1.length = n ∧ wp t r1 fun b r2 =>
    if b = true then wp f r2 fun y r3 => I r3 ∧ P d [y] else I r2 ∧ P d []) → wp (lcL n vs g t f ds) ρ fun ys r => I r ∧ ∃ yss, ys = List.flatten yss ∧ All2 P ds yss
  | [], ρ, h, _ => wp_lc0.mpr ⟨h, [], rfl, .nil⟩
  | d :: ds, ρ, h, st => by
    rw [wp_lc1]
    obtain ⟨h1, h2, h3⟩ := st d List.mem_cons_self ρ h
    refine ⟨h1, h2, wp_mono h3 fun _ r ⟨h4, h5⟩ => ⟨h4, wp_mono h5 fun b r1 h6 => ?_⟩⟩
    have rec' : ∀ {r : En}, I r → wp (lcL n vs g t f ds) r fun ys r => I r ∧ ∃ yss, ys = List.flatten yss ∧ All2 P ds yss := fun hr => wp_lcs I P hr fun d' hd' => st d' (List.mem_cons_of_mem _ hd')
    cases b with
    | true =>
      rw [if_pos rfl] at h6 ⊢
      refine wp_mono h6 fun y r2 ⟨h7, h8⟩ => wp_mono (rec' h7) fun zs r3 ⟨h9, yss, e, q⟩ => ⟨h9, [y] :: yss, by rw [e]; rfl, .cons h8 q⟩
    | false =>
      rw [if_neg Bool.false_ne_true] at h6 ⊢
      exact wp_mono (rec' h6.1) fun zs r3 ⟨h9, yss, e, q⟩ => ⟨h9, [] :: yss, by rw [e]; rfl, .cons h6.2 q⟩
/-! calls -/
theorem wp_callV {α : Type} {H : M α} {ds : List D} {Q : α → En → Prop} : wp (callV n H ds) ρ Q ↔ ds.length = n ∧ wp H (ds.map .val) fun d _ => Q d ρ := by
  dsimp only [callV, wp]
  by_cases hl : ds.length = n
  · simp only [if_pos hl]
    constructor
    · rintro ⟨a, r, e, q⟩
      refine ⟨hl, ?_⟩
      split at e
      · cases e
      · cases e
      · rename_i d ρ' e2; cases e; exact ⟨_, _, e2, q⟩
    · rintro ⟨_, a, r, e, q⟩
      exact ⟨a, ρ, by rw [e], q⟩
  · simp only [if_neg hl]
    exact ⟨fun ⟨_, _, e, _⟩ => (nomatch e), fun ⟨z, _⟩ => absurd z hl⟩
theorem wp_callL {H : M (List D)} {ds : List D} : wp (callL n H ds) ρ QL ↔ ds.length = n ∧ wp H (ds.map .val) fun d _ => QL d ρ := by
  dsimp only [callL, wp]
  by_cases hl : ds.length = n
  · simp only [if_pos hl]
    constructor
    · rintro ⟨a, r, e, q⟩
      refine ⟨hl, ?_⟩
      split at e
      · rename_i d ρ' e2; cases e; exact ⟨_, _, e2, q⟩
      · cases e
    · rintro ⟨_, a, r, e, q⟩
      exact ⟨a, ρ, by rw [e], q⟩
  · simp only [if_neg hl]
    exact ⟨fun ⟨_, _, e, _⟩ => (nomatch e), fun ⟨z, _⟩ => absurd z hl⟩
def ohw (r : En) (P : List D → Prop) : Prop := match r with
  | .own L :: _ => P L
  | _ => False
theorem ohw_mk {L : List D} {r : En} {P : List D → Prop} : ohw (.own L :: r) P ↔ P L := Iff.rfl
theorem wp_callO {H : M D} {ds : List D} : wp (callO n H i ds) ρ Q ↔ ownw ρ[i]? fun L => ds.length + 1 = n ∧ wp H (.own L :: ds.map .val) fun d r => ohw r fun L' => Q d (ρ.set i (.own L')) := by
  dsimp only [callO, wp]
  rw [ownw_iff]
  constructor
  · rintro ⟨a, r, e, q⟩
    split at e
    · rename_i L eo
      refine ⟨L, eo, ?_⟩
      split at e
      · rename_i hl
        refine ⟨hl, ?_⟩
        split at e
        · cases e
        · cases e
        · cases e
        · rename_i d L' τ e2; cases e; exact ⟨_, _, e2, q⟩
        · cases e
      · cases e
    · cases e
  · rintro ⟨L, eo, hl, a, r, e, q⟩
    unfold ohw at q
    split at q
    · rename_i L' τ
      exact ⟨a, ρ.set i (.own L'), by rw [eo]; simp only [if_pos hl]; rw [e], q⟩
    · exact q.elim
theorem wp_callN {H : M D} {L : List D} : wp (callN n H L) ρ Q ↔ n = 1 ∧ wp H [.own L] fun d _ => Q d ρ := by
  dsimp only [callN, wp]
  by_cases hl : n = 1
  · simp only [if_pos hl]
    constructor
    · rintro ⟨a, r, e, q⟩
      refine ⟨hl, ?_⟩
      split at e
      · cases e
      · cases e
      · rename_i d ρ' e2; cases e; exact ⟨_, _, e2, q⟩
    · rintro ⟨_, a, r, e, q⟩
      exact ⟨a, ρ, by rw [e], q⟩
  · simp only [if_neg hl]
    exact ⟨fun ⟨_, _, e, _⟩ => (nomatch e), fun ⟨z, _⟩ => absurd z hl⟩
theorem wp_callK {H : M D} {ds es : List D} {a b : Nat} {ix : List Nat} : wp (callK n a b ix H ds es) ρ Q ↔ wp (callV n H (kwOf a b ix ds es)) ρ Q := Iff.rfl
theorem wp_fnB {α : Type} {fx : List Nat} {m : Nat} {H : M α} {Q : α → En → Prop} : wp (fnB fx n m H) ρ Q ↔ (ρ.length = n ∧ ownsIn fx ρ = true) ∧ wp H (ρ ++ List.replicate m .no) fun d r => ow (finE ρ r) fun q => Q d q := by
  dsimp only [fnB, wp, fnEnd]
  by_cases hc : ρ.length = n ∧ ownsIn fx ρ = true
  · simp only [if_pos hc]
    constructor
    · rintro ⟨a, r, e, q⟩
      refine ⟨hc, ?_⟩
      split at e
      · cases e
      · split at e <;> cases e
      · rename_i d ρ' e2
        split at e
        · rename_i z e3
          cases e
          exact ⟨_, _, e2, _, e3, q⟩
        · cases e
    · rintro ⟨_, a, r, e, z, e3, q⟩
      exact ⟨a, z, by rw [e]; simp only [e3], q⟩
  · simp only [if_neg hc]
    exact ⟨fun ⟨_, _, e, _⟩ => (nomatch e), fun ⟨z, _⟩ => absurd z hc⟩
def retw (fl : Fl) (P : D → Prop) : Prop := match fl with
  | .rt d => P d
  | .nx => P .non
  | _ => False
def retOw (fl : Fl) (P : List D → Prop) : Prop := match fl with
  | .ro d => P d
  | _ => False
theorem retw_rt {d : D} {P : D → Prop} : retw (.rt d) P ↔ P d := Iff.rfl
theorem retw_nx {P : D → Prop} : retw .nx P ↔ P .non := Iff.rfl
theorem retOw_ro {d : List D} {P : List D → Prop} : retOw (.ro d) P ↔ P d := Iff.rfl
theorem wp_asRet : wp (asRet F) ρ Q ↔ wp F ρ fun fl r => retw fl fun d => Q d r := by
  unfold asRet
  simp only [wp_bind]
  constructor
  · intro h
    refine wp_mono h fun fl r q => ?_
    cases fl <;> first | exact wp_ret.mp q | exact (wp_no.mp q).elim
  · intro h
    refine wp_mono h fun fl r q => ?_
    cases fl <;> first | exact wp_ret.mpr q | exact q.elim
theorem wp_asRetO : wp (asRetO F) ρ QL ↔ wp F ρ fun fl r => retOw fl fun d => QL d r := by
  unfold asRetO
  simp only [wp_bind]
  constructor
  · intro h
    refine wp_mono h fun fl r q => ?_
    cases fl <;> first | exact wp_ret.mp q | exact (wp_no.mp q).elim
  · intro h
    refine wp_mono h fun fl r q => ?_
    cases fl <;> first | exact wp_ret.mpr q | exact q.elim
end
end PV

namespace PV
open PySem PySem.Spec PyProof.Rows L2

/-! ### operators, by wishes -/
section
variable {P : D → Prop} {a b : Int} {x y z : D} {xs ys : List D} {p q : Bool} {s u : Str}
theorem ow_add : ow (dAdd (.int a) (.int b)) P ↔ P (.int (a + b)) := ow_some
theorem ow_sub : ow (dSub (.int a) (.int b)) P ↔ P (.int (a - b)) := ow_some
theorem ow_neg : ow (dNeg (.int a)) P ↔ P (.int (-a)) := ow_some
theorem ow_ite {α : Type} {c : Prop} [Decidable c] {o : Option α} {P : α → Prop} : ow (if c then o else none) P ↔ c ∧ ow o P := by
  by_cases h : c
  · rw [if_pos h]; exact ⟨fun q => ⟨h, q⟩, fun q => q.2⟩
  · rw [if_neg h]; exact ⟨fun ⟨_, e, _⟩ => (nomatch e), fun q => absurd q.1 h⟩
theorem ow_mul : ow (dMul (.int a) (.int b)) P ↔ mulOk a b = true ∧ P (.int (a * b)) := by
  unfold dMul; rw [ow_ite, ow_some]
theorem ow_div : ow (dDiv (.int a) (.int b)) P ↔ divOk b = true ∧ P (.int (a.fdiv b)) := by
  unfold dDiv; rw [ow_ite, ow_some]
theorem ow_mod : ow (dMod (.int a) (.int b)) P ↔ b ≠ 0 ∧ P (.int (a.fmod b)) := by
  unfold dMod; rw [ow_ite, ow_some]
theorem ow_pow : ow (dPow (.int a) (.int b)) P ↔ (0 ≤ b ∧ b ≤ 100000 ∧ a.natAbs < 2 ^ 64) ∧ P (.int (a ^ b.toNat)) := by
  unfold dPow; rw [ow_ite, ow_some]
theorem ow_lt : ow (dLt (.int a) (.int b)) P ↔ P (.bl (decide (a < b))) := ow_some
theorem ow_le : ow (dLe (.int a) (.int b)) P ↔ P (.bl (decide (a ≤ b))) := ow_some
theorem ow_gt : ow (dGt (.int a) (.int b)) P ↔ P (.bl (decide (b < a))) := ow_some
theorem ow_ge : ow (dGe (.int a) (.int b)) P ↔ P (.bl (decide (b ≤ a))) := ow_some
theorem ow_isNon : ow (dIs x .non) P ↔ P (.bl (isNon x)) := by cases x <;> exact ow_some
theorem ow_isNotNon : ow (dIsNot x .non) P ↔ P (.bl (!isNon x)) := by cases x <;> exact ow_some
theorem ow_isBl : ow (dIs (.bl p) (.bl q)) P ↔ P (.bl (decide (p = q))) := ow_some
theorem ow_isNotBl : ow (dIsNot (.bl p) (.bl q)) P ↔ P (.bl (!decide (p = q))) := ow_some
theorem isNon_non : isNon .non = true := rfl
theorem isNon_int : isNon (.int a) = false := rfl
theorem isNon_bl : isNon (.bl p) = false := rfl
theorem isNon_tup : isNon (.tup xs) = false := rfl
theorem isNon_lst : isNon (.lst xs) = false := rfl
theorem isNon_str : isNon (.str s) = false := rfl
theorem ow_items_tup {P : List D → Prop} : ow (D.items? (.tup xs)) P ↔ P xs := ow_some
theorem ow_items_lst {P : List D → Prop} : ow (D.items? (.lst xs)) P ↔ P xs := ow_some
theorem ow_len_tup : ow (dLen [.tup xs]) P ↔ P (.int xs.length) := ow_some
theorem ow_len_lst : ow (dLen [.lst xs]) P ↔ P (.int xs.length) := ow_some
theorem ow_len_fz {ns : List Int} : ow (dLen [.fz ns]) P ↔ P (.int ns.length) := ow_some
theorem ow_abs : ow (dAbs [.int a]) P ↔ P (.int (a.natAbs : Int)) := by
  refine ow_some.trans ?_
  have e : (if a < 0 then -a else a) = (a.natAbs : Int) := by split <;> omega
  rw [e]
theorem ow_min : ow (dMin [.int a, .int b]) P ↔ P (.int (min a b)) := by
  refine ow_some.trans ?_
  have e : (if b < a then b else a) = min a b := by split <;> omega
  rw [e]
theorem ow_max : ow (dMax [.int a, .int b]) P ↔ P (.int (max a b)) := by
  refine ow_some.trans ?_
  have e : (if b > a then b else a) = max a b := by split <;> omega
  rw [e]
theorem ow_int : ow (dInt [.int a]) P ↔ P (.int a) := ow_some
theorem ow_divmod : ow (dDivmod [.int a, .int b]) P ↔ (0 < b ∧ b.natAbs.log2 < 9000) ∧ P (.tup [.int (a / b), .int (a % b)]) := by
  unfold dDivmod; rw [ow_ite, ow_some]
theorem ow_gcd : ow (dGcd [.int a, .int b]) P ↔ P (.int (Nat.gcd a.natAbs b.natAbs : Nat)) := ow_some
theorem ow_tuple_lst : ow (dTuple [.lst xs]) P ↔ P (.tup xs) := ow_some
theorem ow_tuple_tup : ow (dTuple [.tup xs]) P ↔ P (.tup xs) := ow_some
theorem ow_list_lst : ow (dList [.lst xs]) P ↔ P (.lst xs) := ow_some
theorem ow_list_tup : ow (dList [.tup xs]) P ↔ P (.lst xs) := ow_some
theorem ow_repr : ow (dRepr [x]) P ↔ okr x = true ∧ P (.str x.py.shown) := by
  unfold dRepr; rw [ow_ite, ow_some]
theorem ow_sum {ns : List Int} : ow (dSum [.lst (ns.map .int)]) P ↔ P (.int ns.sum) := by
  exact ow_of (show (ints? (ns.map D.int)).map (fun ns => D.int ns.sum) = _ by rw [ints?_map]; rfl)
theorem ow_all {ns : List Bool} : ow (dAll [.lst (ns.map .bl)]) P ↔ P (.bl (ns.all id)) := by
  exact ow_of (show (bls? (ns.map D.bl)).map (fun bs => D.bl (bs.all id)) = _ by rw [bls?_map]; rfl)
theorem ow_any {ns : List Bool} : ow (dAny [.lst (ns.map .bl)]) P ↔ P (.bl (ns.any id)) := by
  exact ow_of (show (bls? (ns.map D.bl)).map (fun bs => D.bl (bs.any id)) = _ by rw [bls?_map]; rfl)
theorem ow_all0 : ow (dAll [.lst []]) P ↔ P (.bl true) := ow_some
theorem ow_all1 : ow (dAll [.lst [.bl p]]) P ↔ P (.bl p) := by
  have := ow_all (P := P) (ns := [p]); simpa using this
theorem ow_all2 : ow (dAll [.lst [.bl p, .bl q]]) P ↔ P (.bl (p && q)) := by
  have := ow_all (P := P) (ns := [p, q]); simpa using this
theorem ow_all3 {r : Bool} : ow (dAll [.lst [.bl p, .bl q, .bl r]]) P ↔ P (.bl (p && (q && r))) := by
  have := ow_all (P := P) (ns := [p, q, r]); simpa using this
theorem ow_all4 {r s : Bool} : ow (dAll [.lst [.bl p, .bl q, .bl r, .bl s]]) P ↔ P (.bl (p && (q && (r && s)))) := by
  have := ow_all (P := P) (ns := [p, q, r, s]); simpa using this
theorem ow_all5 {r s u : Bool} : ow (dAll [.lst [.bl p, .bl q, .bl r, .bl s, .bl u]]) P ↔ P (.bl (p && (q && (r && (s && u))))) := by
  have := ow_all (P := P) (ns := [p, q, r, s, u]); simpa using this
theorem ow_any0 : ow (dAny [.lst []]) P ↔ P (.bl false) := ow_some
theorem ow_any1 : ow (dAny [.lst [.bl p]]) P ↔ P (.bl p) := by
  have := ow_any (P := P) (ns := [p]); simpa using this
theorem ow_any2 : ow (dAny [.lst [.bl p, .bl q]]) P ↔ P (.bl (p || q)) := by
  have := ow_any (P := P) (ns := [p, q]); simpa using this
theorem ow_any3 {r : Bool} : ow (dAny [.lst [.bl p, .bl q, .bl r]]) P ↔ P (.bl (p || (q || r))) := by
  have := ow_any (P := P) (ns := [p, q, r]); simpa using this
theorem ow_eq_str : ow (dEq (.str s) (.str u)) P ↔ P (.bl (decide (s = u))) := ow_some
theorem ow_ne_str : ow (dNe (.str s) (.str u)) P ↔ P (.bl (!decide (s = u))) := ow_some
theorem eqD_str : eqD (.str s) (.str u) = decide (s = u) := by
  show (s == u) = decide (s = u)
  rw [Bool.eq_iff_iff]; simp
theorem dEq_ok (hx : okq 60 x = true) (hy : okq 60 y = true) : dEq x y = some (.bl (eqD x y)) := by
  unfold dEq
  split
  · rename_i a b e
    obtain ⟨rfl, rfl⟩ := strs?_some e
    rw [eqD_str]
  · rw [if_pos ⟨hx, hy⟩]
theorem dNe_ok (hx : okq 60 x = true) (hy : okq 60 y = true) : dNe x y = some (.bl (!eqD x y)) := by
  unfold dNe
  split
  · rename_i a b e
    obtain ⟨rfl, rfl⟩ := strs?_some e
    rw [eqD_str]
  · rw [if_pos ⟨hx, hy⟩]
end
/-! ### depth, show: told by instances -/
mutual
theorem okq_mono : ∀ (d : D) {n m : Nat}, okq n d = true → n ≤ m → okq m d = true
  | .non, n, m, _, _ => by cases m <;> rfl
  | .bl b, n, m, _, _ => by cases m <;> rfl
  | .int i, n, m, _, _ => by cases m <;> rfl
  | .str x, n, m, h, _ => by cases n <;> cases m <;> exact h
  | .lst ds, 0, _, h, _ => by cases h
  | .lst ds, n + 1, 0, _, l => by omega
  | .lst ds, n + 1, m + 1, h, l => by
    have h' : okqA n ds = true := h
    exact okqA_mono ds h' (by omega)
  | .tup ds, 0, _, h, _ => by cases h
  | .tup ds, n + 1, 0, _, l => by omega
  | .tup ds, n + 1, m + 1, h, l => by
    have h' : okqA n ds = true := h
    exact okqA_mono ds h' (by omega)
  | .dic ks ds, n, _, h, _ => by cases n <;> cases h
  | .fz ns, n, _, h, _ => by cases n <;> cases h
  | .ins c ns ds, n, _, h, _ => by cases n <;> cases h
theorem okqA_mono : ∀ (ds : List D) {n m : Nat}, okqA n ds = true → n ≤ m → okqA m ds = true
  | [], _, _, _, _ => rfl
  | d :: ds, n, m, h, l => by
    unfold okqA at h ⊢
    rw [Bool.and_eq_true] at h ⊢
    exact ⟨okq_mono d h.1 l, okqA_mono ds h.2 l⟩
end
class Eqb (n : outParam Nat) (d : D) : Prop where
  ok : okq n d = true
class EqA (n : outParam Nat) (ds : List D) : Prop where
  ok : okqA n ds = true
instance : Eqb 0 .non := ⟨rfl⟩
instance {b : Bool} : Eqb 0 (.bl b) := ⟨rfl⟩
instance {i : Int} : Eqb 0 (.int i) := ⟨rfl⟩
instance : EqA 0 [] := ⟨rfl⟩
instance {n m : Nat} {d : D} {ds : List D} [h : Eqb n d] [h2 : EqA m ds] : EqA (n + m) (d :: ds) := ⟨by
  unfold okqA
  rw [okq_mono d h.ok (Nat.le_add_right n m), okqA_mono ds h2.ok (Nat.le_add_left m n)]; rfl⟩
instance {n : Nat} {ds : List D} [h : EqA n ds] : Eqb (n + 1) (.tup ds) := ⟨h.ok⟩
instance {n : Nat} {ds : List D} [h : EqA n ds] : Eqb (n + 1) (.lst ds) := ⟨h.ok⟩
section
variable {P : D → Prop} {x y : D} {n m : Nat}
theorem ow_eq [hx : Eqb n x] [hy : Eqb m y] (h1 : n ≤ 60) (h2 : m ≤ 60) : ow (dEq x y) P ↔ P (.bl (eqD x y)) := ow_of (dEq_ok (okq_mono x hx.ok h1) (okq_mono y hy.ok h2))
theorem ow_ne [hx : Eqb n x] [hy : Eqb m y] (h1 : n ≤ 60) (h2 : m ≤ 60) : ow (dNe x y) P ↔ P (.bl (!eqD x y)) := ow_of (dNe_ok (okq_mono x hx.ok h1) (okq_mono y hy.ok h2))
end
/-- of a small bulk, its numbers short, if the bulk is told as small -/
class Shw (k : outParam Nat) (d : D) : Prop where
  ok : k ≤ 8000 → d.py.showable = true ∧ d.py.bulk ≤ k
class ShA (k : outParam Nat) (ds : List D) : Prop where
  ok : k ≤ 8000 → PyData.showableAll (D.pyA ds) = true ∧ PyData.bulkAll (D.pyA ds) ≤ k
instance : Shw 0 .non := ⟨fun _ => ⟨rfl, Nat.le_refl _⟩⟩
instance {b : Bool} : Shw 0 (.bl b) := ⟨fun _ => ⟨rfl, Nat.le_refl _⟩⟩
instance : ShA 0 [] := ⟨fun _ => ⟨rfl, Nat.le_refl _⟩⟩
instance {n m : Nat} {d : D} {ds : List D} [h : Shw n d] [h2 : ShA m ds] : ShA (n + 1 + m) (d :: ds) := ⟨fun l => by
  obtain ⟨a, b⟩ := h.ok (by omega)
  obtain ⟨a', b'⟩ := h2.ok (by omega)
  refine ⟨?_, ?_⟩
  · show (d.py.showable && PyData.showableAll (D.pyA ds)) = true
    rw [a, a']; rfl
  · show d.py.bulk + 1 + PyData.bulkAll (D.pyA ds) ≤ _
    omega⟩
instance {n : Nat} {ds : List D} [h : ShA n ds] : Shw n (.tup ds) := ⟨h.ok⟩
instance {n : Nat} {ds : List D} [h : ShA n ds] : Shw n (.lst ds) := ⟨h.ok⟩
theorem ow_repr' {P : D → Prop} {x : D} {n k : Nat} [hx : Eqb n x] [hy : Shw k x] (h1 : n ≤ 60) (h2 : k ≤ 8000) : ow (dRepr [x]) P ↔ P (.str x.py.shown) := by
  rw [ow_repr]
  obtain ⟨a, b⟩ := hy.ok h2
  have e : okr x = true := by
    unfold okr
    rw [okq_mono x hx.ok h1, a, decide_eq_true (Nat.le_trans b h2)]; rfl
  exact ⟨fun q => q.2, fun q => ⟨e, q⟩⟩
/-! ### equality of data -/
section
variable {x y : D} {xs ys : List D} {a b : Int} {p q : Bool}
theorem eqD_int : eqD (.int a) (.int b) = decide (a = b) := by
  show (a == b) = decide (a = b)
  rw [Bool.eq_iff_iff]; simp
theorem eqD_bl : eqD (.bl p) (.bl q) = decide (p = q) := by
  show (p == q) = decide (p = q)
  rw [Bool.eq_iff_iff]; simp
theorem eqD_non : eqD .non .non = true := rfl
theorem eqD_non_tup : eqD .non (.tup xs) = false := rfl
theorem eqD_tup_non : eqD (.tup xs) .non = false := rfl
theorem eqD_non_int : eqD .non (.int a) = false := rfl
theorem eqD_int_non : eqD (.int a) .non = false := rfl
theorem eqD_int_tup : eqD (.int a) (.tup xs) = false := rfl
theorem eqD_tup_int : eqD (.tup xs) (.int a) = false := rfl
theorem eqD_tup0 : eqD (.tup []) (.tup []) = true := rfl
theorem eqD_tup01 : eqD (.tup []) (.tup (y :: ys)) = false := rfl
theorem eqD_tup10 : eqD (.tup (x :: xs)) (.tup []) = false := rfl
theorem eqD_tup1 : eqD (.tup (x :: xs)) (.tup (y :: ys)) = (eqD x y && eqD (.tup xs) (.tup ys)) := rfl
theorem eqD_lst0 : eqD (.lst []) (.lst []) = true := rfl
theorem eqD_lst01 : eqD (.lst []) (.lst (y :: ys)) = false := rfl
theorem eqD_lst10 : eqD (.lst (x :: xs)) (.lst []) = false := rfl
theorem eqD_lst1 : eqD (.lst (x :: xs)) (.lst (y :: ys)) = (eqD x y && eqD (.lst xs) (.lst ys)) := rfl
mutual
/-- what is equal to itself: all but objects -/
theorem eqD_self : ∀ (d : D) {n : Nat}, okq n d = true → eqD d d = true
  | .non, _, _ => rfl
  | .bl b, _, _ => by rw [eqD_bl]; simp
  | .int i, _, _ => by rw [eqD_int]; simp
  | .str s, _, _ => by rw [eqD_str]; simp
  | .lst ds, 0, h => by cases h
  | .tup ds, 0, h => by cases h
  | .lst ds, n + 1, h => eqD_selfA ds (n := n) h
  | .tup ds, n + 1, h => eqD_selfA ds (n := n) h
  | .dic _ _, n, h => by cases n <;> cases h
  | .fz _, n, h => by cases n <;> cases h
  | .ins _ _ _, n, h => by cases n <;> cases h
theorem eqD_selfA : ∀ (ds : List D) {n : Nat}, okqA n ds = true → PyData.eqvAll (D.pyA ds) (D.pyA ds) = true
  | [], _, _ => rfl
  | d :: ds, n, h => by
    unfold okqA at h
    rw [Bool.and_eq_true] at h
    show (eqD d d && PyData.eqvAll (D.pyA ds) (D.pyA ds)) = true
    rw [eqD_self d h.1, eqD_selfA ds h.2]; rfl
end
end
/-! ### places -/
theorem atI_nat {α : Type} {xs : List α} {n : Nat} {x : α} (h : xs[n]? = some x) : atI xs (n : Int) = some x := by
  obtain ⟨hl, _⟩ := List.getElem?_eq_some_iff.mp h
  unfold atI ixN
  rw [if_pos (by omega), if_pos (by omega)]
  simpa using h
theorem ix_tup0 {x0 : D} {xs : List D} : dIx (.tup (x0 :: xs)) (.int 0) = some x0 := atI_nat rfl
theorem ix_lst0 {x0 : D} {xs : List D} : dIx (.lst (x0 :: xs)) (.int 0) = some x0 := atI_nat rfl
theorem ix_tup1 {x0 x1 : D} {xs : List D} : dIx (.tup (x0 :: x1 :: xs)) (.int 1) = some x1 := atI_nat rfl
theorem ix_lst1 {x0 x1 : D} {xs : List D} : dIx (.lst (x0 :: x1 :: xs)) (.int 1) = some x1 := atI_nat rfl
theorem ix_tup2 {x0 x1 x2 : D} {xs : List D} : dIx (.tup (x0 :: x1 :: x2 :: xs)) (.int 2) = some x2 := atI_nat rfl
theorem ix_lst2 {x0 x1 x2 : D} {xs : List D} : dIx (.lst (x0 :: x1 :: x2 :: xs)) (.int 2) = some x2 := atI_nat rfl
theorem ix_tup3 {x0 x1 x2 x3 : D} {xs : List D} : dIx (.tup (x0 :: x1 :: x2 :: x3 :: xs)) (.int 3) = some x3 := atI_nat rfl
theorem ix_lst3 {x0 x1 x2 x3 : D} {xs : List D} : dIx (.lst (x0 :: x1 :: x2 :: x3 :: xs)) (.int 3) = some x3 := atI_nat rfl
theorem ix_tup4 {x0 x1 x2 x3 x4 : D} {xs : List D} : dIx (.tup (x0 :: x1 :: x2 :: x3 :: x4 :: xs)) (.int 4) = some x4 := atI_nat rfl
theorem ix_lst4 {x0 x1 x2 x3 x4 : D} {xs : List D} : dIx (.lst (x0 :: x1 :: x2 :: x3 :: x4 :: xs)) (.int 4) = some x4 := atI_nat rfl
theorem ix_tup5 {x0 x1 x2 x3 x4 x5 : D} {xs : List D} : dIx (.tup (x0 :: x1 :: x2 :: x3 :: x4 :: x5 :: xs)) (.int 5) = some x5 := atI_nat rfl
theorem ix_lst5 {x0 x1 x2 x3 x4 x5 : D} {xs : List D} : dIx (.lst (x0 :: x1 :: x2 :: x3 :: x4 :: x5 :: xs)) (.int 5) = some x5 := atI_nat rfl
theorem ix_tup6 {x0 x1 x2 x3 x4 x5 x6 : D} {xs : List D} : dIx (.tup (x0 :: x1 :: x2 :: x3 :: x4 :: x5 :: x6 :: xs)) (.int 6) = some x6 := atI_nat rfl
theorem ix_lst6 {x0 x1 x2 x3 x4 x5 x6 : D} {xs : List D} : dIx (.lst (x0 :: x1 :: x2 :: x3 :: x4 :: x5 :: x6 :: xs)) (.int 6) = some x6 := atI_nat rfl
theorem ix_tup7 {x0 x1 x2 x3 x4 x5 x6 x7 : D} {xs : List D} : dIx (.tup (x0 :: x1 :: x2 :: x3 :: x4 :: x5 :: x6 :: x7 :: xs)) (.int 7) = some x7 := atI_nat rfl
theorem ix_lst7 {x0 x1 x2 x3 x4 x5 x6 x7 : D} {xs : List D} : dIx (.lst (x0 :: x1 :: x2 :: x3 :: x4 :: x5 :: x6 :: x7 :: xs)) (.int 7) = some x7 := atI_nat rfl
theorem ix_tup8 {x0 x1 x2 x3 x4 x5 x6 x7 x8 : D} {xs : List D} : dIx (.tup (x0 :: x1 :: x2 :: x3 :: x4 :: x5 :: x6 :: x7 :: x8 :: xs)) (.int 8) = some x8 := atI_nat rfl
theorem ix_lst8 {x0 x1 x2 x3 x4 x5 x6 x7 x8 : D} {xs : List D} : dIx (.lst (x0 :: x1 :: x2 :: x3 :: x4 :: x5 :: x6 :: x7 :: x8 :: xs)) (.int 8) = some x8 := atI_nat rfl
theorem ix_tup9 {x0 x1 x2 x3 x4 x5 x6 x7 x8 x9 : D} {xs : List D} : dIx (.tup (x0 :: x1 :: x2 :: x3 :: x4 :: x5 :: x6 :: x7 :: x8 :: x9 :: xs)) (.int 9) = some x9 := atI_nat rfl
theorem ix_lst9 {x0 x1 x2 x3 x4 x5 x6 x7 x8 x9 : D} {xs : List D} : dIx (.lst (x0 :: x1 :: x2 :: x3 :: x4 :: x5 :: x6 :: x7 :: x8 :: x9 :: xs)) (.int 9) = some x9 := atI_nat rfl
theorem ix_tup10 {x0 x1 x2 x3 x4 x5 x6 x7 x8 x9 x10 : D} {xs : List D} : dIx (.tup (x0 :: x1 :: x2 :: x3 :: x4 :: x5 :: x6 :: x7 :: x8 :: x9 :: x10 :: xs)) (.int 10) = some x10 := atI_nat rfl
theorem ix_lst10 {x0 x1 x2 x3 x4 x5 x6 x7 x8 x9 x10 : D} {xs : List D} : dIx (.lst (x0 :: x1 :: x2 :: x3 :: x4 :: x5 :: x6 :: x7 :: x8 :: x9 :: x10 :: xs)) (.int 10) = some x10 := atI_nat rfl
theorem ix_tup11 {x0 x1 x2 x3 x4 x5 x6 x7 x8 x9 x10 x11 : D} {xs : List D} : dIx (.tup (x0 :: x1 :: x2 :: x3 :: x4 :: x5 :: x6 :: x7 :: x8 :: x9 :: x10 :: x11 :: xs)) (.int 11) = some x11 := atI_nat rfl
theorem ix_lst11 {x0 x1 x2 x3 x4 x5 x6 x7 x8 x9 x10 x11 : D} {xs : List D} : dIx (.lst (x0 :: x1 :: x2 :: x3 :: x4 :: x5 :: x6 :: x7 :: x8 :: x9 :: x10 :: x11 :: xs)) (.int 11) = some x11 := atI_nat rfl
theorem ow_ix_tup0 {x0 : D} {xs : List D} {P : D → Prop} : ow (dIx (.tup (x0 :: xs)) (.int 0)) P ↔ P x0 := ow_of ix_tup0
theorem ow_ix_lst0 {x0 : D} {xs : List D} {P : D → Prop} : ow (dIx (.lst (x0 :: xs)) (.int 0)) P ↔ P x0 := ow_of ix_lst0
theorem ow_ix_tup1 {x0 x1 : D} {xs : List D} {P : D → Prop} : ow (dIx (.tup (x0 :: x1 :: xs)) (.int 1)) P ↔ P x1 := ow_of ix_tup1
theorem ow_ix_lst1 {x0 x1 : D} {xs : List D} {P : D → Prop} : ow (dIx (.lst (x0 :: x1 :: xs)) (.int 1)) P ↔ P x1 := ow_of ix_lst1
theorem ow_ix_tup2 {x0 x1 x2 : D} {xs : List D} {P : D → Prop} : ow (dIx (.tup (x0 :: x1 :: x2 :: xs)) (.int 2)) P ↔ P x2 := ow_of ix_tup2
theorem ow_ix_lst2 {x0 x1 x2 : D} {xs : List D} {P : D → Prop} : ow (dIx (.lst (x0 :: x1 :: x2 :: xs)) (.int 2)) P ↔ P x2 := ow_of ix_lst2
theorem ow_ix_tup3 {x0 x1 x2 x3 : D} {xs : List D} {P : D → Prop} : ow (dIx (.tup (x0 :: x1 :: x2 :: x3 :: xs)) (.int 3)) P ↔ P x3 := ow_of ix_tup3
theorem ow_ix_lst3 {x0 x1 x2 x3 : D} {xs : List D} {P : D → Prop} : ow (dIx (.lst (x0 :: x1 :: x2 :: x3 :: xs)) (.int 3)) P ↔ P x3 := ow_of ix_lst3
theorem ow_ix_tup4 {x0 x1 x2 x3 x4 : D} {xs : List D} {P : D → Prop} : ow (dIx (.tup (x0 :: x1 :: x2 :: x3 :: x4 :: xs)) (.int 4)) P ↔ P x4 := ow_of ix_tup4
theorem ow_ix_lst4 {x0 x1 x2 x3 x4 : D} {xs : List D} {P : D → Prop} : ow (dIx (.lst (x0 :: x1 :: x2 :: x3 :: x4 :: xs)) (.int 4)) P ↔ P x4 := ow_of ix_lst4
theorem ow_ix_tup5 {x0 x1 x2 x3 x4 x5 : D} {xs : List D} {P : D → Prop} : ow (dIx (.tup (x0 :: x1 :: x2 :: x3 :: x4 :: x5 :: xs)) (.int 5)) P ↔ P x5 := ow_of ix_tup5
theorem ow_ix_lst5 {x0 x1 x2 x3 x4 x5 : D} {xs : List D} {P : D → Prop} : ow (dIx (.lst (x0 :: x1 :: x2 :: x3 :: x4 :: x5 :: xs)) (.int 5)) P ↔ P x5 := ow_of ix_lst5
theorem ow_ix_tup6 {x0 x1 x2 x3 x4 x5 x6 : D} {xs : List D} {P : D → Prop} : ow (dIx (.tup (x0 :: x1 :: x2 :: x3 :: x4 :: x5 :: x6 :: xs)) (.int 6)) P ↔ P x6 := ow_of ix_tup6
theorem ow_ix_lst6 {x0 x1 x2 x3 x4 x5 x6 : D} {xs : List D} {P : D → Prop} : ow (dIx (.lst (x0 :: x1 :: x2 :: x3 :: x4 :: x5 :: x6 :: xs)) (.int 6)) P ↔ P x6 := ow_of ix_lst6
theorem ow_ix_tup7 {x0 x1 x2 x3 x4 x5 x6 x7 : D} {xs : List D} {P : D → Prop} : ow (dIx (.tup (x0 :: x1 :: x2 :: x3 :: x4 :: x5 :: x6 :: x7 :: xs)) (.int 7)) P ↔ P x7 := ow_of ix_tup7
theorem ow_ix_lst7 {x0 x1 x2 x3 x4 x5 x6 x7 : D} {xs : List D} {P : D → Prop} : ow (dIx (.lst (x0 :: x1 :: x2 :: x3 :: x4 :: x5 :: x6 :: x7 :: xs)) (.int 7)) P ↔ P x7 := ow_of ix_lst7
theorem ow_ix_tup8 {x0 x1 x2 x3 x4 x5 x6 x7 x8 : D} {xs : List D} {P : D → Prop} : ow (dIx (.tup (x0 :: x1 :: x2 :: x3 :: x4 :: x5 :: x6 :: x7 :: x8 :: xs)) (.int 8)) P ↔ P x8 := ow_of ix_tup8
theorem ow_ix_lst8 {x0 x1 x2 x3 x4 x5 x6 x7 x8 : D} {xs : List D} {P : D → Prop} : ow (dIx (.lst (x0 :: x1 :: x2 :: x3 :: x4 :: x5 :: x6 :: x7 :: x8 :: xs)) (.int 8)) P ↔ P x8 := ow_of ix_lst8
theorem ow_ix_tup9 {x0 x1 x2 x3 x4 x5 x6 x7 x8 x9 : D} {xs : List D} {P : D → Prop} : ow (dIx (.tup (x0 :: x1 :: x2 :: x3 :: x4 :: x5 :: x6 :: x7 :: x8 :: x9 :: xs)) (.int 9)) P ↔ P x9 := ow_of ix_tup9
theorem ow_ix_lst9 {x0 x1 x2 x3 x4 x5 x6 x7 x8 x9 : D} {xs : List D} {P : D → Prop} : ow (dIx (.lst (x0 :: x1 :: x2 :: x3 :: x4 :: x5 :: x6 :: x7 :: x8 :: x9 :: xs)) (.int 9)) P ↔ P x9 := ow_of ix_lst9
theorem ow_ix_tup10 {x0 x1 x2 x3 x4 x5 x6 x7 x8 x9 x10 : D} {xs : List D} {P : D → Prop} : ow (dIx (.tup (x0 :: x1 :: x2 :: x3 :: x4 :: x5 :: x6 :: x7 :: x8 :: x9 :: x10 :: xs)) (.int 10)) P ↔ P x10 := ow_of ix_tup10
theorem ow_ix_lst10 {x0 x1 x2 x3 x4 x5 x6 x7 x8 x9 x10 : D} {xs : List D} {P : D → Prop} : ow (dIx (.lst (x0 :: x1 :: x2 :: x3 :: x4 :: x5 :: x6 :: x7 :: x8 :: x9 :: x10 :: xs)) (.int 10)) P ↔ P x10 := ow_of ix_lst10
theorem ow_ix_tup11 {x0 x1 x2 x3 x4 x5 x6 x7 x8 x9 x10 x11 : D} {xs : List D} {P : D → Prop} : ow (dIx (.tup (x0 :: x1 :: x2 :: x3 :: x4 :: x5 :: x6 :: x7 :: x8 :: x9 :: x10 :: x11 :: xs)) (.int 11)) P ↔ P x11 := ow_of ix_tup11
theorem ow_ix_lst11 {x0 x1 x2 x3 x4 x5 x6 x7 x8 x9 x10 x11 : D} {xs : List D} {P : D → Prop} : ow (dIx (.lst (x0 :: x1 :: x2 :: x3 :: x4 :: x5 :: x6 :: x7 :: x8 :: x9 :: x10 :: x11 :: xs)) (.int 11)) P ↔ P x11 := ow_of ix_lst11

/-! ### what sort of value -/
section
variable {P : D → Prop} {xs : List D} {a : Int} {b : Bool} {s : Str}
theorem isi_tt : ow (dIsi "tuple" (.tup xs)) P ↔ P (.bl true) := ow_of (by rfl)
theorem isi_it : ow (dIsi "int" (.tup xs)) P ↔ P (.bl false) := ow_of (by rfl)
theorem isi_bt : ow (dIsi "bool" (.tup xs)) P ↔ P (.bl false) := ow_of (by rfl)
theorem isi_ti : ow (dIsi "tuple" (.int a)) P ↔ P (.bl false) := ow_of (by rfl)
theorem isi_ii : ow (dIsi "int" (.int a)) P ↔ P (.bl true) := ow_of (by rfl)
theorem isi_bi : ow (dIsi "bool" (.int a)) P ↔ P (.bl false) := ow_of (by rfl)
theorem isi_tn : ow (dIsi "tuple" .non) P ↔ P (.bl false) := ow_of (by rfl)
theorem isi_in : ow (dIsi "int" .non) P ↔ P (.bl false) := ow_of (by rfl)
theorem isi_bn : ow (dIsi "bool" .non) P ↔ P (.bl false) := ow_of (by rfl)
theorem isi_tl : ow (dIsi "tuple" (.lst xs)) P ↔ P (.bl false) := ow_of (by rfl)
theorem isi_il : ow (dIsi "int" (.lst xs)) P ↔ P (.bl false) := ow_of (by rfl)
theorem isi_bl : ow (dIsi "bool" (.lst xs)) P ↔ P (.bl false) := ow_of (by rfl)
theorem isi_tb : ow (dIsi "tuple" (.bl b)) P ↔ P (.bl false) := ow_of (by rfl)
theorem isi_ib : ow (dIsi "int" (.bl b)) P ↔ P (.bl true) := ow_of (by rfl)
theorem isi_bb : ow (dIsi "bool" (.bl b)) P ↔ P (.bl true) := ow_of (by rfl)
theorem isi_ts : ow (dIsi "tuple" (.str s)) P ↔ P (.bl false) := ow_of (by rfl)
theorem isi_is : ow (dIsi "int" (.str s)) P ↔ P (.bl false) := ow_of (by rfl)
theorem isi_bs : ow (dIsi "bool" (.str s)) P ↔ P (.bl false) := ow_of (by rfl)
end
end PV

namespace PV
open PySem PySem.Spec PyProof.Rows L2

/-! ### fractions -/
def Fr (q : Rat) : D := .tup [.int q.num, .int (q.den : Int)]
/-- numerator and denominator below 2 ^ b -/
class Bd (b : outParam Nat) (q : Rat) : Prop where
  n : q.num.natAbs < 2 ^ b
  d : q.den < 2 ^ b
theorem Bd.pos {b : Nat} {q : Rat} (h : Bd b q) : 1 ≤ b := by
  have h1 := h.d
  have h2 := q.den_pos
  rcases b with _ | b
  · simp at h1; omega
  · omega
theorem Bd.mono {a b : Nat} {q : Rat} (h : Bd a q) (l : a ≤ b) : Bd b q :=
  ⟨Nat.lt_of_lt_of_le h.n (Nat.pow_le_pow_right (by decide) l), Nat.lt_of_lt_of_le h.d (Nat.pow_le_pow_right (by decide) l)⟩
theorem natAbs_ediv_le (a : Int) (b : Nat) : (a / (b : Int)).natAbs ≤ a.natAbs := Int.natAbs_ediv_le_natAbs a b
theorem pow_add2 (a b : Nat) : 2 ^ (a + b) = 2 ^ a * 2 ^ b := Nat.pow_add 2 a b
theorem mul_lt2 {x y a b : Nat} (h1 : x < 2 ^ a) (h2 : y < 2 ^ b) : x * y < 2 ^ (a + b) := by
  rw [pow_add2]
  exact Nat.mul_lt_mul'' h1 h2
instance Bd.mul {a b : Nat} {p q : Rat} [h : Bd a p] [h2 : Bd b q] : Bd (a + b) (p * q) := by
  refine ⟨?_, ?_⟩
  · rw [Rat.num_mul]
    refine Nat.lt_of_le_of_lt (natAbs_ediv_le _ _) ?_
    rw [Int.natAbs_mul]
    exact mul_lt2 h.n h2.n
  · rw [Rat.den_mul]
    exact Nat.lt_of_le_of_lt (Nat.div_le_self _ _) (mul_lt2 h.d h2.d)
instance Bd.add {a b : Nat} {p q : Rat} [h : Bd a p] [h2 : Bd b q] : Bd (a + b + 1) (p + q) := by
  have e : 2 ^ (a + b + 1) = 2 ^ (a + b) + 2 ^ (a + b) := by rw [Nat.pow_succ]; omega
  refine ⟨?_, ?_⟩
  · rw [Rat.num_add]
    refine Nat.lt_of_le_of_lt (natAbs_ediv_le _ _) ?_
    have h3 := Int.natAbs_add_le (p.num * q.den) (q.num * p.den)
    rw [Int.natAbs_mul, Int.natAbs_mul, Int.natAbs_natCast, Int.natAbs_natCast] at h3
    have h4 := mul_lt2 h.n h2.d
    have h5 := mul_lt2 h2.n h.d
    rw [Nat.add_comm b a] at h5
    omega
  · rw [Rat.den_add]
    exact Nat.lt_of_lt_of_le (Nat.lt_of_le_of_lt (Nat.div_le_self (p.den * q.den) ((p.num * q.den + q.num * p.den).natAbs.gcd (p.den * q.den))) (mul_lt2 h.d h2.d)) (by rw [e]; exact Nat.le_add_left _ _)
instance Bd.neg {a : Nat} {p : Rat} [h : Bd a p] : Bd a (-p) := ⟨by rw [Rat.neg_num, Int.natAbs_neg]; exact h.n, by rw [Rat.neg_den]; exact h.d⟩
instance Bd.sub {a b : Nat} {p q : Rat} [h : Bd a p] [h2 : Bd b q] : Bd (a + b + 1) (p - q) := by
  rw [Rat.sub_eq_add_neg]; exact Bd.add
instance Bd.inv {a : Nat} {p : Rat} [h : Bd a p] : Bd a p⁻¹ := by
  have h1 := h.pos
  refine ⟨?_, ?_⟩
  · rw [Rat.num_inv]
    rw [Int.natAbs_mul, Int.natAbs_natCast]
    have h3 : p.num.sign.natAbs ≤ 1 := by
      rcases Int.lt_trichotomy p.num 0 with z | z | z
      · rw [Int.sign_eq_neg_one_of_neg z]; decide
      · rw [z]; decide
      · rw [Int.sign_eq_one_of_pos z]; decide
    have h4 := Nat.mul_le_mul_right p.den h3
    have h5 := h.d
    omega
  · rw [Rat.den_inv]
    split
    · exact Nat.one_lt_two_pow (by omega)
    · exact h.n
instance Bd.div {a b : Nat} {p q : Rat} [h : Bd a p] [h2 : Bd b q] : Bd (a + b) (p / q) := by
  rw [Rat.div_def]; exact Bd.mul
instance Bd.lit {n : Nat} : Bd (n.log2 + 1) (no_index (OfNat.ofNat n : Rat)) := ⟨by
  show (n : Int).natAbs < _
  rw [Int.natAbs_natCast]
  exact Nat.lt_log2_self, by
  show 1 < _
  exact Nat.one_lt_two_pow (by omega)⟩
instance (priority := high) : Bd 1 (0 : Rat) := ⟨by decide, by decide⟩
instance (priority := high) : Bd 1 (1 : Rat) := ⟨by decide, by decide⟩
instance (priority := high) : Bd 2 (2 : Rat) := ⟨by decide, by decide⟩
instance (priority := high) : Bd 2 (3 : Rat) := ⟨by decide, by decide⟩
instance (priority := high) : Bd 3 (4 : Rat) := ⟨by decide, by decide⟩
instance (priority := high) : Bd 3 (5 : Rat) := ⟨by decide, by decide⟩
instance (priority := high) : Bd 3 (6 : Rat) := ⟨by decide, by decide⟩
instance (priority := high) : Bd 3 (7 : Rat) := ⟨by decide, by decide⟩
instance (priority := high) : Bd 4 (8 : Rat) := ⟨by decide, by decide⟩
instance (priority := high) : Bd 4 (9 : Rat) := ⟨by decide, by decide⟩
instance (priority := high) : Bd 4 (10 : Rat) := ⟨by decide, by decide⟩
instance (priority := high) : Bd 4 (12 : Rat) := ⟨by decide, by decide⟩
instance (priority := high) : Bd 5 (16 : Rat) := ⟨by decide, by decide⟩
theorem Bd.int {n : Int} {b : Nat} (h : n.natAbs < 2 ^ b) (hb : 1 ≤ b) : Bd b (n : Rat) := ⟨h, Nat.one_lt_two_pow (by omega)⟩
instance {q : Rat} : Eqb 1 (Fr q) := ⟨rfl⟩
instance {b : Nat} {q : Rat} [h : Bd b q] : Shw (2 + 8000 * (b / 1901)) (Fr q) := ⟨fun l => by
  have hb : b ≤ 1900 := by omega
  have h1 : ∀ {x : Int}, x.natAbs < 2 ^ b → PyData.showable (.int x) = true := fun {x} hx => by
    show decide (x.natAbs.log2 < 1920) = true
    rw [decide_eq_true_eq]
    by_cases h0 : x.natAbs = 0
    · rw [h0]; decide
    · have := (Nat.log2_lt h0).mpr hx
      omega
  refine ⟨?_, Nat.le_add_right 2 _⟩
  show (PyData.showable (.int q.num) && (PyData.showable (.int (q.den : Int)) && true)) = true
  rw [h1 h.n, h1 (by rw [Int.natAbs_natCast]; exact h.d)]; rfl⟩
theorem eqD_R {p q : Rat} : eqD (Fr p) (Fr q) = decide (p = q) := by
  show (p.num == q.num && ((p.den : Int) == (q.den : Int) && true)) = _
  rw [Bool.eq_iff_iff]
  simp only [Bool.and_eq_true, beq_iff_eq, Bool.and_true, decide_eq_true_eq]
  exact ⟨fun ⟨a, b⟩ => Rat.ext a (by omega), fun e => by rw [e]; exact ⟨rfl, rfl⟩⟩
theorem eqD_R_non {p : Rat} : eqD (Fr p) .non = false := rfl
theorem eqD_non_R {p : Rat} : eqD .non (Fr p) = false := rfl
theorem R_inj {p q : Rat} : Fr p = Fr q ↔ p = q := by
  unfold Fr
  constructor
  · intro h
    simp at h
    exact Rat.ext h.1 (by omega)
  · intro h; rw [h]
theorem isNon_R {p : Rat} : isNon (Fr p) = false := rfl
section
variable {P : D → Prop} {q : Rat}
theorem ow_R0 : ow (dIx (Fr q) (.int 0)) P ↔ P (.int q.num) := ow_of ix_tup0
theorem ow_R1 : ow (dIx (Fr q) (.int 1)) P ↔ P (.int (q.den : Int)) := ow_of ix_tup1
theorem ow_len_R : ow (dLen [Fr q]) P ↔ P (.int 2) := ow_some
theorem isi_tR : ow (dIsi "tuple" (Fr q)) P ↔ P (.bl true) := isi_tt
theorem isi_iR : ow (dIsi "int" (Fr q)) P ↔ P (.bl false) := isi_it
theorem isi_bR : ow (dIsi "bool" (Fr q)) P ↔ P (.bl false) := isi_bt
theorem ow_items_R {P : List D → Prop} : ow (D.items? (Fr q)) P ↔ P [.int q.num, .int (q.den : Int)] := ow_some
end
theorem setAt_nat {d : D} {ds : List D} {n : Nat} (h : n < ds.length) : setAt (.int (n : Int)) d ds = some ((), ds.set n d) := by
  unfold setAt ixN
  show (if (0 : Int) ≤ (n : Int) then (if (n : Int) < (ds.length : Int) then some (n : Int).toNat else none) else _).map _ = _
  rw [if_pos (by omega), if_pos (by omega)]
  rfl
theorem ow_setAt0 {x0 d : D} {xs : List D} {P : Unit × List D → Prop} : ow (setAt (.int 0) d (x0 :: xs)) P ↔ P ((), d :: xs) := ow_of (setAt_nat (n := 0) (by simp only [List.length_cons]; omega))
theorem ow_setAt1 {x0 x1 d : D} {xs : List D} {P : Unit × List D → Prop} : ow (setAt (.int 1) d (x0 :: x1 :: xs)) P ↔ P ((), x0 :: d :: xs) := ow_of (setAt_nat (n := 1) (by simp only [List.length_cons]; omega))
theorem ow_setAt2 {x0 x1 x2 d : D} {xs : List D} {P : Unit × List D → Prop} : ow (setAt (.int 2) d (x0 :: x1 :: x2 :: xs)) P ↔ P ((), x0 :: x1 :: d :: xs) := ow_of (setAt_nat (n := 2) (by simp only [List.length_cons]; omega))
theorem ow_setAt3 {x0 x1 x2 x3 d : D} {xs : List D} {P : Unit × List D → Prop} : ow (setAt (.int 3) d (x0 :: x1 :: x2 :: x3 :: xs)) P ↔ P ((), x0 :: x1 :: x2 :: d :: xs) := ow_of (setAt_nat (n := 3) (by simp only [List.length_cons]; omega))
theorem ow_setAt4 {x0 x1 x2 x3 x4 d : D} {xs : List D} {P : Unit × List D → Prop} : ow (setAt (.int 4) d (x0 :: x1 :: x2 :: x3 :: x4 :: xs)) P ↔ P ((), x0 :: x1 :: x2 :: x3 :: d :: xs) := ow_of (setAt_nat (n := 4) (by simp only [List.length_cons]; omega))
theorem ow_setAt5 {x0 x1 x2 x3 x4 x5 d : D} {xs : List D} {P : Unit × List D → Prop} : ow (setAt (.int 5) d (x0 :: x1 :: x2 :: x3 :: x4 :: x5 :: xs)) P ↔ P ((), x0 :: x1 :: x2 :: x3 :: x4 :: d :: xs) := ow_of (setAt_nat (n := 5) (by simp only [List.length_cons]; omega))
theorem ex_int {a : Int} {P : Int → Prop} : (∃ k, D.int a = D.int k ∧ P k) ↔ P a := ⟨fun ⟨k, e, q⟩ => by cases e; exact q, fun q => ⟨a, rfl, q⟩⟩
theorem seq_cut {F G : M Fl} {ρ : En} {Q : Fl → En → Prop} (I : En → Prop) (h1 : wp F ρ fun fl r => fl = .nx ∧ I r) (h2 : ∀ r, I r → wp G r Q) : wp (mSeq F G) ρ Q := by
  rw [wp_seq]
  refine wp_mono h1 fun fl r q => ?_
  obtain ⟨rfl, q⟩ := q
  exact h2 r q
def pk (o : Option D) (xs : List D) : List D := match o with
  | some d => d :: xs
  | none => xs
theorem pk_some {d : D} {xs : List D} : pk (some d) xs = d :: xs := rfl
theorem pick_nil {xs : List D} : pick [] xs = [] := rfl
theorem pick_cons {i : Nat} {ix : List Nat} {xs : List D} : pick (i :: ix) xs = pk xs[i]? (pick ix xs) := by
  show (i :: ix).filterMap (xs[·]?) = _
  cases h : xs[i]? with
  | none => exact List.filterMap_cons_none h
  | some d => exact List.filterMap_cons_some h
theorem kwOf_eq {a b : Nat} {ix : List Nat} {us ws : List D} : kwOf a b ix us ws = if us.length = a ∧ ws.length = b then pick ix (us ++ ws) else [] := rfl
theorem ow_rep {xs : List D} {k : Int} {P : D → Prop} : ow (dMul (.lst xs) (.int k)) P ↔ (xs.length ≤ 300 ∧ 0 ≤ k ∧ k ≤ 300) ∧ P (.lst (List.replicate k.toNat xs).flatten) := by
  unfold dMul; rw [ow_ite, ow_some]
theorem R_zero : (.tup [.int 0, .int 1] : D) = Fr 0 := rfl
theorem R_one : (.tup [.int 1, .int 1] : D) = Fr 1 := rfl
theorem R_neg_one : (.tup [.int (-1), .int 1] : D) = Fr (-1) := rfl
theorem R_two : (.tup [.int 2, .int 1] : D) = Fr 2 := rfl
/-! ### room for products -/
theorem mulOk_of {i j : Int} {a b : Nat} (h1 : i.natAbs < 2 ^ a) (h2 : j.natAbs < 2 ^ b) (h : a + b < 1000000) : mulOk i j = true := by
  unfold mulOk
  rw [decide_eq_true_eq]
  have k : ∀ {n c : Nat}, n < 2 ^ c → n.log2 ≤ c := fun {n c} z => by
    by_cases h0 : n = 0
    · rw [h0]; exact Nat.zero_le _
    · exact Nat.le_of_lt ((Nat.log2_lt h0).mpr z)
  have := k h1
  have := k h2
  omega
theorem divOk_of {j : Int} {a : Nat} (h0 : j ≠ 0) (h1 : j.natAbs < 2 ^ a) (h : a ≤ 9000) : divOk j = true := by
  unfold divOk
  rw [decide_eq_true_eq]
  have := (Nat.log2_lt (n := j.natAbs) (by omega)).mpr h1
  exact ⟨h0, by omega⟩
/-- the fraction of two whole numbers -/
theorem fdiv_num {n m : Int} (hm : m ≠ 0) : n.fdiv (if 0 < m then (Int.gcd n m : Int) else -(Int.gcd n m : Int)) = (Rat.divInt n m).num ∧ m.fdiv (if 0 < m then (Int.gcd n m : Int) else -(Int.gcd n m : Int)) = ((Rat.divInt n m).den : Int) := by
  have hg : (0 : Int) < (Int.gcd n m : Int) := by
    have := Int.gcd_pos_of_ne_zero_right n hm
    omega
  have hn1 : (Int.gcd n m : Int) ∣ n := Int.gcd_dvd_left ..
  have hm1 : (Int.gcd n m : Int) ∣ m := Int.gcd_dvd_right ..
  rw [Rat.num_divInt, Rat.den_divInt, if_neg hm, Int.gcd_comm m n]
  generalize (Int.gcd n m : Nat) = g at *
  obtain ⟨n', rfl⟩ := hn1
  obtain ⟨m', rfl⟩ := hm1
  have g0 : (g : Int) ≠ 0 := by omega
  have gN : 0 < g := by omega
  split
  · rename_i hp
    have hp' : 0 < m' := by
      rcases Int.lt_trichotomy m' 0 with z | z | z
      · have := Int.mul_neg_of_pos_of_neg hg z; omega
      · subst z; simp at hm
      · exact z
    rw [Int.mul_fdiv_cancel_left _ g0, Int.mul_fdiv_cancel_left _ g0, Int.sign_eq_one_of_pos hp, Int.one_mul, Int.mul_ediv_cancel_left _ g0, Int.natAbs_mul, Int.natAbs_natCast, Nat.mul_div_cancel_left _ gN]
    exact ⟨rfl, by omega⟩
  · rename_i hp
    have hp2 : (g : Int) * m' < 0 := by omega
    have hp' : m' < 0 := by
      rcases Int.lt_trichotomy m' 0 with z | z | z
      · exact z
      · subst z; simp at hm
      · have := Int.mul_pos hg z; omega
    have e1 : ∀ x : Int, (g : Int) * x = (-(g : Int)) * (-x) := fun x => by rw [Int.neg_mul_neg]
    have g1 : (-(g : Int)) ≠ 0 := by omega
    rw [e1 n', Int.mul_fdiv_cancel_left _ g1, ← e1 n', e1 m', Int.mul_fdiv_cancel_left _ g1, ← e1 m', Int.sign_eq_neg_one_of_neg hp2, Int.natAbs_mul, Int.natAbs_natCast, Nat.mul_div_cancel_left _ gN]
    refine ⟨?_, by omega⟩
    rw [show (-1 : Int) * ((g : Int) * n') = (g : Int) * (-n') by rw [Int.mul_neg]; omega, Int.mul_ediv_cancel_left _ g0]
theorem divInt_R {n m : Int} (hm : m ≠ 0) : (D.tup [.int (n.fdiv (if 0 < m then (Int.gcd n m : Int) else -(Int.gcd n m : Int))), .int (m.fdiv (if 0 < m then (Int.gcd n m : Int) else -(Int.gcd n m : Int)))]) = Fr (Rat.divInt n m) := by
  rw [(fdiv_num hm).1, (fdiv_num hm).2]; rfl
theorem add_divInt (p q : Rat) : Rat.divInt (p.num * q.den + q.num * p.den) (p.den * q.den) = p + q := by
  rw [Rat.add_def', ← Rat.divInt_ofNat]
  rw [Int.natCast_mul]
theorem sub_divInt (p q : Rat) : Rat.divInt (p.num * q.den - q.num * p.den) (p.den * q.den) = p - q := by
  rw [Rat.sub_def', ← Rat.divInt_ofNat]
  rw [Int.natCast_mul]
theorem mul_divInt (p q : Rat) : Rat.divInt (p.num * q.num) (p.den * q.den) = p * q := by
  rw [Rat.mul_def', ← Rat.divInt_ofNat]
  rw [Int.natCast_mul]
theorem div_divInt (p q : Rat) : Rat.divInt (p.num * q.den) (p.den * q.num) = p / q := by
  have h := Rat.divInt_mul_divInt p.num (q.den : Int) (d₁ := (p.den : Int)) (d₂ := q.num)
  rw [← h, Rat.num_divInt_den, ← Rat.inv_def]; rfl
theorem num_ne {q : Rat} (h : q ≠ 0) : q.num ≠ 0 := fun z => h (Rat.num_eq_zero.mp z)
end PV

namespace PV
open PySem PySem.Spec PyProof.Rows L2

/-! ### calls of defs, whole -/
theorem finE_vals : ∀ {ds : List D} {r : En}, finE (ds.map .val) r = if ds.length ≤ r.length then some (ds.map .val) else none
  | [], r => by simp [finE]
  | d :: ds, [] => rfl
  | d :: ds, s :: r => by
    show (finE (ds.map .val) r).map (Sl.val d :: ·) = _
    rw [finE_vals]
    by_cases h : ds.length ≤ r.length
    · rw [if_pos h, if_pos (by simp only [List.length_cons]; omega)]; rfl
    · rw [if_neg h, if_neg (by simp only [List.length_cons]; omega)]; rfl
theorem ownsIn_vals {fx : List Nat} {ds : List D} : ownsIn fx (ds.map .val) = true := by
  unfold ownsIn
  rw [List.all_eq_true]
  intro i hi
  have : isOwn (ds.map .val) i = false := by
    unfold isOwn
    rw [List.getElem?_map]
    cases ds[i]? <;> rfl
  rw [this]; rfl
theorem ownsIn_own {L : List D} {ds : List D} : ownsIn [0] (.own L :: ds.map .val) = true := by
  unfold ownsIn
  rw [List.all_eq_true]
  intro i hi
  cases i with
  | zero => rw [Bool.or_eq_true]; exact .inr rfl
  | succ i =>
    have : isOwn (.own L :: ds.map .val) (i + 1) = false := by
      unfold isOwn
      rw [List.getElem?_cons_succ, List.getElem?_map]
      cases ds[i]? <;> rfl
    rw [this]; rfl
theorem ow_ite2 {α : Type} {c : Prop} [Decidable c] {a : α} {P : α → Prop} : ow (if c then some a else none) P ↔ c ∧ P a := by
  rw [ow_ite, ow_some]
section
variable {n m i : Nat} {fx : List Nat} {F : M Fl} {ds : List D} {ρ : En} {Q : D → En → Prop} {QL : List D → En → Prop}
theorem wp_V : wp (callV n (fnB fx n m (asRet F)) ds) ρ Q ↔ ds.length = n ∧ wp F (ds.map .val ++ List.replicate m .no) fun fl r => retw fl fun d => n ≤ r.length ∧ Q d ρ := by
  rw [wp_callV]
  refine and_congr_right fun hl => ?_
  rw [wp_fnB, wp_asRet]
  constructor
  · rintro ⟨_, h⟩
    refine wp_mono h fun fl r q => ?_
    cases fl <;> first | exact q | (have q' := q; unfold retw at q' ⊢; dsimp only at q' ⊢; rw [finE_vals, ow_ite2, hl] at q'; exact q')
  · intro h
    refine ⟨⟨by rw [List.length_map]; exact hl, ownsIn_vals⟩, wp_mono h fun fl r q => ?_⟩
    cases fl <;> first | exact q | (have q' := q; unfold retw at q' ⊢; dsimp only at q' ⊢; rw [finE_vals, ow_ite2, hl]; exact q')
theorem wp_L : wp (callL n (fnB fx n m (asRetO F)) ds) ρ QL ↔ ds.length = n ∧ wp F (ds.map .val ++ List.replicate m .no) fun fl r => retOw fl fun d => n ≤ r.length ∧ QL d ρ := by
  rw [wp_callL]
  refine and_congr_right fun hl => ?_
  rw [wp_fnB, wp_asRetO]
  constructor
  · rintro ⟨_, h⟩
    refine wp_mono h fun fl r q => ?_
    cases fl <;> first | exact q | (have q' := q; unfold retOw at q' ⊢; dsimp only at q' ⊢; rw [finE_vals, ow_ite2, hl] at q'; exact q')
  · intro h
    refine ⟨⟨by rw [List.length_map]; exact hl, ownsIn_vals⟩, wp_mono h fun fl r q => ?_⟩
    cases fl <;> first | exact q | (have q' := q; unfold retOw at q' ⊢; dsimp only at q' ⊢; rw [finE_vals, ow_ite2, hl]; exact q')
/-- what is owned at the head, and what stands behind it -/
def ohn (n : Nat) (r : En) (P : List D → Prop) : Prop := match r with
  | .own L :: τ => n ≤ τ.length + 1 ∧ P L
  | _ => False
theorem ohn_mk {L : List D} {r : En} {P : List D → Prop} : ohn n (.own L :: r) P ↔ n ≤ r.length + 1 ∧ P L := Iff.rfl
theorem fin_own {L : List D} {r : En} {P : List D → Prop} (hl : ds.length + 1 = n) : (ow (finE (.own L :: ds.map .val) r) fun q => ohw q P) ↔ ohn n r P := by
  cases r with
  | nil => exact ⟨fun ⟨_, e, _⟩ => (nomatch e), False.elim⟩
  | cons s r =>
    cases s with
    | no => exact ⟨fun ⟨_, e, _⟩ => (nomatch e), False.elim⟩
    | val d => exact ⟨fun ⟨_, e, _⟩ => (nomatch e), False.elim⟩
    | own L' =>
      show (ow ((finE (ds.map .val) r).map (Sl.own L' :: ·)) fun q => ohw q P) ↔ _
      rw [finE_vals, ohn_mk]
      by_cases h : ds.length ≤ r.length
      · rw [if_pos h]
        exact ow_some.trans ⟨fun q => ⟨by omega, q⟩, fun q => q.2⟩
      · rw [if_neg h]
        exact ⟨fun ⟨_, e, _⟩ => (nomatch e), fun q => absurd q.1 (by omega)⟩
theorem wp_O : wp (callO n (fnB [0] n m (asRet F)) i ds) ρ Q ↔ ownw ρ[i]? fun L => ds.length + 1 = n ∧ wp F (.own L :: (ds.map .val ++ List.replicate m .no)) fun fl r => retw fl fun d => ohn n r fun L' => Q d (ρ.set i (.own L')) := by
  rw [wp_callO]
  simp only [ownw_iff]
  refine exists_congr fun L => and_congr_right fun _ => and_congr_right fun hl => ?_
  rw [wp_fnB, wp_asRet]
  constructor
  · rintro ⟨_, h⟩
    refine wp_mono h fun fl r q => ?_
    cases fl <;> first | exact q | exact (fin_own hl).mp q
  · intro h
    refine ⟨⟨by rw [List.length_cons, List.length_map]; exact hl, ownsIn_own⟩, wp_mono h fun fl r q => ?_⟩
    cases fl <;> first | exact q | exact (fin_own hl).mpr q
theorem wp_N {L : List D} : wp (callN 1 (fnB [0] 1 m (asRet F)) L) ρ Q ↔ wp F (.own L :: List.replicate m .no) fun fl r => retw fl fun d => ohn 1 r fun _ => Q d ρ := by
  have e := fun (P : List D → Prop) (r : En) => fin_own (n := 1) (ds := []) (L := L) (r := r) (P := P) rfl
  rw [wp_callN, wp_fnB, wp_asRet]
  constructor
  · rintro ⟨_, _, h⟩
    refine wp_mono h fun fl r q => ?_
    have k : ∀ d, (ow (finE [.own L] r) fun _ => Q d ρ) → ohn 1 r fun _ => Q d ρ := fun d ⟨z, e1, q⟩ => (e (fun _ => Q d ρ) r).mp ⟨z, e1, by
      cases r with
      | nil => cases e1
      | cons s r =>
        cases s with
        | no => cases e1
        | val d => cases e1
        | own L' => cases e1; exact q⟩
    cases fl <;> first | exact q | exact k _ q
  · intro h
    refine ⟨rfl, ⟨rfl, rfl⟩, wp_mono h fun fl r q => ?_⟩
    have k : ∀ d, (ohn 1 r fun _ => Q d ρ) → ow (finE [.own L] r) fun _ => Q d ρ := fun d q => by
      obtain ⟨z, e1, q⟩ := (e (fun _ => Q d ρ) r).mpr q
      refine ⟨z, e1, ?_⟩
      cases r with
      | nil => cases e1
      | cons s r =>
        cases s with
        | no => cases e1
        | val d => cases e1
        | own L' => cases e1; exact q
    cases fl <;> first | exact q | exact k _ q
end
theorem kw_nil {ds : List D} : pick [] ds = [] := rfl
theorem kw_cons {i : Nat} {ix : List Nat} {ds : List D} {d : D} (h : ds[i]? = some d) : pick (i :: ix) ds = d :: pick ix ds := List.filterMap_cons_some h
theorem kwOf_def {a b : Nat} {ix : List Nat} {us ws : List D} : kwOf a b ix us ws = if us.length = a ∧ ws.length = b then pick ix (us ++ ws) else [] := rfl
end PV

namespace PV
open PySem PySem.Spec PyProof.Rows L2

/-! ### what waits: its wish is not looked into -/
structure Bx {α : Type} (Q : α → En → Prop) : Type where
  mk ::
def stk {α : Type} (x : M α) (ρ : En) (Q : α → En → Prop) (b : Bx Q) : Prop := wp x ρ Q
theorem stuck_O {n i : Nat} {F : M D} {ds : List D} {ρ : En} {Q : D → En → Prop} : wp (callO n F i ds) ρ Q ↔ stk (callO n F i ds) ρ Q ⟨⟩ := Iff.rfl
theorem stuck_W {t : M Bool} {b : M Fl} {ρ : En} {Q : Fl → En → Prop} : wp (mWhile t b) ρ Q ↔ stk (mWhile t b) ρ Q ⟨⟩ := Iff.rfl
/-! ### the same by places: rewriting at the head alone -/
def setw (r : En) (i : Nat) (s : Sl) (K : En → Prop) : Prop := i < r.length ∧ K (r.set i s)
def ownr (r : En) (i : Nat) (P : List D → Prop) : Prop := ownw r[i]? P
section
variable {ρ r : En} {Q : D → En → Prop} {QU : Unit → En → Prop} {QF : Fl → En → Prop} {QL : List D → En → Prop} {P : List D → Prop} {K : En → Prop} {i j l n m : Nat} {fa f : M D} {fl fi : M (List D)} {d : D} {s : Sl} {ds L es : List D} {t : M Bool} {F : M Fl}
theorem hp_set : wp (mSet i fa) ρ QF ↔ wp fa ρ fun d r => setw r i (.val d) fun r2 => QF .nx r2 := wp_set
theorem hp_own : wp (mOwn i fl) ρ QF ↔ wp fl ρ fun d r => setw r i (.own d) fun r2 => QF .nx r2 := wp_own
theorem hp_gN : wp (gN i d) ρ QU ↔ setw ρ i (.val d) fun r2 => QU () r2 := wp_gN
theorem hp_par : wp (mPar i j fl) ρ QF ↔ wp fl ρ fun ds r => l2w ds fun x y => setw r i (.val x) fun r2 => setw r2 j (.val y) fun r3 => QF .nx r3 := wp_par
theorem hp_par3 : wp (mPar3 i j l fl) ρ QF ↔ wp fl ρ fun ds r => l3w ds fun x y z => setw r i (.val x) fun r2 => setw r2 j (.val y) fun r3 => setw r3 l (.val z) fun r4 => QF .nx r4 := wp_par3
theorem hp_owned {α : Type} {x : M α} {Q : α → En → Prop} : wp (mOwned j x) ρ Q ↔ ownr ρ j fun _ => wp x ρ Q := by
  rw [wp_owned, ownr, ownw_iff, ownw_iff]
  exact ⟨fun ⟨⟨ds, e, _⟩, q⟩ => ⟨ds, e, q⟩, fun ⟨ds, e, q⟩ => ⟨⟨ds, e, trivial⟩, q⟩⟩
theorem hp_at {α : Type} {g : List D → Option (α × List D)} {Q : α → En → Prop} : wp (mAt j g) ρ Q ↔ ownr ρ j fun ds => ow (g ds) fun z => setw ρ j (.own z.2) fun r => Q z.1 r := by
  rw [wp_at, ownr, ownw_iff, ownw_iff]
  refine exists_congr fun ds => and_congr_right fun e => ?_
  have hl := (List.getElem?_eq_some_iff.mp e).1
  exact ⟨fun ⟨z, a, q⟩ => ⟨z, a, hl, q⟩, fun ⟨z, a, _, q⟩ => ⟨z, a, q⟩⟩
theorem hp_ixO : wp (mIxO j fa) ρ Q ↔ ownr ρ j fun _ => wp fa ρ fun k r => ownr r j fun ds => ow (dIx (.lst ds) k) fun d => Q d r := by
  rw [wp_ixO, ownr, ownw_iff, ownw_iff]
  exact ⟨fun ⟨⟨ds, e, _⟩, q⟩ => ⟨ds, e, q⟩, fun ⟨ds, e, q⟩ => ⟨⟨ds, e, trivial⟩, q⟩⟩
theorem hp_lenO : wp (mLenO j) ρ Q ↔ ownr ρ j fun ds => Q (.int ds.length) ρ := wp_lenO
theorem own_len {r : En} {P : List D → Prop} {j : Nat} {s : Sl} {K : List D → En → Prop} : (ownw r[j]? fun ds => K ds (r.set j s)) ↔ ownw r[j]? fun ds => setw r j s fun r2 => K ds r2 := by
  rw [ownw_iff, ownw_iff]
  refine exists_congr fun ds => and_congr_right fun e => ?_
  have hl := (List.getElem?_eq_some_iff.mp e).1
  exact ⟨fun q => ⟨hl, q⟩, fun q => q.2⟩
theorem hp_gSub : wp (gSub1 j fa d) ρ QU ↔ ownr ρ j fun _ => wp fa ρ fun k r => ownr r j fun ds => ow (setAt k d ds) fun z => setw r j (.own z.2) fun r2 => QU () r2 := by
  rw [wp_gSub, ownr, ownw_iff, ownw_iff]
  have key : (wp fa ρ fun k r => ownw r[j]? fun ds => ow (setAt k d ds) fun z => QU () (r.set j (.own z.2))) ↔ wp fa ρ fun k r => ownr r j fun ds => ow (setAt k d ds) fun z => setw r j (.own z.2) fun r2 => QU () r2 := by
    have h : ∀ k r, (ownw r[j]? fun ds => ow (setAt k d ds) fun z => QU () (r.set j (.own z.2))) ↔ ownr r j fun ds => ow (setAt k d ds) fun z => setw r j (.own z.2) fun r2 => QU () r2 := fun k r => by
      rw [ownr, ownw_iff, ownw_iff]
      refine exists_congr fun ds => and_congr_right fun e => ?_
      have hl := (List.getElem?_eq_some_iff.mp e).1
      exact ⟨fun ⟨z, a, q⟩ => ⟨z, a, hl, q⟩, fun ⟨z, a, _, q⟩ => ⟨z, a, q⟩⟩
    exact ⟨fun q => wp_mono q fun k r => (h k r).mp, fun q => wp_mono q fun k r => (h k r).mpr⟩
  rw [key]
  exact ⟨fun ⟨⟨ds, e, _⟩, q⟩ => ⟨ds, e, q⟩, fun ⟨ds, e, q⟩ => ⟨⟨ds, e, trivial⟩, q⟩⟩
theorem hp_app : wp (mApp j fa) ρ Q ↔ ownr ρ j fun _ => wp fa ρ fun d r => ownr r j fun ds => ds.length < 100000 ∧ setw r j (.own (ds ++ [d])) fun r2 => Q .non r2 := by
  rw [wp_app, ownr, ownw_iff, ownw_iff]
  have h : ∀ d r, (ownw r[j]? fun ds => ds.length < 100000 ∧ Q .non (r.set j (.own (ds ++ [d])))) ↔ ownr r j fun ds => ds.length < 100000 ∧ setw r j (.own (ds ++ [d])) fun r2 => Q .non r2 := fun d r => by
    rw [ownr, ownw_iff, ownw_iff]
    refine exists_congr fun ds => and_congr_right fun e => ?_
    have hl := (List.getElem?_eq_some_iff.mp e).1
    exact ⟨fun ⟨a, q⟩ => ⟨a, hl, q⟩, fun ⟨a, _, q⟩ => ⟨a, q⟩⟩
  have key : (wp fa ρ fun d r => ownw r[j]? fun ds => ds.length < 100000 ∧ Q .non (r.set j (.own (ds ++ [d])))) ↔ wp fa ρ fun d r => ownr r j fun ds => ds.length < 100000 ∧ setw r j (.own (ds ++ [d])) fun r2 => Q .non r2 := ⟨fun q => wp_mono q fun k r => (h k r).mp, fun q => wp_mono q fun k r => (h k r).mpr⟩
  rw [key]
  exact ⟨fun ⟨⟨ds, e, _⟩, q⟩ => ⟨ds, e, q⟩, fun ⟨ds, e, q⟩ => ⟨⟨ds, e, trivial⟩, q⟩⟩
theorem hv0 : wp (dVar 0) (.val d :: r) Q ↔ Q d (.val d :: r) := wp_of rfl
theorem ho0 : wp (dVar 0) (.own ds :: r) Q ↔ Q (.lst ds) (.val (.lst ds) :: r) := wp_of rfl
theorem hs0 {x : Sl} : setw (x :: r) 0 s K ↔ K (s :: r) := ⟨fun q => q.2, fun q => ⟨by simp only [List.length_cons]; omega, q⟩⟩
theorem hr0 : ownr (.own L :: r) 0 P ↔ P L := Iff.rfl
theorem hv1 {x0 : Sl} : wp (dVar 1) (x0 :: .val d :: r) Q ↔ Q d (x0 :: .val d :: r) := wp_of rfl
theorem ho1 {x0 : Sl} : wp (dVar 1) (x0 :: .own ds :: r) Q ↔ Q (.lst ds) (x0 :: .val (.lst ds) :: r) := wp_of rfl
theorem hs1 {x0 x : Sl} : setw (x0 :: x :: r) 1 s K ↔ K (x0 :: s :: r) := ⟨fun q => q.2, fun q => ⟨by simp only [List.length_cons]; omega, q⟩⟩
theorem hr1 {x0 : Sl} : ownr (x0 :: .own L :: r) 1 P ↔ P L := Iff.rfl
theorem hv2 {x0 x1 : Sl} : wp (dVar 2) (x0 :: x1 :: .val d :: r) Q ↔ Q d (x0 :: x1 :: .val d :: r) := wp_of rfl
theorem ho2 {x0 x1 : Sl} : wp (dVar 2) (x0 :: x1 :: .own ds :: r) Q ↔ Q (.lst ds) (x0 :: x1 :: .val (.lst ds) :: r) := wp_of rfl
theorem hs2 {x0 x1 x : Sl} : setw (x0 :: x1 :: x :: r) 2 s K ↔ K (x0 :: x1 :: s :: r) := ⟨fun q => q.2, fun q => ⟨by simp only [List.length_cons]; omega, q⟩⟩
theorem hr2 {x0 x1 : Sl} : ownr (x0 :: x1 :: .own L :: r) 2 P ↔ P L := Iff.rfl
theorem hv3 {x0 x1 x2 : Sl} : wp (dVar 3) (x0 :: x1 :: x2 :: .val d :: r) Q ↔ Q d (x0 :: x1 :: x2 :: .val d :: r) := wp_of rfl
theorem ho3 {x0 x1 x2 : Sl} : wp (dVar 3) (x0 :: x1 :: x2 :: .own ds :: r) Q ↔ Q (.lst ds) (x0 :: x1 :: x2 :: .val (.lst ds) :: r) := wp_of rfl
theorem hs3 {x0 x1 x2 x : Sl} : setw (x0 :: x1 :: x2 :: x :: r) 3 s K ↔ K (x0 :: x1 :: x2 :: s :: r) := ⟨fun q => q.2, fun q => ⟨by simp only [List.length_cons]; omega, q⟩⟩
theorem hr3 {x0 x1 x2 : Sl} : ownr (x0 :: x1 :: x2 :: .own L :: r) 3 P ↔ P L := Iff.rfl
theorem hv4 {x0 x1 x2 x3 : Sl} : wp (dVar 4) (x0 :: x1 :: x2 :: x3 :: .val d :: r) Q ↔ Q d (x0 :: x1 :: x2 :: x3 :: .val d :: r) := wp_of rfl
theorem ho4 {x0 x1 x2 x3 : Sl} : wp (dVar 4) (x0 :: x1 :: x2 :: x3 :: .own ds :: r) Q ↔ Q (.lst ds) (x0 :: x1 :: x2 :: x3 :: .val (.lst ds) :: r) := wp_of rfl
theorem hs4 {x0 x1 x2 x3 x : Sl} : setw (x0 :: x1 :: x2 :: x3 :: x :: r) 4 s K ↔ K (x0 :: x1 :: x2 :: x3 :: s :: r) := ⟨fun q => q.2, fun q => ⟨by simp only [List.length_cons]; omega, q⟩⟩
theorem hr4 {x0 x1 x2 x3 : Sl} : ownr (x0 :: x1 :: x2 :: x3 :: .own L :: r) 4 P ↔ P L := Iff.rfl
theorem hv5 {x0 x1 x2 x3 x4 : Sl} : wp (dVar 5) (x0 :: x1 :: x2 :: x3 :: x4 :: .val d :: r) Q ↔ Q d (x0 :: x1 :: x2 :: x3 :: x4 :: .val d :: r) := wp_of rfl
theorem ho5 {x0 x1 x2 x3 x4 : Sl} : wp (dVar 5) (x0 :: x1 :: x2 :: x3 :: x4 :: .own ds :: r) Q ↔ Q (.lst ds) (x0 :: x1 :: x2 :: x3 :: x4 :: .val (.lst ds) :: r) := wp_of rfl
theorem hs5 {x0 x1 x2 x3 x4 x : Sl} : setw (x0 :: x1 :: x2 :: x3 :: x4 :: x :: r) 5 s K ↔ K (x0 :: x1 :: x2 :: x3 :: x4 :: s :: r) := ⟨fun q => q.2, fun q => ⟨by simp only [List.length_cons]; omega, q⟩⟩
theorem hr5 {x0 x1 x2 x3 x4 : Sl} : ownr (x0 :: x1 :: x2 :: x3 :: x4 :: .own L :: r) 5 P ↔ P L := Iff.rfl
theorem hv6 {x0 x1 x2 x3 x4 x5 : Sl} : wp (dVar 6) (x0 :: x1 :: x2 :: x3 :: x4 :: x5 :: .val d :: r) Q ↔ Q d (x0 :: x1 :: x2 :: x3 :: x4 :: x5 :: .val d :: r) := wp_of rfl
theorem ho6 {x0 x1 x2 x3 x4 x5 : Sl} : wp (dVar 6) (x0 :: x1 :: x2 :: x3 :: x4 :: x5 :: .own ds :: r) Q ↔ Q (.lst ds) (x0 :: x1 :: x2 :: x3 :: x4 :: x5 :: .val (.lst ds) :: r) := wp_of rfl
theorem hs6 {x0 x1 x2 x3 x4 x5 x : Sl} : setw (x0 :: x1 :: x2 :: x3 :: x4 :: x5 :: x :: r) 6 s K ↔ K (x0 :: x1 :: x2 :: x3 :: x4 :: x5 :: s :: r) := ⟨fun q => q.2, fun q => ⟨by simp only [List.length_cons]; omega, q⟩⟩
theorem hr6 {x0 x1 x2 x3 x4 x5 : Sl} : ownr (x0 :: x1 :: x2 :: x3 :: x4 :: x5 :: .own L :: r) 6 P ↔ P L := Iff.rfl
theorem hv7 {x0 x1 x2 x3 x4 x5 x6 : Sl} : wp (dVar 7) (x0 :: x1 :: x2 :: x3 :: x4 :: x5 :: x6 :: .val d :: r) Q ↔ Q d (x0 :: x1 :: x2 :: x3 :: x4 :: x5 :: x6 :: .val d :: r) := wp_of rfl
theorem ho7 {x0 x1 x2 x3 x4 x5 x6 : Sl} : wp (dVar 7) (x0 :: x1 :: x2 :: x3 :: x4 :: x5 :: x6 :: .own ds :: r) Q ↔ Q (.lst ds) (x0 :: x1 :: x2 :: x3 :: x4 :: x5 :: x6 :: .val (.lst ds) :: r) := wp_of rfl
theorem hs7 {x0 x1 x2 x3 x4 x5 x6 x : Sl} : setw (x0 :: x1 :: x2 :: x3 :: x4 :: x5 :: x6 :: x :: r) 7 s K ↔ K (x0 :: x1 :: x2 :: x3 :: x4 :: x5 :: x6 :: s :: r) := ⟨fun q => q.2, fun q => ⟨by simp only [List.length_cons]; omega, q⟩⟩
theorem hr7 {x0 x1 x2 x3 x4 x5 x6 : Sl} : ownr (x0 :: x1 :: x2 :: x3 :: x4 :: x5 :: x6 :: .own L :: r) 7 P ↔ P L := Iff.rfl
theorem hv8 {x0 x1 x2 x3 x4 x5 x6 x7 : Sl} : wp (dVar 8) (x0 :: x1 :: x2 :: x3 :: x4 :: x5 :: x6 :: x7 :: .val d :: r) Q ↔ Q d (x0 :: x1 :: x2 :: x3 :: x4 :: x5 :: x6 :: x7 :: .val d :: r) := wp_of rfl
theorem ho8 {x0 x1 x2 x3 x4 x5 x6 x7 : Sl} : wp (dVar 8) (x0 :: x1 :: x2 :: x3 :: x4 :: x5 :: x6 :: x7 :: .own ds :: r) Q ↔ Q (.lst ds) (x0 :: x1 :: x2 :: x3 :: x4 :: x5 :: x6 :: x7 :: .val (.lst ds) :: r) := wp_of rfl
theorem hs8 {x0 x1 x2 x3 x4 x5 x6 x7 x : Sl} : setw (x0 :: x1 :: x2 :: x3 :: x4 :: x5 :: x6 :: x7 :: x :: r) 8 s K ↔ K (x0 :: x1 :: x2 :: x3 :: x4 :: x5 :: x6 :: x7 :: s :: r) := ⟨fun q => q.2, fun q => ⟨by simp only [List.length_cons]; omega, q⟩⟩
theorem hr8 {x0 x1 x2 x3 x4 x5 x6 x7 : Sl} : ownr (x0 :: x1 :: x2 :: x3 :: x4 :: x5 :: x6 :: x7 :: .own L :: r) 8 P ↔ P L := Iff.rfl
theorem hv9 {x0 x1 x2 x3 x4 x5 x6 x7 x8 : Sl} : wp (dVar 9) (x0 :: x1 :: x2 :: x3 :: x4 :: x5 :: x6 :: x7 :: x8 :: .val d :: r) Q ↔ Q d (x0 :: x1 :: x2 :: x3 :: x4 :: x5 :: x6 :: x7 :: x8 :: .val d :: r) := wp_of rfl
theorem ho9 {x0 x1 x2 x3 x4 x5 x6 x7 x8 : Sl} : wp (dVar 9) (x0 :: x1 :: x2 :: x3 :: x4 :: x5 :: x6 :: x7 :: x8 :: .own ds :: r) Q ↔ Q (.lst ds) (x0 :: x1 :: x2 :: x3 :: x4 :: x5 :: x6 :: x7 :: x8 :: .val (.lst ds) :: r) := wp_of rfl
theorem hs9 {x0 x1 x2 x3 x4 x5 x6 x7 x8 x : Sl} : setw (x0 :: x1 :: x2 :: x3 :: x4 :: x5 :: x6 :: x7 :: x8 :: x :: r) 9 s K ↔ K (x0 :: x1 :: x2 :: x3 :: x4 :: x5 :: x6 :: x7 :: x8 :: s :: r) := ⟨fun q => q.2, fun q => ⟨by simp only [List.length_cons]; omega, q⟩⟩
theorem hr9 {x0 x1 x2 x3 x4 x5 x6 x7 x8 : Sl} : ownr (x0 :: x1 :: x2 :: x3 :: x4 :: x5 :: x6 :: x7 :: x8 :: .own L :: r) 9 P ↔ P L := Iff.rfl
theorem hv10 {x0 x1 x2 x3 x4 x5 x6 x7 x8 x9 : Sl} : wp (dVar 10) (x0 :: x1 :: x2 :: x3 :: x4 :: x5 :: x6 :: x7 :: x8 :: x9 :: .val d :: r) Q ↔ Q d (x0 :: x1 :: x2 :: x3 :: x4 :: x5 :: x6 :: x7 :: x8 :: x9 :: .val d :: r) := wp_of rfl
theorem ho10 {x0 x1 x2 x3 x4 x5 x6 x7 x8 x9 : Sl} : wp (dVar 10) (x0 :: x1 :: x2 :: x3 :: x4 :: x5 :: x6 :: x7 :: x8 :: x9 :: .own ds :: r) Q ↔ Q (.lst ds) (x0 :: x1 :: x2 :: x3 :: x4 :: x5 :: x6 :: x7 :: x8 :: x9 :: .val (.lst ds) :: r) := wp_of rfl
theorem hs10 {x0 x1 x2 x3 x4 x5 x6 x7 x8 x9 x : Sl} : setw (x0 :: x1 :: x2 :: x3 :: x4 :: x5 :: x6 :: x7 :: x8 :: x9 :: x :: r) 10 s K ↔ K (x0 :: x1 :: x2 :: x3 :: x4 :: x5 :: x6 :: x7 :: x8 :: x9 :: s :: r) := ⟨fun q => q.2, fun q => ⟨by simp only [List.length_cons]; omega, q⟩⟩
theorem hr10 {x0 x1 x2 x3 x4 x5 x6 x7 x8 x9 : Sl} : ownr (x0 :: x1 :: x2 :: x3 :: x4 :: x5 :: x6 :: x7 :: x8 :: x9 :: .own L :: r) 10 P ↔ P L := Iff.rfl
theorem hv11 {x0 x1 x2 x3 x4 x5 x6 x7 x8 x9 x10 : Sl} : wp (dVar 11) (x0 :: x1 :: x2 :: x3 :: x4 :: x5 :: x6 :: x7 :: x8 :: x9 :: x10 :: .val d :: r) Q ↔ Q d (x0 :: x1 :: x2 :: x3 :: x4 :: x5 :: x6 :: x7 :: x8 :: x9 :: x10 :: .val d :: r) := wp_of rfl
theorem ho11 {x0 x1 x2 x3 x4 x5 x6 x7 x8 x9 x10 : Sl} : wp (dVar 11) (x0 :: x1 :: x2 :: x3 :: x4 :: x5 :: x6 :: x7 :: x8 :: x9 :: x10 :: .own ds :: r) Q ↔ Q (.lst ds) (x0 :: x1 :: x2 :: x3 :: x4 :: x5 :: x6 :: x7 :: x8 :: x9 :: x10 :: .val (.lst ds) :: r) := wp_of rfl
theorem hs11 {x0 x1 x2 x3 x4 x5 x6 x7 x8 x9 x10 x : Sl} : setw (x0 :: x1 :: x2 :: x3 :: x4 :: x5 :: x6 :: x7 :: x8 :: x9 :: x10 :: x :: r) 11 s K ↔ K (x0 :: x1 :: x2 :: x3 :: x4 :: x5 :: x6 :: x7 :: x8 :: x9 :: x10 :: s :: r) := ⟨fun q => q.2, fun q => ⟨by simp only [List.length_cons]; omega, q⟩⟩
theorem hr11 {x0 x1 x2 x3 x4 x5 x6 x7 x8 x9 x10 : Sl} : ownr (x0 :: x1 :: x2 :: x3 :: x4 :: x5 :: x6 :: x7 :: x8 :: x9 :: x10 :: .own L :: r) 11 P ↔ P L := Iff.rfl
theorem hv12 {x0 x1 x2 x3 x4 x5 x6 x7 x8 x9 x10 x11 : Sl} : wp (dVar 12) (x0 :: x1 :: x2 :: x3 :: x4 :: x5 :: x6 :: x7 :: x8 :: x9 :: x10 :: x11 :: .val d :: r) Q ↔ Q d (x0 :: x1 :: x2 :: x3 :: x4 :: x5 :: x6 :: x7 :: x8 :: x9 :: x10 :: x11 :: .val d :: r) := wp_of rfl
theorem ho12 {x0 x1 x2 x3 x4 x5 x6 x7 x8 x9 x10 x11 : Sl} : wp (dVar 12) (x0 :: x1 :: x2 :: x3 :: x4 :: x5 :: x6 :: x7 :: x8 :: x9 :: x10 :: x11 :: .own ds :: r) Q ↔ Q (.lst ds) (x0 :: x1 :: x2 :: x3 :: x4 :: x5 :: x6 :: x7 :: x8 :: x9 :: x10 :: x11 :: .val (.lst ds) :: r) := wp_of rfl
theorem hs12 {x0 x1 x2 x3 x4 x5 x6 x7 x8 x9 x10 x11 x : Sl} : setw (x0 :: x1 :: x2 :: x3 :: x4 :: x5 :: x6 :: x7 :: x8 :: x9 :: x10 :: x11 :: x :: r) 12 s K ↔ K (x0 :: x1 :: x2 :: x3 :: x4 :: x5 :: x6 :: x7 :: x8 :: x9 :: x10 :: x11 :: s :: r) := ⟨fun q => q.2, fun q => ⟨by simp only [List.length_cons]; omega, q⟩⟩
theorem hr12 {x0 x1 x2 x3 x4 x5 x6 x7 x8 x9 x10 x11 : Sl} : ownr (x0 :: x1 :: x2 :: x3 :: x4 :: x5 :: x6 :: x7 :: x8 :: x9 :: x10 :: x11 :: .own L :: r) 12 P ↔ P L := Iff.rfl
theorem hv13 {x0 x1 x2 x3 x4 x5 x6 x7 x8 x9 x10 x11 x12 : Sl} : wp (dVar 13) (x0 :: x1 :: x2 :: x3 :: x4 :: x5 :: x6 :: x7 :: x8 :: x9 :: x10 :: x11 :: x12 :: .val d :: r) Q ↔ Q d (x0 :: x1 :: x2 :: x3 :: x4 :: x5 :: x6 :: x7 :: x8 :: x9 :: x10 :: x11 :: x12 :: .val d :: r) := wp_of rfl
theorem ho13 {x0 x1 x2 x3 x4 x5 x6 x7 x8 x9 x10 x11 x12 : Sl} : wp (dVar 13) (x0 :: x1 :: x2 :: x3 :: x4 :: x5 :: x6 :: x7 :: x8 :: x9 :: x10 :: x11 :: x12 :: .own ds :: r) Q ↔ Q (.lst ds) (x0 :: x1 :: x2 :: x3 :: x4 :: x5 :: x6 :: x7 :: x8 :: x9 :: x10 :: x11 :: x12 :: .val (.lst ds) :: r) := wp_of rfl
theorem hs13 {x0 x1 x2 x3 x4 x5 x6 x7 x8 x9 x10 x11 x12 x : Sl} : setw (x0 :: x1 :: x2 :: x3 :: x4 :: x5 :: x6 :: x7 :: x8 :: x9 :: x10 :: x11 :: x12 :: x :: r) 13 s K ↔ K (x0 :: x1 :: x2 :: x3 :: x4 :: x5 :: x6 :: x7 :: x8 :: x9 :: x10 :: x11 :: x12 :: s :: r) := ⟨fun q => q.2, fun q => ⟨by simp only [List.length_cons]; omega, q⟩⟩
theorem hr13 {x0 x1 x2 x3 x4 x5 x6 x7 x8 x9 x10 x11 x12 : Sl} : ownr (x0 :: x1 :: x2 :: x3 :: x4 :: x5 :: x6 :: x7 :: x8 :: x9 :: x10 :: x11 :: x12 :: .own L :: r) 13 P ↔ P L := Iff.rfl
theorem hv14 {x0 x1 x2 x3 x4 x5 x6 x7 x8 x9 x10 x11 x12 x13 : Sl} : wp (dVar 14) (x0 :: x1 :: x2 :: x3 :: x4 :: x5 :: x6 :: x7 :: x8 :: x9 :: x10 :: x11 :: x12 :: x13 :: .val d :: r) Q ↔ Q d (x0 :: x1 :: x2 :: x3 :: x4 :: x5 :: x6 :: x7 :: x8 :: x9 :: x10 :: x11 :: x12 :: x13 :: .val d :: r) := wp_of rfl
theorem ho14 {x0 x1 x2 x3 x4 x5 x6 x7 x8 x9 x10 x11 x12 x13 : Sl} : wp (dVar 14) (x0 :: x1 :: x2 :: x3 :: x4 :: x5 :: x6 :: x7 :: x8 :: x9 :: x10 :: x11 :: x12 :: x13 :: .own ds :: r) Q ↔ Q (.lst ds) (x0 :: x1 :: x2 :: x3 :: x4 :: x5 :: x6 :: x7 :: x8 :: x9 :: x10 :: x11 :: x12 :: x13 :: .val (.lst ds) :: r) := wp_of rfl
theorem hs14 {x0 x1 x2 x3 x4 x5 x6 x7 x8 x9 x10 x11 x12 x13 x : Sl} : setw (x0 :: x1 :: x2 :: x3 :: x4 :: x5 :: x6 :: x7 :: x8 :: x9 :: x10 :: x11 :: x12 :: x13 :: x :: r) 14 s K ↔ K (x0 :: x1 :: x2 :: x3 :: x4 :: x5 :: x6 :: x7 :: x8 :: x9 :: x10 :: x11 :: x12 :: x13 :: s :: r) := ⟨fun q => q.2, fun q => ⟨by simp only [List.length_cons]; omega, q⟩⟩
theorem hr14 {x0 x1 x2 x3 x4 x5 x6 x7 x8 x9 x10 x11 x12 x13 : Sl} : ownr (x0 :: x1 :: x2 :: x3 :: x4 :: x5 :: x6 :: x7 :: x8 :: x9 :: x10 :: x11 :: x12 :: x13 :: .own L :: r) 14 P ↔ P L := Iff.rfl
theorem hv15 {x0 x1 x2 x3 x4 x5 x6 x7 x8 x9 x10 x11 x12 x13 x14 : Sl} : wp (dVar 15) (x0 :: x1 :: x2 :: x3 :: x4 :: x5 :: x6 :: x7 :: x8 :: x9 :: x10 :: x11 :: x12 :: x13 :: x14 :: .val d :: r) Q ↔ Q d (x0 :: x1 :: x2 :: x3 :: x4 :: x5 :: x6 :: x7 :: x8 :: x9 :: x10 :: x11 :: x12 :: x13 :: x14 :: .val d :: r) := wp_of rfl
theorem ho15 {x0 x1 x2 x3 x4 x5 x6 x7 x8 x9 x10 x11 x12 x13 x14 : Sl} : wp (dVar 15) (x0 :: x1 :: x2 :: x3 :: x4 :: x5 :: x6 :: x7 :: x8 :: x9 :: x10 :: x11 :: x12 :: x13 :: x14 :: .own ds :: r) Q ↔ Q (.lst ds) (x0 :: x1 :: x2 :: x3 :: x4 :: x5 :: x6 :: x7 :: x8 :: x9 :: x10 :: x11 :: x12 :: x13 :: x14 :: .val (.lst ds) :: r) := wp_of rfl
theorem hs15 {x0 x1 x2 x3 x4 x5 x6 x7 x8 x9 x10 x11 x12 x13 x14 x : Sl} : setw (x0 :: x1 :: x2 :: x3 :: x4 :: x5 :: x6 :: x7 :: x8 :: x9 :: x10 :: x11 :: x12 :: x13 :: x14 :: x :: r) 15 s K ↔ K (x0 :: x1 :: x2 :: x3 :: x4 :: x5 :: x6 :: x7 :: x8 :: x9 :: x10 :: x11 :: x12 :: x13 :: x14 :: s :: r) := ⟨fun q => q.2, fun q => ⟨by simp only [List.length_cons]; omega, q⟩⟩
theorem hr15 {x0 x1 x2 x3 x4 x5 x6 x7 x8 x9 x10 x11 x12 x13 x14 : Sl} : ownr (x0 :: x1 :: x2 :: x3 :: x4 :: x5 :: x6 :: x7 :: x8 :: x9 :: x10 :: x11 :: x12 :: x13 :: x14 :: .own L :: r) 15 P ↔ P L := Iff.rfl
theorem hv16 {x0 x1 x2 x3 x4 x5 x6 x7 x8 x9 x10 x11 x12 x13 x14 x15 : Sl} : wp (dVar 16) (x0 :: x1 :: x2 :: x3 :: x4 :: x5 :: x6 :: x7 :: x8 :: x9 :: x10 :: x11 :: x12 :: x13 :: x14 :: x15 :: .val d :: r) Q ↔ Q d (x0 :: x1 :: x2 :: x3 :: x4 :: x5 :: x6 :: x7 :: x8 :: x9 :: x10 :: x11 :: x12 :: x13 :: x14 :: x15 :: .val d :: r) := wp_of rfl
theorem ho16 {x0 x1 x2 x3 x4 x5 x6 x7 x8 x9 x10 x11 x12 x13 x14 x15 : Sl} : wp (dVar 16) (x0 :: x1 :: x2 :: x3 :: x4 :: x5 :: x6 :: x7 :: x8 :: x9 :: x10 :: x11 :: x12 :: x13 :: x14 :: x15 :: .own ds :: r) Q ↔ Q (.lst ds) (x0 :: x1 :: x2 :: x3 :: x4 :: x5 :: x6 :: x7 :: x8 :: x9 :: x10 :: x11 :: x12 :: x13 :: x14 :: x15 :: .val (.lst ds) :: r) := wp_of rfl
theorem hs16 {x0 x1 x2 x3 x4 x5 x6 x7 x8 x9 x10 x11 x12 x13 x14 x15 x : Sl} : setw (x0 :: x1 :: x2 :: x3 :: x4 :: x5 :: x6 :: x7 :: x8 :: x9 :: x10 :: x11 :: x12 :: x13 :: x14 :: x15 :: x :: r) 16 s K ↔ K (x0 :: x1 :: x2 :: x3 :: x4 :: x5 :: x6 :: x7 :: x8 :: x9 :: x10 :: x11 :: x12 :: x13 :: x14 :: x15 :: s :: r) := ⟨fun q => q.2, fun q => ⟨by simp only [List.length_cons]; omega, q⟩⟩
theorem hr16 {x0 x1 x2 x3 x4 x5 x6 x7 x8 x9 x10 x11 x12 x13 x14 x15 : Sl} : ownr (x0 :: x1 :: x2 :: x3 :: x4 :: x5 :: x6 :: x7 :: x8 :: x9 :: x10 :: x11 :: x12 :: x13 :: x14 :: x15 :: .own L :: r) 16 P ↔ P L := Iff.rfl
theorem hv17 {x0 x1 x2 x3 x4 x5 x6 x7 x8 x9 x10 x11 x12 x13 x14 x15 x16 : Sl} : wp (dVar 17) (x0 :: x1 :: x2 :: x3 :: x4 :: x5 :: x6 :: x7 :: x8 :: x9 :: x10 :: x11 :: x12 :: x13 :: x14 :: x15 :: x16 :: .val d :: r) Q ↔ Q d (x0 :: x1 :: x2 :: x3 :: x4 :: x5 :: x6 :: x7 :: x8 :: x9 :: x10 :: x11 :: x12 :: x13 :: x14 :: x15 :: x16 :: .val d :: r) := wp_of rfl
theorem ho17 {x0 x1 x2 x3 x4 x5 x6 x7 x8 x9 x10 x11 x12 x13 x14 x15 x16 : Sl} : wp (dVar 17) (x0 :: x1 :: x2 :: x3 :: x4 :: x5 :: x6 :: x7 :: x8 :: x9 :: x10 :: x11 :: x12 :: x13 :: x14 :: x15 :: x16 :: .own ds :: r) Q ↔ Q (.lst ds) (x0 :: x1 :: x2 :: x3 :: x4 :: x5 :: x6 :: x7 :: x8 :: x9 :: x10 :: x11 :: x12 :: x13 :: x14 :: x15 :: x16 :: .val (.lst ds) :: r) := wp_of rfl
theorem hs17 {x0 x1 x2 x3 x4 x5 x6 x7 x8 x9 x10 x11 x12 x13 x14 x15 x16 x : Sl} : setw (x0 :: x1 :: x2 :: x3 :: x4 :: x5 :: x6 :: x7 :: x8 :: x9 :: x10 :: x11 :: x12 :: x13 :: x14 :: x15 :: x16 :: x :: r) 17 s K ↔ K (x0 :: x1 :: x2 :: x3 :: x4 :: x5 :: x6 :: x7 :: x8 :: x9 :: x10 :: x11 :: x12 :: x13 :: x14 :: x15 :: x16 :: s :: r) := ⟨fun q => q.2, fun q => ⟨by simp only [List.length_cons]; omega, q⟩⟩
theorem hr17 {x0 x1 x2 x3 x4 x5 x6 x7 x8 x9 x10 x11 x12 x13 x14 x15 x16 : Sl} : ownr (x0 :: x1 :: x2 :: x3 :: x4 :: x5 :: x6 :: x7 :: x8 :: x9 :: x10 :: x11 :: x12 :: x13 :: x14 :: x15 :: x16 :: .own L :: r) 17 P ↔ P L := Iff.rfl
theorem hv18 {x0 x1 x2 x3 x4 x5 x6 x7 x8 x9 x10 x11 x12 x13 x14 x15 x16 x17 : Sl} : wp (dVar 18) (x0 :: x1 :: x2 :: x3 :: x4 :: x5 :: x6 :: x7 :: x8 :: x9 :: x10 :: x11 :: x12 :: x13 :: x14 :: x15 :: x16 :: x17 :: .val d :: r) Q ↔ Q d (x0 :: x1 :: x2 :: x3 :: x4 :: x5 :: x6 :: x7 :: x8 :: x9 :: x10 :: x11 :: x12 :: x13 :: x14 :: x15 :: x16 :: x17 :: .val d :: r) := wp_of rfl
theorem ho18 {x0 x1 x2 x3 x4 x5 x6 x7 x8 x9 x10 x11 x12 x13 x14 x15 x16 x17 : Sl} : wp (dVar 18) (x0 :: x1 :: x2 :: x3 :: x4 :: x5 :: x6 :: x7 :: x8 :: x9 :: x10 :: x11 :: x12 :: x13 :: x14 :: x15 :: x16 :: x17 :: .own ds :: r) Q ↔ Q (.lst ds) (x0 :: x1 :: x2 :: x3 :: x4 :: x5 :: x6 :: x7 :: x8 :: x9 :: x10 :: x11 :: x12 :: x13 :: x14 :: x15 :: x16 :: x17 :: .val (.lst ds) :: r) := wp_of rfl
theorem hs18 {x0 x1 x2 x3 x4 x5 x6 x7 x8 x9 x10 x11 x12 x13 x14 x15 x16 x17 x : Sl} : setw (x0 :: x1 :: x2 :: x3 :: x4 :: x5 :: x6 :: x7 :: x8 :: x9 :: x10 :: x11 :: x12 :: x13 :: x14 :: x15 :: x16 :: x17 :: x :: r) 18 s K ↔ K (x0 :: x1 :: x2 :: x3 :: x4 :: x5 :: x6 :: x7 :: x8 :: x9 :: x10 :: x11 :: x12 :: x13 :: x14 :: x15 :: x16 :: x17 :: s :: r) := ⟨fun q => q.2, fun q => ⟨by simp only [List.length_cons]; omega, q⟩⟩
theorem hr18 {x0 x1 x2 x3 x4 x5 x6 x7 x8 x9 x10 x11 x12 x13 x14 x15 x16 x17 : Sl} : ownr (x0 :: x1 :: x2 :: x3 :: x4 :: x5 :: x6 :: x7 :: x8 :: x9 :: x10 :: x11 :: x12 :: x13 :: x14 :: x15 :: x16 :: x17 :: .own L :: r) 18 P ↔ P L := Iff.rfl
theorem hv19 {x0 x1 x2 x3 x4 x5 x6 x7 x8 x9 x10 x11 x12 x13 x14 x15 x16 x17 x18 : Sl} : wp (dVar 19) (x0 :: x1 :: x2 :: x3 :: x4 :: x5 :: x6 :: x7 :: x8 :: x9 :: x10 :: x11 :: x12 :: x13 :: x14 :: x15 :: x16 :: x17 :: x18 :: .val d :: r) Q ↔ Q d (x0 :: x1 :: x2 :: x3 :: x4 :: x5 :: x6 :: x7 :: x8 :: x9 :: x10 :: x11 :: x12 :: x13 :: x14 :: x15 :: x16 :: x17 :: x18 :: .val d :: r) := wp_of rfl
theorem ho19 {x0 x1 x2 x3 x4 x5 x6 x7 x8 x9 x10 x11 x12 x13 x14 x15 x16 x17 x18 : Sl} : wp (dVar 19) (x0 :: x1 :: x2 :: x3 :: x4 :: x5 :: x6 :: x7 :: x8 :: x9 :: x10 :: x11 :: x12 :: x13 :: x14 :: x15 :: x16 :: x17 :: x18 :: .own ds :: r) Q ↔ Q (.lst ds) (x0 :: x1 :: x2 :: x3 :: x4 :: x5 :: x6 :: x7 :: x8 :: x9 :: x10 :: x11 :: x12 :: x13 :: x14 :: x15 :: x16 :: x17 :: x18 :: .val (.lst ds) :: r) := wp_of rfl
theorem hs19 {x0 x1 x2 x3 x4 x5 x6 x7 x8 x9 x10 x11 x12 x13 x14 x15 x16 x17 x18 x : Sl} : setw (x0 :: x1 :: x2 :: x3 :: x4 :: x5 :: x6 :: x7 :: x8 :: x9 :: x10 :: x11 :: x12 :: x13 :: x14 :: x15 :: x16 :: x17 :: x18 :: x :: r) 19 s K ↔ K (x0 :: x1 :: x2 :: x3 :: x4 :: x5 :: x6 :: x7 :: x8 :: x9 :: x10 :: x11 :: x12 :: x13 :: x14 :: x15 :: x16 :: x17 :: x18 :: s :: r) := ⟨fun q => q.2, fun q => ⟨by simp only [List.length_cons]; omega, q⟩⟩
theorem hr19 {x0 x1 x2 x3 x4 x5 x6 x7 x8 x9 x10 x11 x12 x13 x14 x15 x16 x17 x18 : Sl} : ownr (x0 :: x1 :: x2 :: x3 :: x4 :: x5 :: x6 :: x7 :: x8 :: x9 :: x10 :: x11 :: x12 :: x13 :: x14 :: x15 :: x16 :: x17 :: x18 :: .own L :: r) 19 P ↔ P L := Iff.rfl
theorem hv20 {x0 x1 x2 x3 x4 x5 x6 x7 x8 x9 x10 x11 x12 x13 x14 x15 x16 x17 x18 x19 : Sl} : wp (dVar 20) (x0 :: x1 :: x2 :: x3 :: x4 :: x5 :: x6 :: x7 :: x8 :: x9 :: x10 :: x11 :: x12 :: x13 :: x14 :: x15 :: x16 :: x17 :: x18 :: x19 :: .val d :: r) Q ↔ Q d (x0 :: x1 :: x2 :: x3 :: x4 :: x5 :: x6 :: x7 :: x8 :: x9 :: x10 :: x11 :: x12 :: x13 :: x14 :: x15 :: x16 :: x17 :: x18 :: x19 :: .val d :: r) := wp_of rfl
theorem ho20 {x0 x1 x2 x3 x4 x5 x6 x7 x8 x9 x10 x11 x12 x13 x14 x15 x16 x17 x18 x19 : Sl} : wp (dVar 20) (x0 :: x1 :: x2 :: x3 :: x4 :: x5 :: x6 :: x7 :: x8 :: x9 :: x10 :: x11 :: x12 :: x13 :: x14 :: x15 :: x16 :: x17 :: x18 :: x19 :: .own ds :: r) Q ↔ Q (.lst ds) (x0 :: x1 :: x2 :: x3 :: x4 :: x5 :: x6 :: x7 :: x8 :: x9 :: x10 :: x11 :: x12 :: x13 :: x14 :: x15 :: x16 :: x17 :: x18 :: x19 :: .val (.lst ds) :: r) := wp_of rfl
theorem hs20 {x0 x1 x2 x3 x4 x5 x6 x7 x8 x9 x10 x11 x12 x13 x14 x15 x16 x17 x18 x19 x : Sl} : setw (x0 :: x1 :: x2 :: x3 :: x4 :: x5 :: x6 :: x7 :: x8 :: x9 :: x10 :: x11 :: x12 :: x13 :: x14 :: x15 :: x16 :: x17 :: x18 :: x19 :: x :: r) 20 s K ↔ K (x0 :: x1 :: x2 :: x3 :: x4 :: x5 :: x6 :: x7 :: x8 :: x9 :: x10 :: x11 :: x12 :: x13 :: x14 :: x15 :: x16 :: x17 :: x18 :: x19 :: s :: r) := ⟨fun q => q.2, fun q => ⟨by simp only [List.length_cons]; omega, q⟩⟩
theorem hr20 {x0 x1 x2 x3 x4 x5 x6 x7 x8 x9 x10 x11 x12 x13 x14 x15 x16 x17 x18 x19 : Sl} : ownr (x0 :: x1 :: x2 :: x3 :: x4 :: x5 :: x6 :: x7 :: x8 :: x9 :: x10 :: x11 :: x12 :: x13 :: x14 :: x15 :: x16 :: x17 :: x18 :: x19 :: .own L :: r) 20 P ↔ P L := Iff.rfl
theorem hv21 {x0 x1 x2 x3 x4 x5 x6 x7 x8 x9 x10 x11 x12 x13 x14 x15 x16 x17 x18 x19 x20 : Sl} : wp (dVar 21) (x0 :: x1 :: x2 :: x3 :: x4 :: x5 :: x6 :: x7 :: x8 :: x9 :: x10 :: x11 :: x12 :: x13 :: x14 :: x15 :: x16 :: x17 :: x18 :: x19 :: x20 :: .val d :: r) Q ↔ Q d (x0 :: x1 :: x2 :: x3 :: x4 :: x5 :: x6 :: x7 :: x8 :: x9 :: x10 :: x11 :: x12 :: x13 :: x14 :: x15 :: x16 :: x17 :: x18 :: x19 :: x20 :: .val d :: r) := wp_of rfl
theorem ho21 {x0 x1 x2 x3 x4 x5 x6 x7 x8 x9 x10 x11 x12 x13 x14 x15 x16 x17 x18 x19 x20 : Sl} : wp (dVar 21) (x0 :: x1 :: x2 :: x3 :: x4 :: x5 :: x6 :: x7 :: x8 :: x9 :: x10 :: x11 :: x12 :: x13 :: x14 :: x15 :: x16 :: x17 :: x18 :: x19 :: x20 :: .own ds :: r) Q ↔ Q (.lst ds) (x0 :: x1 :: x2 :: x3 :: x4 :: x5 :: x6 :: x7 :: x8 :: x9 :: x10 :: x11 :: x12 :: x13 :: x14 :: x15 :: x16 :: x17 :: x18 :: x19 :: x20 :: .val (.lst ds) :: r) := wp_of rfl
theorem hs21 {x0 x1 x2 x3 x4 x5 x6 x7 x8 x9 x10 x11 x12 x13 x14 x15 x16 x17 x18 x19 x20 x : Sl} : setw (x0 :: x1 :: x2 :: x3 :: x4 :: x5 :: x6 :: x7 :: x8 :: x9 :: x10 :: x11 :: x12 :: x13 :: x14 :: x15 :: x16 :: x17 :: x18 :: x19 :: x20 :: x :: r) 21 s K ↔ K (x0 :: x1 :: x2 :: x3 :: x4 :: x5 :: x6 :: x7 :: x8 :: x9 :: x10 :: x11 :: x12 :: x13 :: x14 :: x15 :: x16 :: x17 :: x18 :: x19 :: x20 :: s :: r) := ⟨fun q => q.2, fun q => ⟨by simp only [List.length_cons]; omega, q⟩⟩
theorem hr21 {x0 x1 x2 x3 x4 x5 x6 x7 x8 x9 x10 x11 x12 x13 x14 x15 x16 x17 x18 x19 x20 : Sl} : ownr (x0 :: x1 :: x2 :: x3 :: x4 :: x5 :: x6 :: x7 :: x8 :: x9 :: x10 :: x11 :: x12 :: x13 :: x14 :: x15 :: x16 :: x17 :: x18 :: x19 :: x20 :: .own L :: r) 21 P ↔ P L := Iff.rfl
theorem hv22 {x0 x1 x2 x3 x4 x5 x6 x7 x8 x9 x10 x11 x12 x13 x14 x15 x16 x17 x18 x19 x20 x21 : Sl} : wp (dVar 22) (x0 :: x1 :: x2 :: x3 :: x4 :: x5 :: x6 :: x7 :: x8 :: x9 :: x10 :: x11 :: x12 :: x13 :: x14 :: x15 :: x16 :: x17 :: x18 :: x19 :: x20 :: x21 :: .val d :: r) Q ↔ Q d (x0 :: x1 :: x2 :: x3 :: x4 :: x5 :: x6 :: x7 :: x8 :: x9 :: x10 :: x11 :: x12 :: x13 :: x14 :: x15 :: x16 :: x17 :: x18 :: x19 :: x20 :: x21 :: .val d :: r) := wp_of rfl
theorem ho22 {x0 x1 x2 x3 x4 x5 x6 x7 x8 x9 x10 x11 x12 x13 x14 x15 x16 x17 x18 x19 x20 x21 : Sl} : wp (dVar 22) (x0 :: x1 :: x2 :: x3 :: x4 :: x5 :: x6 :: x7 :: x8 :: x9 :: x10 :: x11 :: x12 :: x13 :: x14 :: x15 :: x16 :: x17 :: x18 :: x19 :: x20 :: x21 :: .own ds :: r) Q ↔ Q (.lst ds) (x0 :: x1 :: x2 :: x3 :: x4 :: x5 :: x6 :: x7 :: x8 :: x9 :: x10 :: x11 :: x12 :: x13 :: x14 :: x15 :: x16 :: x17 :: x18 :: x19 :: x20 :: x21 :: .val (.lst ds) :: r) := wp_of rfl
theorem hs22 {x0 x1 x2 x3 x4 x5 x6 x7 x8 x9 x10 x11 x12 x13 x14 x15 x16 x17 x18 x19 x20 x21 x : Sl} : setw (x0 :: x1 :: x2 :: x3 :: x4 :: x5 :: x6 :: x7 :: x8 :: x9 :: x10 :: x11 :: x12 :: x13 :: x14 :: x15 :: x16 :: x17 :: x18 :: x19 :: x20 :: x21 :: x :: r) 22 s K ↔ K (x0 :: x1 :: x2 :: x3 :: x4 :: x5 :: x6 :: x7 :: x8 :: x9 :: x10 :: x11 :: x12 :: x13 :: x14 :: x15 :: x16 :: x17 :: x18 :: x19 :: x20 :: x21 :: s :: r) := ⟨fun q => q.2, fun q => ⟨by simp only [List.length_cons]; omega, q⟩⟩
theorem hr22 {x0 x1 x2 x3 x4 x5 x6 x7 x8 x9 x10 x11 x12 x13 x14 x15 x16 x17 x18 x19 x20 x21 : Sl} : ownr (x0 :: x1 :: x2 :: x3 :: x4 :: x5 :: x6 :: x7 :: x8 :: x9 :: x10 :: x11 :: x12 :: x13 :: x14 :: x15 :: x16 :: x17 :: x18 :: x19 :: x20 :: x21 :: .own L :: r) 22 P ↔ P L := Iff.rfl
theorem hv23 {x0 x1 x2 x3 x4 x5 x6 x7 x8 x9 x10 x11 x12 x13 x14 x15 x16 x17 x18 x19 x20 x21 x22 : Sl} : wp (dVar 23) (x0 :: x1 :: x2 :: x3 :: x4 :: x5 :: x6 :: x7 :: x8 :: x9 :: x10 :: x11 :: x12 :: x13 :: x14 :: x15 :: x16 :: x17 :: x18 :: x19 :: x20 :: x21 :: x22 :: .val d :: r) Q ↔ Q d (x0 :: x1 :: x2 :: x3 :: x4 :: x5 :: x6 :: x7 :: x8 :: x9 :: x10 :: x11 :: x12 :: x13 :: x14 :: x15 :: x16 :: x17 :: x18 :: x19 :: x20 :: x21 :: x22 :: .val d :: r) := wp_of rfl
theorem ho23 {x0 x1 x2 x3 x4 x5 x6 x7 x8 x9 x10 x11 x12 x13 x14 x15 x16 x17 x18 x19 x20 x21 x22 : Sl} : wp (dVar 23) (x0 :: x1 :: x2 :: x3 :: x4 :: x5 :: x6 :: x7 :: x8 :: x9 :: x10 :: x11 :: x12 :: x13 :: x14 :: x15 :: x16 :: x17 :: x18 :: x19 :: x20 :: x21 :: x22 :: .own ds :: r) Q ↔ Q (.lst ds) (x0 :: x1 :: x2 :: x3 :: x4 :: x5 :: x6 :: x7 :: x8 :: x9 :: x10 :: x11 :: x12 :: x13 :: x14 :: x15 :: x16 :: x17 :: x18 :: x19 :: x20 :: x21 :: x22 :: .val (.lst ds) :: r) := wp_of rfl
theorem hs23 {x0 x1 x2 x3 x4 x5 x6 x7 x8 x9 x10 x11 x12 x13 x14 x15 x16 x17 x18 x19 x20 x21 x22 x : Sl} : setw (x0 :: x1 :: x2 :: x3 :: x4 :: x5 :: x6 :: x7 :: x8 :: x9 :: x10 :: x11 :: x12 :: x13 :: x14 :: x15 :: x16 :: x17 :: x18 :: x19 :: x20 :: x21 :: x22 :: x :: r) 23 s K ↔ K (x0 :: x1 :: x2 :: x3 :: x4 :: x5 :: x6 :: x7 :: x8 :: x9 :: x10 :: x11 :: x12 :: x13 :: x14 :: x15 :: x16 :: x17 :: x18 :: x19 :: x20 :: x21 :: x22 :: s :: r) := ⟨fun q => q.2, fun q => ⟨by simp only [List.length_cons]; omega, q⟩⟩
theorem hr23 {x0 x1 x2 x3 x4 x5 x6 x7 x8 x9 x10 x11 x12 x13 x14 x15 x16 x17 x18 x19 x20 x21 x22 : Sl} : ownr (x0 :: x1 :: x2 :: x3 :: x4 :: x5 :: x6 :: x7 :: x8 :: x9 :: x10 :: x11 :: x12 :: x13 :: x14 :: x15 :: x16 :: x17 :: x18 :: x19 :: x20 :: x21 :: x22 :: .own L :: r) 23 P ↔ P L := Iff.rfl
theorem hv24 {x0 x1 x2 x3 x4 x5 x6 x7 x8 x9 x10 x11 x12 x13 x14 x15 x16 x17 x18 x19 x20 x21 x22 x23 : Sl} : wp (dVar 24) (x0 :: x1 :: x2 :: x3 :: x4 :: x5 :: x6 :: x7 :: x8 :: x9 :: x10 :: x11 :: x12 :: x13 :: x14 :: x15 :: x16 :: x17 :: x18 :: x19 :: x20 :: x21 :: x22 :: x23 :: .val d :: r) Q ↔ Q d (x0 :: x1 :: x2 :: x3 :: x4 :: x5 :: x6 :: x7 :: x8 :: x9 :: x10 :: x11 :: x12 :: x13 :: x14 :: x15 :: x16 :: x17 :: x18 :: x19 :: x20 :: x21 :: x22 :: x23 :: .val d :: r) := wp_of rfl
theorem ho24 {x0 x1 x2 x3 x4 x5 x6 x7 x8 x9 x10 x11 x12 x13 x14 x15 x16 x17 x18 x19 x20 x21 x22 x23 : Sl} : wp (dVar 24) (x0 :: x1 :: x2 :: x3 :: x4 :: x5 :: x6 :: x7 :: x8 :: x9 :: x10 :: x11 :: x12 :: x13 :: x14 :: x15 :: x16 :: x17 :: x18 :: x19 :: x20 :: x21 :: x22 :: x23 :: .own ds :: r) Q ↔ Q (.lst ds) (x0 :: x1 :: x2 :: x3 :: x4 :: x5 :: x6 :: x7 :: x8 :: x9 :: x10 :: x11 :: x12 :: x13 :: x14 :: x15 :: x16 :: x17 :: x18 :: x19 :: x20 :: x21 :: x22 :: x23 :: .val (.lst ds) :: r) := wp_of rfl
theorem hs24 {x0 x1 x2 x3 x4 x5 x6 x7 x8 x9 x10 x11 x12 x13 x14 x15 x16 x17 x18 x19 x20 x21 x22 x23 x : Sl} : setw (x0 :: x1 :: x2 :: x3 :: x4 :: x5 :: x6 :: x7 :: x8 :: x9 :: x10 :: x11 :: x12 :: x13 :: x14 :: x15 :: x16 :: x17 :: x18 :: x19 :: x20 :: x21 :: x22 :: x23 :: x :: r) 24 s K ↔ K (x0 :: x1 :: x2 :: x3 :: x4 :: x5 :: x6 :: x7 :: x8 :: x9 :: x10 :: x11 :: x12 :: x13 :: x14 :: x15 :: x16 :: x17 :: x18 :: x19 :: x20 :: x21 :: x22 :: x23 :: s :: r) := ⟨fun q => q.2, fun q => ⟨by simp only [List.length_cons]; omega, q⟩⟩
theorem hr24 {x0 x1 x2 x3 x4 x5 x6 x7 x8 x9 x10 x11 x12 x13 x14 x15 x16 x17 x18 x19 x20 x21 x22 x23 : Sl} : ownr (x0 :: x1 :: x2 :: x3 :: x4 :: x5 :: x6 :: x7 :: x8 :: x9 :: x10 :: x11 :: x12 :: x13 :: x14 :: x15 :: x16 :: x17 :: x18 :: x19 :: x20 :: x21 :: x22 :: x23 :: .own L :: r) 24 P ↔ P L := Iff.rfl
theorem hv25 {x0 x1 x2 x3 x4 x5 x6 x7 x8 x9 x10 x11 x12 x13 x14 x15 x16 x17 x18 x19 x20 x21 x22 x23 x24 : Sl} : wp (dVar 25) (x0 :: x1 :: x2 :: x3 :: x4 :: x5 :: x6 :: x7 :: x8 :: x9 :: x10 :: x11 :: x12 :: x13 :: x14 :: x15 :: x16 :: x17 :: x18 :: x19 :: x20 :: x21 :: x22 :: x23 :: x24 :: .val d :: r) Q ↔ Q d (x0 :: x1 :: x2 :: x3 :: x4 :: x5 :: x6 :: x7 :: x8 :: x9 :: x10 :: x11 :: x12 :: x13 :: x14 :: x15 :: x16 :: x17 :: x18 :: x19 :: x20 :: x21 :: x22 :: x23 :: x24 :: .val d :: r) := wp_of rfl
theorem ho25 {x0 x1 x2 x3 x4 x5 x6 x7 x8 x9 x10 x11 x12 x13 x14 x15 x16 x17 x18 x19 x20 x21 x22 x23 x24 : Sl} : wp (dVar 25) (x0 :: x1 :: x2 :: x3 :: x4 :: x5 :: x6 :: x7 :: x8 :: x9 :: x10 :: x11 :: x12 :: x13 :: x14 :: x15 :: x16 :: x17 :: x18 :: x19 :: x20 :: x21 :: x22 :: x23 :: x24 :: .own ds :: r) Q ↔ Q (.lst ds) (x0 :: x1 :: x2 :: x3 :: x4 :: x5 :: x6 :: x7 :: x8 :: x9 :: x10 :: x11 :: x12 :: x13 :: x14 :: x15 :: x16 :: x17 :: x18 :: x19 :: x20 :: x21 :: x22 :: x23 :: x24 :: .val (.lst ds) :: r) := wp_of rfl
theorem hs25 {x0 x1 x2 x3 x4 x5 x6 x7 x8 x9 x10 x11 x12 x13 x14 x15 x16 x17 x18 x19 x20 x21 x22 x23 x24 x : Sl} : setw (x0 :: x1 :: x2 :: x3 :: x4 :: x5 :: x6 :: x7 :: x8 :: x9 :: x10 :: x11 :: x12 :: x13 :: x14 :: x15 :: x16 :: x17 :: x18 :: x19 :: x20 :: x21 :: x22 :: x23 :: x24 :: x :: r) 25 s K ↔ K (x0 :: x1 :: x2 :: x3 :: x4 :: x5 :: x6 :: x7 :: x8 :: x9 :: x10 :: x11 :: x12 :: x13 :: x14 :: x15 :: x16 :: x17 :: x18 :: x19 :: x20 :: x21 :: x22 :: x23 :: x24 :: s :: r) := ⟨fun q => q.2, fun q => ⟨by simp only [List.length_cons]; omega, q⟩⟩
theorem hr25 {x0 x1 x2 x3 x4 x5 x6 x7 x8 x9 x10 x11 x12 x13 x14 x15 x16 x17 x18 x19 x20 x21 x22 x23 x24 : Sl} : ownr (x0 :: x1 :: x2 :: x3 :: x4 :: x5 :: x6 :: x7 :: x8 :: x9 :: x10 :: x11 :: x12 :: x13 :: x14 :: x15 :: x16 :: x17 :: x18 :: x19 :: x20 :: x21 :: x22 :: x23 :: x24 :: .own L :: r) 25 P ↔ P L := Iff.rfl
theorem hv26 {x0 x1 x2 x3 x4 x5 x6 x7 x8 x9 x10 x11 x12 x13 x14 x15 x16 x17 x18 x19 x20 x21 x22 x23 x24 x25 : Sl} : wp (dVar 26) (x0 :: x1 :: x2 :: x3 :: x4 :: x5 :: x6 :: x7 :: x8 :: x9 :: x10 :: x11 :: x12 :: x13 :: x14 :: x15 :: x16 :: x17 :: x18 :: x19 :: x20 :: x21 :: x22 :: x23 :: x24 :: x25 :: .val d :: r) Q ↔ Q d (x0 :: x1 :: x2 :: x3 :: x4 :: x5 :: x6 :: x7 :: x8 :: x9 :: x10 :: x11 :: x12 :: x13 :: x14 :: x15 :: x16 :: x17 :: x18 :: x19 :: x20 :: x21 :: x22 :: x23 :: x24 :: x25 :: .val d :: r) := wp_of rfl
theorem ho26 {x0 x1 x2 x3 x4 x5 x6 x7 x8 x9 x10 x11 x12 x13 x14 x15 x16 x17 x18 x19 x20 x21 x22 x23 x24 x25 : Sl} : wp (dVar 26) (x0 :: x1 :: x2 :: x3 :: x4 :: x5 :: x6 :: x7 :: x8 :: x9 :: x10 :: x11 :: x12 :: x13 :: x14 :: x15 :: x16 :: x17 :: x18 :: x19 :: x20 :: x21 :: x22 :: x23 :: x24 :: x25 :: .own ds :: r) Q ↔ Q (.lst ds) (x0 :: x1 :: x2 :: x3 :: x4 :: x5 :: x6 :: x7 :: x8 :: x9 :: x10 :: x11 :: x12 :: x13 :: x14 :: x15 :: x16 :: x17 :: x18 :: x19 :: x20 :: x21 :: x22 :: x23 :: x24 :: x25 :: .val (.lst ds) :: r) := wp_of rfl
theorem hs26 {x0 x1 x2 x3 x4 x5 x6 x7 x8 x9 x10 x11 x12 x13 x14 x15 x16 x17 x18 x19 x20 x21 x22 x23 x24 x25 x : Sl} : setw (x0 :: x1 :: x2 :: x3 :: x4 :: x5 :: x6 :: x7 :: x8 :: x9 :: x10 :: x11 :: x12 :: x13 :: x14 :: x15 :: x16 :: x17 :: x18 :: x19 :: x20 :: x21 :: x22 :: x23 :: x24 :: x25 :: x :: r) 26 s K ↔ K (x0 :: x1 :: x2 :: x3 :: x4 :: x5 :: x6 :: x7 :: x8 :: x9 :: x10 :: x11 :: x12 :: x13 :: x14 :: x15 :: x16 :: x17 :: x18 :: x19 :: x20 :: x21 :: x22 :: x23 :: x24 :: x25 :: s :: r) := ⟨fun q => q.2, fun q => ⟨by simp only [List.length_cons]; omega, q⟩⟩
theorem hr26 {x0 x1 x2 x3 x4 x5 x6 x7 x8 x9 x10 x11 x12 x13 x14 x15 x16 x17 x18 x19 x20 x21 x22 x23 x24 x25 : Sl} : ownr (x0 :: x1 :: x2 :: x3 :: x4 :: x5 :: x6 :: x7 :: x8 :: x9 :: x10 :: x11 :: x12 :: x13 :: x14 :: x15 :: x16 :: x17 :: x18 :: x19 :: x20 :: x21 :: x22 :: x23 :: x24 :: x25 :: .own L :: r) 26 P ↔ P L := Iff.rfl
theorem hv27 {x0 x1 x2 x3 x4 x5 x6 x7 x8 x9 x10 x11 x12 x13 x14 x15 x16 x17 x18 x19 x20 x21 x22 x23 x24 x25 x26 : Sl} : wp (dVar 27) (x0 :: x1 :: x2 :: x3 :: x4 :: x5 :: x6 :: x7 :: x8 :: x9 :: x10 :: x11 :: x12 :: x13 :: x14 :: x15 :: x16 :: x17 :: x18 :: x19 :: x20 :: x21 :: x22 :: x23 :: x24 :: x25 :: x26 :: .val d :: r) Q ↔ Q d (x0 :: x1 :: x2 :: x3 :: x4 :: x5 :: x6 :: x7 :: x8 :: x9 :: x10 :: x11 :: x12 :: x13 :: x14 :: x15 :: x16 :: x17 :: x18 :: x19 :: x20 :: x21 :: x22 :: x23 :: x24 :: x25 :: x26 :: .val d :: r) := wp_of rfl
theorem ho27 {x0 x1 x2 x3 x4 x5 x6 x7 x8 x9 x10 x11 x12 x13 x14 x15 x16 x17 x18 x19 x20 x21 x22 x23 x24 x25 x26 : Sl} : wp (dVar 27) (x0 :: x1 :: x2 :: x3 :: x4 :: x5 :: x6 :: x7 :: x8 :: x9 :: x10 :: x11 :: x12 :: x13 :: x14 :: x15 :: x16 :: x17 :: x18 :: x19 :: x20 :: x21 :: x22 :: x23 :: x24 :: x25 :: x26 :: .own ds :: r) Q ↔ Q (.lst ds) (x0 :: x1 :: x2 :: x3 :: x4 :: x5 :: x6 :: x7 :: x8 :: x9 :: x10 :: x11 :: x12 :: x13 :: x14 :: x15 :: x16 :: x17 :: x18 :: x19 :: x20 :: x21 :: x22 :: x23 :: x24 :: x25 :: x26 :: .val (.lst ds) :: r) := wp_of rfl
theorem hs27 {x0 x1 x2 x3 x4 x5 x6 x7 x8 x9 x10 x11 x12 x13 x14 x15 x16 x17 x18 x19 x20 x21 x22 x23 x24 x25 x26 x : Sl} : setw (x0 :: x1 :: x2 :: x3 :: x4 :: x5 :: x6 :: x7 :: x8 :: x9 :: x10 :: x11 :: x12 :: x13 :: x14 :: x15 :: x16 :: x17 :: x18 :: x19 :: x20 :: x21 :: x22 :: x23 :: x24 :: x25 :: x26 :: x :: r) 27 s K ↔ K (x0 :: x1 :: x2 :: x3 :: x4 :: x5 :: x6 :: x7 :: x8 :: x9 :: x10 :: x11 :: x12 :: x13 :: x14 :: x15 :: x16 :: x17 :: x18 :: x19 :: x20 :: x21 :: x22 :: x23 :: x24 :: x25 :: x26 :: s :: r) := ⟨fun q => q.2, fun q => ⟨by simp only [List.length_cons]; omega, q⟩⟩
theorem hr27 {x0 x1 x2 x3 x4 x5 x6 x7 x8 x9 x10 x11 x12 x13 x14 x15 x16 x17 x18 x19 x20 x21 x22 x23 x24 x25 x26 : Sl} : ownr (x0 :: x1 :: x2 :: x3 :: x4 :: x5 :: x6 :: x7 :: x8 :: x9 :: x10 :: x11 :: x12 :: x13 :: x14 :: x15 :: x16 :: x17 :: x18 :: x19 :: x20 :: x21 :: x22 :: x23 :: x24 :: x25 :: x26 :: .own L :: r) 27 P ↔ P L := Iff.rfl
variable {fj : M (List It)} {QI : List It → En → Prop} {fn : M (List D)}
theorem hp_iNil : wp iNil ρ QI ↔ QI [] ρ := wp_ret
theorem hp_iD : wp (iD fa fj) ρ QI ↔ wp fa ρ fun x r => wp fj r fun xs r2 => QI (.d x :: xs) r2 := by
  unfold iD; simp only [wp_bind, wp_ret]
theorem hp_iN : wp (iN fn fj) ρ QI ↔ wp fn ρ fun x r => wp fj r fun xs r2 => QI (.n x :: xs) r2 := by
  unfold iN; simp only [wp_bind, wp_ret]
def i2w (ds : List It) (P : It → It → Prop) : Prop := match ds with
  | [x, y] => P x y
  | _ => False
def i3w (ds : List It) (P : It → It → It → Prop) : Prop := match ds with
  | [x, y, z] => P x y z
  | _ => False
theorem i2w_mk {x y : It} {P : It → It → Prop} : i2w [x, y] P ↔ P x y := Iff.rfl
theorem i3w_mk {x y z : It} {P : It → It → It → Prop} : i3w [x, y, z] P ↔ P x y z := Iff.rfl
theorem setw_put {ρ : En} {QU : Unit → En → Prop} {i : Nat} {s : Sl} : wp (put i s) ρ QU ↔ setw ρ i s fun r => QU () r := wp_put
theorem hp_j2 : wp (mJ2 i j fj) ρ QF ↔ wp fj ρ fun ds r => i2w ds fun x y => setw r i x.sl fun r2 => setw r2 j y.sl fun r3 => QF .nx r3 := by
  unfold mJ2
  simp only [wp_bind]
  constructor
  · intro h
    refine wp_mono h fun ds r q => ?_
    split at q
    · simp only [wp_bind, setw_put, wp_ret] at q; exact q
    · exact (wp_no.mp q).elim
  · intro h
    refine wp_mono h fun ds r q => ?_
    unfold i2w at q
    split at q
    · simp only [wp_bind, setw_put, wp_ret]; exact q
    · exact q.elim
theorem hp_j3 : wp (mJ3 i j l fj) ρ QF ↔ wp fj ρ fun ds r => i3w ds fun x y z => setw r i x.sl fun r2 => setw r2 j y.sl fun r3 => setw r3 l z.sl fun r4 => QF .nx r4 := by
  unfold mJ3
  simp only [wp_bind]
  constructor
  · intro h
    refine wp_mono h fun ds r q => ?_
    split at q
    · simp only [wp_bind, setw_put, wp_ret] at q; exact q
    · exact (wp_no.mp q).elim
  · intro h
    refine wp_mono h fun ds r q => ?_
    unfold i3w at q
    split at q
    · simp only [wp_bind, setw_put, wp_ret]; exact q
    · exact q.elim
theorem it_d {x : D} : It.sl (.d x) = .val x := rfl
theorem it_n {x : List D} : It.sl (.n x) = .own x := rfl
theorem setw_d {x : D} : setw r i (It.sl (.d x)) K ↔ setw r i (.val x) K := Iff.rfl
theorem setw_n {x : List D} : setw r i (It.sl (.n x)) K ↔ setw r i (.own x) K := Iff.rfl
theorem hp_listN : wp (mListN fa) ρ QL ↔ wp fa ρ fun d r => ow d.items? fun ds => QL ds r := by
  unfold mListN; simp only [wp_bind, wp_lift]
theorem ow_bits {a : Int} {P : D → Prop} : ow (dBits (.int a)) P ↔ P (.int (Builtin.Int.intBits a : Nat)) := ow_some
theorem ow_isqrt {a : Int} {P : D → Prop} : ow (dIsqrt [.int a]) P ↔ (0 ≤ a ∧ a.toNat.log2 < 9000) ∧ P (.int (Float64.isqrt a.toNat : Nat)) := by
  unfold dIsqrt; rw [ow_ite, ow_some]
theorem ow_repT {xs : List D} {k : Int} {P : D → Prop} : ow (dMul (.tup xs) (.int k)) P ↔ (0 < xs.length ∧ xs.length ≤ 300 ∧ 2 ≤ k ∧ k ≤ 300) ∧ P (.tup (List.replicate k.toNat xs).flatten) := by
  unfold dMul; rw [ow_ite, ow_some]
theorem ow_pow' {a b : Int} {P : D → Prop} (h0 : 0 ≤ b) (h1 : b ≤ 100000) (h2 : -1000000000000 < a) (h3 : a < 1000000000000) : ow (dPow (.int a) (.int b)) P ↔ P (.int (a ^ b.toNat)) := by
  rw [ow_pow]
  exact ⟨fun q => q.2, fun q => ⟨⟨h0, h1, by omega⟩, q⟩⟩
theorem ow_zip_tup {xs ys : List D} {P : List D → Prop} : ow (zip2 [.tup xs, .tup ys]) P ↔ P (pairs xs ys) := ow_some
theorem ow_zip_lst {xs ys : List D} {P : List D → Prop} : ow (zip2 [.lst xs, .lst ys]) P ↔ P (pairs xs ys) := ow_some
theorem pairs_cons {x y : D} {xs ys : List D} : pairs (x :: xs) (y :: ys) = .tup [x, y] :: pairs xs ys := rfl
theorem pairs_nil {ys : List D} : pairs [] ys = [] := rfl
theorem ow_repT5 {x : D} {P : D → Prop} : ow (dMul (.tup [x]) (.int 5)) P ↔ P (.tup [x, x, x, x, x]) := by
  rw [ow_repT]; exact ⟨fun q => q.2, fun q => ⟨⟨Nat.zero_lt_one, by show 1 ≤ 300; decide, by decide, by decide⟩, q⟩⟩
theorem R_half : (.tup [.int 1, .int 2] : D) = Fr (1 / 2) := by
  have h1 : (1 / 2 : Rat).num = 1 := by decide +kernel
  have h2 : (1 / 2 : Rat).den = 2 := by decide +kernel
  unfold Fr; rw [h1, h2]; rfl
end
end PV

namespace PV
open PySem PySem.Spec PyProof.Rows L2

/-! ### a slot that is owned, or a datum by now -/
def mEi {α : Type} (j : Nat) (f g : M α) : M α := fun ρ => if isOwn ρ j = true then f ρ else g ρ
theorem PE.or {X : Cx} {e : Expr} {t t' : TE} (h : PE X e t) (h' : PE X e t') : PE X e (fun σ H Q => t σ H Q ∨ t' σ H Q) := ⟨fun pins s σ H Q I w => w.elim (h.run pins s σ H Q I) (h'.run pins s σ H Q I)⟩
theorem e_ei (j : Nat) {X : Cx} {W : WX} {fx : List Nat} {e : Expr} {f g : M D} (h : EV X W fx e f) (h' : EV X W fx e g) : EV X W fx e (mEi j f g) := by
  refine PE.imp (PE.or h h') fun σ H Q ⟨m₀, ρ, rr, w⟩ => ?_
  unfold mEi at w
  by_cases ho : isOwn ρ j = true
  · rw [if_pos ho] at w; exact .inl ⟨m₀, ρ, rr, w⟩
  · rw [if_neg ho] at w; exact .inr ⟨m₀, ρ, rr, w⟩
def eiw (s : Option Sl) (p q : Prop) : Prop := match s with
  | some (.own _) => p
  | _ => q
theorem hp_ei {α : Type} {j : Nat} {f g : M α} {ρ : En} {Q : α → En → Prop} : wp (mEi j f g) ρ Q ↔ eiw ρ[j]? (wp f ρ Q) (wp g ρ Q) := by
  have e : wp (mEi j f g) ρ Q ↔ if isOwn ρ j = true then wp f ρ Q else wp g ρ Q := by
    by_cases h : isOwn ρ j = true
    · rw [if_pos h]; dsimp only [wp, mEi]; rw [if_pos h]
    · rw [if_neg h]; dsimp only [wp, mEi]; rw [if_neg h]
  rw [e]
  by_cases h : isOwn ρ j = true
  · rw [if_pos h]
    obtain ⟨ds, e⟩ := isOwn_ok h
    rw [e]; exact Iff.rfl
  · rw [if_neg h]
    unfold eiw
    split
    · rename_i ds e
      exact absurd (by unfold isOwn; rw [e]) h
    · exact Iff.rfl
theorem eiw_own {L : List D} {p q : Prop} : eiw (some (.own L)) p q ↔ p := Iff.rfl
theorem eiw_val {d : D} {p q : Prop} : eiw (some (.val d)) p q ↔ q := Iff.rfl
end PV

/-! an empty dict; four names set at once, some to new lists; a list compared with an empty one -/
namespace PV
open PySem PySem.Spec PyProof.Rows L2
section
variable {X : Cx} {W : WX} {fx : List Nat} {pos : Pos} {a b c d : Expr} {fj : M (List It)}
theorem e_dict0 : EV X W fx (.Dict [] [] pos) (M.ret (.dic [] [])) := by
  refine PE.imp pe_dnewK fun σ H Q ⟨m₀, ρ, rr, w⟩ => fun p hp => ?_
  exact w (.ref p) _ (rr.add hp).drop (.dic (kvs := []) (rr.new_out hp) upd_same .nil) (.grown (keep_new hp))
def mJ4 (i j l q : Nat) (fl : M (List It)) : M Fl := M.bind fl fun ds => match ds with
  | [x, y, z, t] => M.bind (put i x.sl) fun _ => M.bind (put j y.sl) fun _ => M.bind (put l z.sl) fun _ => M.bind (put q t.sl) fun _ => M.ret .nx
  | _ => fun _ => .no
theorem s_j4 (i j l q : Nat) {x y z t : Str} {px py pz pw pt pt2 : Pos} {kt k2} (hc : X.calm = true) (hN : X.N.Nodup) (ha : JV X W fx [a, b, c, d] fj)
    (hi : X.N[i]? = some x := by rfl) (hj : X.N[j]? = some y := by rfl) (hl : X.N[l]? = some z := by rfl) (hq : X.N[q]? = some t := by rfl)
    (hx : X.env.scope.names.lookup x = some .local := by rfl) (hy : X.env.scope.names.lookup y = some .local := by rfl) (hz : X.env.scope.names.lookup z = some .local := by rfl) (ht : X.env.scope.names.lookup t = some .local := by rfl)
    (hfi : i ∉ fx := by decide) (hfj : j ∉ fx := by decide) (hfl : l ∉ fx := by decide) (hfq : q ∉ fx := by decide)
    (hs : swapsWithSole [.Tuple [.Name x px, .Name y py, .Name z pz, .Name t pw] kt pt] (.Tuple [a, b, c, d] k2 pt2) pos.line X.env = pure false := by rfl)
    (hw : swappedStores [.Tuple [.Name x px, .Name y py, .Name z pz, .Name t pw] kt pt] (.Tuple [a, b, c, d] k2 pt2) X.env = pure none := by rfl) :
    SV X W fx (.Assign [.Tuple [.Name x px, .Name y py, .Name z pz, .Name t pw] kt pt] (.Tuple [a, b, c, d] k2 pt2) pos) (mJ4 i j l q fj) := by
  refine PS.imp (ps_asg (pe_tup ha) (pg_tup hc (pgs_cons (pg_name hN hi (.inl hx) (.inr hx)) (pgs_cons (pg_name hN hj (.inl hy) (.inr hy)) (pgs_cons (pg_name hN hl (.inl hz) (.inr hz)) (pgs_cons (pg_name hN hq (.inl ht) (.inr ht)) pgs_nil))))) hs hw) fun E σ H ⟨m₀, ρ, rr, w⟩ => ?_
  refine ⟨m₀, ρ, rr, w.bind.mono fun is ρ1 _ q vs ps H1 r1 hp h1 s1 => ?_⟩
  have hm0 : ∀ a ∈ ps, ¬ m₀ a := fun a ha z => rr.dom a z (hp a ha)
  split at q
  · rename_i ix iy iz iw
    obtain ⟨v1, v2, v3, v4, rfl⟩ : ∃ v1 v2 v3 v4, vs = [v1, v2, v3, v4] := by
      match vs, it_len h1 with
      | [v1, v2, v3, v4], _ => exact ⟨v1, v2, v3, v4, rfl⟩
    obtain ⟨hi1, q2⟩ := put_ok2 q
    obtain ⟨hj1, q3⟩ := put_ok2 q2
    obtain ⟨hl1, q4⟩ := put_ok2 q3
    obtain ⟨hq1, q5⟩ := put_ok2 q4
    obtain ⟨qs, a1, a2, a3, a4, a5⟩ := it_put r1 hp hm0 h1 s1 hi1
    obtain ⟨rs, b1, b2, b3, b4, b5⟩ := it_put a3 a1 a2 a4 a5 hj1
    obtain ⟨ts, c1, c2, c3, c4, c5⟩ := it_put b3 b1 b2 b4 b5 hl1
    obtain ⟨us, d1, d2, d3, d4, d5⟩ := it_put c3 c1 c2 c4 c5 hq1
    cases d4
    rw [mo_nil] at d3
    refine ⟨show 4 ≤ sizeLine by decide, fun p hp' => ⟨p, _, rfl, ?_, rfl, v1, _, rfl, v2, _, rfl, v3, _, rfl, v4, _, rfl, rfl, ?_⟩⟩
    · exact .inl (.inl upd_same)
    · exact q5 _ _ ((d3.add hp').drop) (d5.trans (.grown (keep_new hp'))) ((((fx_set hfi).trans (fx_set hfj)).trans (fx_set hfl)).trans (fx_set hfq))
  · exact q.elim
end
def i4w (ds : List It) (P : It → It → It → It → Prop) : Prop := match ds with
  | [x, y, z, t] => P x y z t
  | _ => False
theorem i4w_mk {x y z t : It} {P : It → It → It → It → Prop} : i4w [x, y, z, t] P ↔ P x y z t := Iff.rfl
theorem hp_j4 {i j l q : Nat} {fj : M (List It)} {ρ : En} {QF : Fl → En → Prop} : wp (mJ4 i j l q fj) ρ QF ↔ wp fj ρ fun ds r => i4w ds fun x y z t => setw r i x.sl fun r2 => setw r2 j y.sl fun r3 => setw r3 l z.sl fun r4 => setw r4 q t.sl fun r5 => QF .nx r5 := by
  unfold mJ4
  simp only [wp_bind]
  constructor
  · intro h
    refine wp_mono h fun ds r q => ?_
    split at q
    · simp only [wp_bind, setw_put, wp_ret] at q; exact q
    · exact (wp_no.mp q).elim
  · intro h
    refine wp_mono h fun ds r q => ?_
    unfold i4w at q
    split at q
    · simp only [wp_bind, setw_put, wp_ret]; exact q
    · exact q.elim
section
variable {X : Cx}
def rEqL (K : PySem.W.Frag) (r : Bool) : R2 := fun x y H Q => ∃ a b xs ys, x = .ref a ∧ y = .ref b ∧ SqL K H a xs ∧ SqL K H b ys ∧ xs.length ≠ ys.length ∧ Q (.bl r) H
theorem op_eqL (hu : X.A.units + 64 < cLine) : OpR X (compareOp .Eq) (rEqL X.K false) := by
  intro pins s σ H x y v u Q I rx ry h
  obtain ⟨a, b, xs, ys, rfl, rfl, ha, hb, hl, q⟩ := h
  cases (show v = Value.ref a from rx)
  cases (show u = Value.ref b from ry)
  obtain ⟨us, r1, p1, _⟩ := I.list ha
  obtain ⟨ws, r2, p2, _⟩ := I.list hb
  have hsz : (us.toArray.size != ws.toArray.size) = true := by
    rw [List.size_toArray, List.size_toArray, ← r1.length, ← r2.length]
    simp [hl]
  exact SeqAt.RcAt.lists_lengths p1.isList p2.isList hsz (by omega) _ _ _ _ ⟨.bl false, H, I, rfl, q⟩
theorem op_neL (hu : X.A.units + 64 < cLine) : OpR X (compareOp .NotEq) (rEqL X.K true) := by
  intro pins s σ H x y v u Q I rx ry h
  obtain ⟨a, b, xs, ys, rfl, rfl, ha, hb, hl, q⟩ := h
  cases (show v = Value.ref a from rx)
  cases (show u = Value.ref b from ry)
  obtain ⟨us, r1, p1, _⟩ := I.list ha
  obtain ⟨ws, r2, p2, _⟩ := I.list hb
  have hsz : (us.toArray.size != ws.toArray.size) = true := by
    rw [List.size_toArray, List.size_toArray, ← r1.length, ← r2.length]
    simp [hl]
  exact SeqAt.RcNeAt.lists_lengths p1.isList p2.isList hsz (by omega) _ _ _ _ ⟨.bl true, H, I, rfl, q⟩
def rEqX (K : PySem.W.Frag) : R2 := fun x y H Q => rEqA K x y H Q ∨ rEqL K false x y H Q
def rNeX (K : PySem.W.Frag) : R2 := fun x y H Q => rNeA K x y H Q ∨ rEqL K true x y H Q
theorem op_eqX (hu : X.A.units + 64 < cLine) : OpR X (compareOp .Eq) (rEqX X.K) := (op_eqA hu).or (op_eqL hu)
theorem op_neX (hu : X.A.units + 64 < cLine) : OpR X (compareOp .NotEq) (rNeX X.K) := (op_neA hu).or (op_neL hu)
def dEqL (x y : D) : Option D := match x, y with
  | .lst (_ :: _), .lst [] => some (.bl false)
  | x, y => dEq x y
def dNeL (x y : D) : Option D := match x, y with
  | .lst (_ :: _), .lst [] => some (.bl true)
  | x, y => dNe x y
theorem eqL_d : OpD X (rEqX X.K) dEqL := by
  intro m H x y dx dy dz hx hy e hm Q q
  unfold dEqL at e
  split at e
  · cases e
    cases hx with
    | lst h1 h2 => cases hy with
      | lst h3 h4 => exact .inr ⟨_, _, _, _, rfl, rfl, h1.sq, h3.sq, by rw [h2.length, h4.length]; simp, q _ H grown_refl (.bl _)⟩
  · exact .inl (eq_d m H x y _ _ dz hx hy e hm Q q)
theorem neL_d : OpD X (rNeX X.K) dNeL := by
  intro m H x y dx dy dz hx hy e hm Q q
  unfold dNeL at e
  split at e
  · cases e
    cases hx with
    | lst h1 h2 => cases hy with
      | lst h3 h4 => exact .inr ⟨_, _, _, _, rfl, rfl, h1.sq, h3.sq, by rw [h2.length, h4.length]; simp, q _ H grown_refl (.bl _)⟩
  · exact .inl (ne_d m H x y _ _ dz hx hy e hm Q q)
end
end PV

/-! own errors without __init__: raised, caught -/
namespace PV
open PySem PySem.Spec PyProof.Rows L2
section
variable {X : Cx} {W : WX} {fx : List Nat} {k i : Nat} {x y n : Str} {C : Addr} {p p2 np pos pos' : Pos} {e : Expr} {body suite : List Stmt} {b₀ : Stmt} {f h : M Fl} {fe : M D}
/-- a class of errors, without own __init__ -/
structure ErrC (K : PySem.W.Frag) (C : Addr) : Prop where
  q : PySem.W.excIn K C He.veBase "ValueError.__new__" = true
  k : PySem.W.keepIn K (.ref C) = true
  s : PySem.W.subIn K (.ref C) (.type "BaseException") = some true
  t : PySem.W.typeIn K (.ref C) = some (.type "type")
theorem errC_of {K : PySem.W.Frag} {x : Str} (c : (He.Fa.exc x).ok K = true) : ErrC K (He.fAd K (x, none)) := by
  obtain ⟨h1, h2, h3, h4⟩ := He.exc_ok c
  exact ⟨h1, h2, h3, h4⟩
/-- C() -/
theorem pmk_own0 (E : ErrC X.K C) (gC : X.mg x = some (.ref C)) (hg : Gl X x) (hdb : (x == ("__debug__" : Str)) = false := by decide) :
    PMk X (.Call (.Name x p) [] [] pos) (fun _ H Q => Q (.ref C) none H) := by
  intro pins s σ H Q I h
  refine wpAny_Call_Name_kw (ld_glob I hg gC ?_ hdb)
  refine PySem.W.callWith_K0 I.kIn E.k ?_
  show wpAny _ _ (call (.ref C) []) _ _ _
  obtain ⟨bm, N, nm, qn, bs, hdct, sn, sub, ab, col, dd, k0, k1, k2, k3, k5, mN, hC, hN, hni, T⟩ := exc_obj I.kIn E.q
  refine wpAny_call_exc_subT PySem.F.excBase_ValueError T hC hN hni (fun h' e hm => ?_) (by show 0 ≤ sizeLine; omega)
  exact mk_of I hm (raises_own E.s E.t) h (I.hok.gone hm.new)
def mRaise (x : Str) : M Fl := fun ρ => .er ⟨x, none⟩ ρ
theorem s_raise (hc : X.calm = true) (tw : Takes X W) (E : ErrC X.K C) (gC : X.mg x = some (.ref C)) (hg : Gl X x := by rfl) (hdb : (x == ("__debug__" : Str)) = false := by decide) :
    SV X W fx (.Raise (some (.Call (.Name x p) [] [] p2)) none pos) (mRaise x) := by
  refine PS.imp (ps_raise hc tw (pmk_own0 E gC hg hdb)) fun D σ H ⟨m₀, ρ, rr, w⟩ => ?_
  exact w (.ref C) none σ H rr .refl .refl ⟨⟨C, gC, rfl⟩, rfl⟩
/-- is the error one of these -/
def caught (xs : List Str) (x : Exn) : Bool := decide (x.cls ∈ xs) && x.given.isNone
def mTry (xs : List Str) (f h : M Fl) : M Fl := fun ρ => match f ρ with
  | .no => .no
  | .er x ρ' => if caught xs x = true then h ρ' else .no
  | .ok fl ρ' => .ok fl ρ'
/-- what an error that is caught is -/
theorem caught_ok {xs : List Str} {x : Exn} {m : Addr → Prop} {K : PySem.W.Frag} {g : Str → Option Value} {H : Hp} {cl : Value} {d : Option Addr} (hc : caught xs x = true) (h : ExR m K g H cl d x) : x.cls ∈ xs ∧ (∃ C, g x.cls = some (.ref C) ∧ cl = .ref C) ∧ d = none := by
  unfold caught at hc
  obtain ⟨h1, h2⟩ := Bool.and_eq_true_iff.mp hc
  obtain ⟨h3, h4⟩ := h
  refine ⟨of_decide_eq_true h1, h3, ?_⟩
  cases q : x.given with
  | none => rw [q] at h4; exact h4
  | some z => rw [q] at h2; cases h2
theorem s_try {xs : List Str} (hs : X.stack = X.env :: X.outer) (hf : X.env.frame = some X.env.locals) (gC : X.mg y = some (.ref C)) (hx : ∀ x ∈ xs, ∃ Cx, X.mg x = some (.ref Cx) ∧ PySem.W.exmOne X.K (.ref Cx) (.ref C) = some true) (Fi : Fine X W k)
    (hb : ∀ (W' : WX) (pn : List (Addr × Obj)) (xe : Value → Shared → Prop), Fine (X.tr pn xe) W' k → BV (X.tr pn xe) W' fx body f)
    (hh : ∀ (a : Addr) (oe : Obj) (pn : List (Addr × Obj)), BV (X.suite a ((a, oe) :: pn)) W fx (b₀ :: suite) h) (hg : Gl X y := by rfl) (hdb : (y == ("__debug__" : Str)) = false := by decide) :
    SV X W fx (.Try body [.ExceptHandler (some (.Name y np)) none (b₀ :: suite) pos'] [] [] pos) (mTry xs f h) := by
  refine PS.imp (ps_try_only (tb := fun W' => tS ⟨X.K, X.mg, W', fx⟩ f) (ts := fun _ _ _ => tS (ct X W fx) h) (Wout := W) hs hf ⟨hg, hdb, .inl gC⟩ Fi.tw (fun W' pn xe tk hp => hb W' pn xe ⟨Fi.hr, Fi.hg, tk, hp, Fi.nd⟩) fun a oe cls d pn _ _ => hh a oe pn) fun E σ H ⟨m₀, ρ, rr, w⟩ => ?_
  refine ⟨m₀, ρ, rr, ?_⟩
  unfold mTry at w
  cases q : f ρ with
  | no => rw [q] at w; exact w.elim
  | ok fl ρ' => rw [q] at w; cases fl <;> exact w
  | er z ρ' =>
    rw [q] at w
    dsimp only at w
    split at w
    · rename_i hc
      intro cl d σ' H' r' s' f' ex
      obtain ⟨h1, ⟨Cz, h2, h3⟩, h4⟩ := caught_ok hc ex
      obtain ⟨Cx, h5, h6⟩ := hx z.cls h1
      have h2' : X.mg z.cls = some (.ref Cz) := h2
      rw [h5] at h2'; cases h2'
      refine ⟨true, by rw [h3]; exact h6, fun _ a _ => ?_, fun z => by cases z⟩
      exact tS.of r' s' f' (w.later s' f')
    · exact w.elim
def isNo (s : Option Sl) : Bool := match s with
  | some .no => true
  | _ => false
theorem isNo_ok {s : Option Sl} (h : isNo s = true) : s = some .no := by
  unfold isNo at h
  split at h
  · rfl
  · cases h
/-- the error under a name; the suite hands back a datum -/
def mTryAs (i : Nat) (xs : List Str) (f : M Fl) (h : M D) : M Fl := fun ρ => match f ρ with
  | .no => .no
  | .er x ρ' => if (caught xs x && isNo ρ'[i]?) = true then mRet h ρ' else .no
  | .ok fl ρ' => .ok fl ρ'
theorem EndOk.same {c : Ct} {m₀ : Addr → Prop} {σ : L2.St} {ρ ρ' : En} {H : Hp} {E E' : Ends} {d : D} (h : EndOk c m₀ σ ρ H E ρ' (.rt d)) (e : E.rt = E'.rt) : EndOk c m₀ σ ρ H E' ρ' (.rt d) := by
  unfold EndOk at h ⊢
  rw [← e]; exact h
/-- the suite's readings: the error stands in slot i -/
def tSuite (c : Ct) (i : Nat) (C : Addr) (h : M D) : Addr → Value → Option Addr → TS := fun a cls d D σ H => (cls = .ref C ∧ d = none ∧ σ[i]? = some (some (.ref a))) ∧ tS c (mRet h) D σ H
theorem s_tryAs {x : Str} {Cx : Addr} (i : Nat) (hs : X.stack = X.env :: X.outer) (hf : X.env.frame = some X.env.locals) (gC : X.mg y = some (.ref C)) (gx : X.mg x = some (.ref Cx)) (hx : PySem.W.exmOne X.K (.ref Cx) (.ref C) = some true) (Fi : Fine X W k)
    (hb : ∀ (W' : WX) (pn : List (Addr × Obj)) (xe : Value → Shared → Prop), Fine (X.tr pn xe) W' k → BV (X.tr pn xe) W' fx body f)
    (hh : ∀ (a : Addr) (oe : Obj) (cls : Value) (d : Option Addr) (pn : List (Addr × Obj)), Zc cls d oe → (∃ vs, oe.data = .fields vs) → PSs (X.suite a ((a, oe) :: pn)) (b₀ :: suite) (tSuite (ct X W fx) i Cx fe a cls d))
    (hi : X.N[i]? = some n := by rfl) (hln : X.env.kindOf n = some .local := by rfl) (hfx : i ∉ fx := by decide) (hg : Gl X y := by rfl) (hdb : (y == ("__debug__" : Str)) = false := by decide) :
    SV X W fx (.Try body [.ExceptHandler (some (.Name y np)) (some n) (b₀ :: suite) pos'] [] [] pos) (mTryAs i [x] f fe) := by
  refine PS.imp (ps_try_as (i := i) (tb := fun W' => tS ⟨X.K, X.mg, W', fx⟩ f) (ts := tSuite (ct X W fx) i Cx fe) (Wout := W) hs hf Fi.nd hi hln ⟨hg, hdb, .inl gC⟩ Fi.tw (fun W' pn xe tk hp => hb W' pn xe ⟨Fi.hr, Fi.hg, tk, hp, Fi.nd⟩) hh) fun E σ H ⟨m₀, ρ, rr, w⟩ => ?_
  refine ⟨m₀, ρ, rr, ?_⟩
  unfold mTryAs at w
  cases q : f ρ with
  | no => rw [q] at w; exact w.elim
  | ok fl ρ' => rw [q] at w; cases fl <;> exact w
  | er z ρ' =>
    rw [q] at w
    dsimp only at w
    split at w
    · rename_i hc
      obtain ⟨hc, hno⟩ := Bool.and_eq_true_iff.mp hc
      have hno := isNo_ok hno
      intro cl d σ' H' r' s' f' ex
      obtain ⟨h1, ⟨Cz, h2, h3⟩, h4⟩ := caught_ok hc ex
      rw [List.mem_singleton] at h1
      have h2' : X.mg z.cls = some (.ref Cz) := h2
      rw [h1, gx] at h2'; cases h2'
      refine ⟨true, by rw [h3]; exact hx, fun _ a _ => ?_, fun z => by cases z⟩
      have hio : isOwn ρ' i = false := by unfold isOwn; rw [hno]
      have hlt : i < ρ'.length := (List.getElem?_eq_some_iff.mp hno).1
      have eρ : ρ'.set i .no = ρ' := by
        refine List.ext_getElem? fun j => ?_
        by_cases hj : j = i
        · subst hj; rw [List.getElem?_set_self hlt, hno]
        · rw [List.getElem?_set_ne (Ne.symm hj)]
      have r2 := r'.forget (x := some (.ref a)) hio
      have o2 := own_forget (σ := σ') (x := some (V.ref a)) hio
      rw [eρ] at r2 o2
      have s2 : Stp σ' ρ' H' (σ'.set i (some (.ref a))) ρ' H' := ⟨fun _ _ _ e => e, fun _ h => h, fun a h => .inl ((o2 a).mp h)⟩
      have f2 : Fx fx σ' (σ'.set i (some (.ref a))) := fx_set hfx
      refine ⟨⟨h3, h4, by rw [List.getElem?_set_self (by rw [r'.len]; exact hlt)]⟩, ?_⟩
      have w2 := (w.later s' f').later s2 f2
      refine ⟨m₀, ρ', r2, ?_⟩
      unfold mRet at w2 ⊢
      cases qh : fe ρ' with
      | no => rw [show M.bind fe (fun d => M.ret (Fl.rt d)) ρ' = .no by unfold M.bind; rw [qh]; rfl] at w2; exact w2.elim
      | er u ρ2 => rw [show M.bind fe (fun d => M.ret (Fl.rt d)) ρ' = .er u ρ2 by unfold M.bind; rw [qh]; rfl] at w2 ⊢; exact w2
      | ok d2 ρ2 =>
        rw [show M.bind fe (fun d => M.ret (Fl.rt d)) ρ' = .ok (.rt d2) ρ2 by unfold M.bind; rw [qh]; rfl] at w2 ⊢
        exact EndOk.same (EndOk.later (EndOk.later w2 s' f') s2 f2) rfl
    · exact w.elim
theorem excC_of {K : PySem.W.Frag} {D : Addr} (h : excB K D = true) : ExcC K D := by
  unfold excB at h
  obtain ⟨h1, h⟩ := He.ba h
  obtain ⟨h2, h⟩ := He.ba h
  obtain ⟨h3, h⟩ := He.ba h
  obtain ⟨h4, h⟩ := He.ba h
  obtain ⟨h5, h⟩ := He.ba h
  obtain ⟨h6, h⟩ := He.ba h
  obtain ⟨h7, h8⟩ := He.ba h
  exact ⟨of_decide_eq_true h1, of_decide_eq_true h2, of_decide_eq_true h3, h4, of_decide_eq_true h5, of_decide_eq_true h6, of_decide_eq_true h7, of_decide_eq_true h8⟩
/-- isinstance(e, ..) of the error that the suite holds -/
def tIsE (i : Nat) (a : Addr) (b : Bool) : TE := fun σ H Q => σ[i]? = some (some (.ref a)) ∧ Q (.bl b) H
section
variable {a D : Addr} {oe : Obj} {pn : List (Addr × Obj)} {b : Bool} {p1 p3 : Pos} {x2 : Str} {T : String} {e1 e2 : Expr}
theorem pe_isE (hB : excB X.K D = true ∧ PySem.W.kitOne X.K (.ref D) (.ref C) = some b) (hz : Zc (.ref D) none oe) (hf : ∃ vs, oe.data = .fields vs) (hv : PE (X.suite a ((a, oe) :: pn)) e (tVar i)) (hm : X.mg "isinstance" = none) (gC : X.mg x2 = some (.ref C))
    (hg : Gl (X.suite a ((a, oe) :: pn)) "isinstance" := by rfl) (hg2 : Gl (X.suite a ((a, oe) :: pn)) x2 := by rfl) (hd2 : (x2 == ("__debug__" : Str)) = false := by decide)
    (hs1 : starEach [e, .Name x2 p2] X.env = (false, eval e X.env) :: starEach [.Name x2 p2] X.env := by rfl) (hs2 : starEach [.Name x2 p2] X.env = (false, eval (.Name x2 p2) X.env) :: starEach [] X.env := by rfl) (hpl : (backTo pos (starEach [.Name x2 p2] X.env)).any (·.1) = false := by rfl) :
    PE (X.suite a ((a, oe) :: pn)) (.Call (.Name "isinstance" p) [e, .Name x2 p2] [] pos) (tIsE i a b) := by
  refine PE.imp (pe_callB (call_isE (excC_of hB.1) hz hf) hg hm PyProof.Rows.boot_isinstance (pa_cons hv (pa_cons (pe_glob (v := .ref C) hg2 gC rfl hd2) pa_nil hs2) hs1) (by decide) (by decide) hs1 hpl) fun σ H Q ⟨hσ, q⟩ => ?_
  exact ⟨.ref a, hσ, .ref C, .ref C, b, rfl, fun u r => r, hB.2, q⟩
theorem pe_isT (hB : excB X.K D = true ∧ PySem.W.kitOne X.K (.ref D) (.type T) = some b) (hz : Zc (.ref D) none oe) (hf : ∃ vs, oe.data = .fields vs) (hv : PE (X.suite a ((a, oe) :: pn)) e (tVar i)) (hm : X.mg "isinstance" = none) (hm2 : X.mg x2 = none) (hv2 : bootBuiltins x2 = some (.type T))
    (hn2 : x2 ≠ "__name__" := by decide) (hg : Gl (X.suite a ((a, oe) :: pn)) "isinstance" := by rfl) (hg2 : Gl (X.suite a ((a, oe) :: pn)) x2 := by rfl) (hd2 : (x2 == ("__debug__" : Str)) = false := by decide)
    (hs1 : starEach [e, .Name x2 p2] X.env = (false, eval e X.env) :: starEach [.Name x2 p2] X.env := by rfl) (hs2 : starEach [.Name x2 p2] X.env = (false, eval (.Name x2 p2) X.env) :: starEach [] X.env := by rfl) (hpl : (backTo pos (starEach [.Name x2 p2] X.env)).any (·.1) = false := by rfl) :
    PE (X.suite a ((a, oe) :: pn)) (.Call (.Name "isinstance" p) [e, .Name x2 p2] [] pos) (tIsE i a b) := by
  refine PE.imp (pe_callB (call_isE (excC_of hB.1) hz hf) hg hm PyProof.Rows.boot_isinstance (pa_cons hv (pa_cons (pe_bltn (v := .ty T) hg2 hm2 hv2 rfl hn2 hd2) pa_nil hs2) hs1) (by decide) (by decide) hs1 hpl) fun σ H Q ⟨hσ, q⟩ => ?_
  exact ⟨.ref a, hσ, .ty T, .type T, b, rfl, fun u r => r, hB.2, q⟩
theorem pe_isAnd {b2 : Bool} (h1 : PE (X.suite a ((a, oe) :: pn)) e1 (tIsE i a true)) (h2 : PE (X.suite a ((a, oe) :: pn)) e2 (tIsE i a b2)) : PE (X.suite a ((a, oe) :: pn)) (.BoolOp .And [e1, e2] pos) (tIsE i a b2) := by
  refine PE.imp (pe_and h1 (pe_one h2)) fun σ H Q ⟨hσ, q⟩ => ?_
  exact ⟨hσ, true, rfl, hσ, q⟩
/-- return a text by the error's class -/
theorem s_isIf {s1 s2 : Str} {j1 j2 : Nat} {q1 q2 q3 : Pos} {cls : Value} {dd : Option Addr} (hz : Zc cls dd oe) (h1 : Zc (.ref D) none oe → PE (X.suite a ((a, oe) :: pn)) e1 (tIsE i a true))
    (he : ∀ whole, isTrue e1 X.env whole = (do let v ← whole; standAt e1.pos; holding [v] (truthy v)) := by intro _; rfl) :
    PSs (X.suite a ((a, oe) :: pn)) [.Return (some (.IfExp e1 (.Constant (.str s1) j1 q1) (.Constant (.str s2) j2 q2) q3)) pos] (tSuite (ct X W fx) i D (M.ret (.str s1)) a cls dd) := by
  refine ⟨fun pins s σ H E I ⟨⟨c1, c2, c3⟩, m₀, ρ, rr, w⟩ => ?_⟩
  subst c1 c2
  refine (pss_one (ps_ret (pe_ifExp (pt_val (h1 hz) he) pe_str pe_str))).run pins s σ H E I ?_
  exact ⟨c3, true, rfl, w (.str s1) σ H rr (.str _) .refl .refl⟩
/-- return a text and what isinstance tells -/
theorem s_isPair {s1 : Str} {j1 : Nat} {q1 q2 : Pos} {cls : Value} {dd : Option Addr} (hz : Zc cls dd oe) (h1 : Zc (.ref D) none oe → PE (X.suite a ((a, oe) :: pn)) e1 (tIsE i a b))
    (hs2 : starEach [e1] X.env = (false, eval e1 X.env) :: starEach [] X.env := by rfl) :
    PSs (X.suite a ((a, oe) :: pn)) [.Return (some (.List [.Constant (.str s1) j1 q1, e1] q2)) pos] (tSuite (ct X W fx) i D (mLst (dCons (M.ret (.str s1)) (dCons (M.ret (.bl b)) dNil))) a cls dd) := by
  refine ⟨fun pins s σ H E I ⟨⟨c1, c2, c3⟩, m₀, ρ, rr, w⟩ => ?_⟩
  subst c1 c2
  refine (pss_one (ps_ret (pe_lst (pa_cons pe_str (pa_cons (h1 hz) pa_nil hs2))))).run pins s σ H E I ?_
  refine ⟨c3, show 2 ≤ sizeLine by decide, fun q hq => ?_⟩
  have w' : EndOk (ct X W fx) m₀ σ ρ H E ρ (.rt (.lst [.str s1, .bl b])) := w
  have r1 := rr.add (o := .lst [V.str s1, V.bl b]) hq
  have hA : RpA (mm m₀ σ ρ) X.K X.mg (upd H q (.lst [V.str s1, V.bl b])) [V.str s1, V.bl b] [.str s1, .bl b] := .cons (.str _) (.cons (.bl _) .nil)
  have hR : Rp (mm m₀ σ ρ) X.K X.mg (upd H q (.lst [V.str s1, V.bl b])) (.ref q) (.lst [.str s1, .bl b]) := .lst ⟨r1.out fun z => rr.dom q z hq, upd_same⟩ hA
  exact w' (.ref q) σ _ r1.drop hR (.grown (keep_new hq)) .refl
end
end
/-- a comprehension in one -/
theorem blk_relabel {N : List Str} {sc scope : Scope} {own : List (Str × Nat)} {env : PySem.Env} (h : BlkOk N sc scope own) : BlkOk N (relabel sc env) scope own := by
  refine ⟨h.kind, h.uniq, h.ix, fun y hy e => ?_, h.own⟩
  have key : ∀ (ns : List (Str × NameKind)) (x : Str) (f : Str → NameKind → Bool), (ns.lookup x = some .cell ∨ ns.lookup x = some .free) →
      ((ns.map fun (n, k) => if (k == NameKind.free && f n k) then (n, NameKind.cell) else (n, k)).lookup x = some .cell ∨ (ns.map fun (n, k) => if (k == NameKind.free && f n k) then (n, NameKind.cell) else (n, k)).lookup x = some .free) := by
    intro ns x f
    induction ns with
    | nil => intro z; simp at z
    | cons a t ih =>
      obtain ⟨n, k⟩ := a
      intro z
      rw [List.map_cons]
      by_cases hx : x = n
      · subst hx
        simp only [List.lookup_cons, beq_self_eq_true] at z
        by_cases c : (k == NameKind.free && f x k) = true
        · dsimp only; rw [if_pos c]; left; simp [List.lookup_cons]
        · dsimp only; rw [if_neg c]; simpa [List.lookup_cons] using z
      · have hb : (x == n) = false := by simpa using hx
        simp only [List.lookup_cons, hb] at z
        by_cases c : (k == NameKind.free && f n k) = true
        · dsimp only; rw [if_pos c]; simp only [List.lookup_cons, hb]; exact ih z
        · dsimp only; rw [if_neg c]; simp only [List.lookup_cons, hb]; exact ih z
  have k2 := key sc.names y.1 (fun n k => env.scope.kind == .function && env.kindOf n == some .cell) (h.free y hy e)
  unfold relabel
  simpa [Bool.and_assoc] using k2
end PV

/-! defs that call themselves; slices backwards; text of numbers; xs[i] += e -/
namespace PV
open PySem PySem.Spec PyProof.Rows L2

/-! ### a def that calls itself: the mirror by depth; at depth 0 nothing is told -/
section
variable {P : Program} {w : World} {K : PySem.W.Frag} {mg : Str → Option Value} {base : Heap}
theorem defV_no {x : Str} {st : Stmt} {f : Addr} {N ps : List Str} {k : Nat} (hm : mg x = some (.ref f)) (F : ∃ fd, FunD K x x (defArgs st) (defBody st) (defScope st) [] [] f fd) (S : FnScope N ps (defScope st))
    (hb : ∀ (kV doc pm : Value) (an : Option Addr) (cdv ct : Value) (us : List Value), us.length = ps.length → bindArgs (PySem.W.fnOf x x (defArgs st) (defBody st) (defScope st) .none kV doc pm an cdv ct) ⟨us, []⟩ = pure (ps.zip us)) :
    DefV P w K mg base x st (k + 1) ps (fun _ => .no) := by
  obtain ⟨fd, F⟩ := F
  refine ⟨f, fd, hm, F, F.bindsN hb, FunD.okG F S (fun vs H Q E h => h.1) fun cdv A outer s H vs Q E hr hg h => ?_⟩
  obtain ⟨_, m0, ρ, _, z⟩ := h
  exact False.elim z
/-- the mirrors by depth -/
def recM (f : M D → M D) : Nat → M D
  | 0 => fun _ => .no
  | n + 1 => f (recM f n)
theorem defV_rec {x : Str} {st : Stmt} {ps : List Str} {k : Nat} {f : M D → M D} (h0 : DefV P w K mg base x st k ps (fun _ => .no))
    (hs : ∀ (n : Nat) (F : M D), DefV P w K mg base x st (k + n) ps F → DefV P w K mg base x st (k + n + 1) ps (f F)) : ∀ n, DefV P w K mg base x st (k + n) ps (recM f n)
  | 0 => h0
  | n + 1 => hs n _ (defV_rec h0 hs n)
end

/-! ### x[::-1] -/
section
variable {prog : Program} {w : World} {A : Around} {E : Value → Shared → Prop} {s : Shared}
theorem adjust_rev (n : Nat) : Builtin.Slice.sliceAdjust none none (-1) (n : Int) = ((n : Int) - 1, -1) := by
  unfold Builtin.Slice.sliceAdjust
  rfl
theorem places_rev (n : Nat) : Builtin.Slice.slicePlaces ((n : Int) - 1) (-1) (-1) = n := by
  unfold Builtin.Slice.slicePlaces
  have h : ¬ ((-1 : Int) > 0) := by decide
  have e : (-(-1) : Int) = 1 := rfl
  simp only [h, if_false, e, Int.ediv_one]
  split <;> omega
theorem applied_rev {sl : Addr} {vs : Value} {n : Nat} {Q : Int × Int × Nat → Shared → Prop} (hs : s.heap.IsSliceOf sl .none .none vs) (ps : IsPart vs (some (-1)))
    (h : Q ((n : Int) - 1, -1, n) s) : wpAny (model prog w) A (Builtin.Slice.sliceApplied (.ref sl) (pure (n : Int))) Q E s := by
  obtain ⟨os, hos, hcs, hds⟩ := id hs
  unfold Builtin.Slice.sliceApplied Builtin.Slice.sliceFields
  refine wpAny_bind (wpAny_bind (wpAny_field hos hds (x := .none) rfl (wpAny_bind (wpAny_field hos hds (x := .none) rfl (wpAny_bind (wpAny_field hos hds (x := vs) rfl (wpAny_pure ?_)))))))
  refine wpAny_bind (HT.slicePart_ ps ?_)
  show wpAny _ _ (if ((-1 : Int) == 0) = true then _ else _) _ _ s
  rw [if_neg (by decide)]
  refine wpAny_bind (slicePart_none (wpAny_bind (slicePart_none (wpAny_bind (wpAny_pure ?_)))))
  show wpAny _ _ (match Builtin.Slice.sliceAdjust none none (-1) (n : Int) with | (lo, hi) => pure (lo, (-1 : Int), Builtin.Slice.slicePlaces lo hi (-1))) _ _ s
  rw [adjust_rev n]
  show wpAny _ _ (pure ((n : Int) - 1, (-1 : Int), Builtin.Slice.slicePlaces ((n : Int) - 1) (-1) (-1))) _ _ s
  rw [places_rev]
  exact wpAny_pure h
theorem pick_rev (xs : Array Value) : ((List.range xs.size).filterMap fun (m : Nat) => xs[((xs.size : Int) - 1 + (m : Int) * (-1)).toNat]?).toArray = xs.toList.reverse.toArray := by
  congr 1
  have e : (List.range xs.size).filterMap (fun (m : Nat) => xs[((xs.size : Int) - 1 + (m : Int) * (-1)).toNat]?) = ((List.range xs.size).map (fun k => xs.size - 1 - k)).filterMap (xs[·]?) := by
    rw [List.filterMap_map]
    have fe : (fun (m : Nat) => xs[((xs.size : Int) - 1 + (m : Int) * (-1)).toNat]?) = ((fun x => xs[x]?) ∘ fun k => xs.size - 1 - k) := by
      funext m
      have e2 : ((xs.size : Int) - 1 + (m : Int) * (-1)).toNat = xs.size - 1 - m := by omega
      show _ = xs[xs.size - 1 - m]?
      rw [e2]
    rw [fe]
  rw [e, PySem.W.krv_range, List.filterMap_reverse, PySem.W.krv_all]
theorem getItem_tuple_rev {t sl : Addr} {items : Array Value} {vs : Value} {Q : Value → Shared → Prop} (ht : IsTup s.heap t items) (hs : s.heap.IsSliceOf sl .none .none vs) (ps : IsPart vs (some (-1)))
    (h : Q (.ref s.heap.objs.size) { s with heap := s.heap.push { cls := .type "tuple", data := .seq items.toList.reverse.toArray } })
    (hsz : items.size ≤ sizeLine) : wpAny (model prog w) A (getItem (.ref t) (.ref sl)) Q E s := by
  have htake : sizeOk (.seq items.toList.reverse.toArray) := by
    show items.toList.reverse.toArray.size ≤ sizeLine
    rw [List.size_toArray, List.length_reverse, Array.length_toList]
    exact hsz
  obtain ⟨os, hos, hcs, hds⟩ := id hs
  have hTs : s.TypeIs (.ref sl) "slice" := ⟨os, hos, hcs⟩
  unfold getItem
  try with_reducible refine wpAny_holding ?_
  first | refine wpAny_bind (wpAny_pure ?_) | skip
  refine wpAny_bind (wpAny_sequenceKey ht.typeIs (by decide) ?_)
  refine wpAny_bind (wpAny_callSpecial?_slot (name := Str.ofString "__getitem__") ht.typeIs PyProof.Rows.slot_tuple_getitem
    (wpAny_call_entry PyProof.Rows.slot_tuple_getitem ht.typeIs entry_tuple_getitem ?_ (args_tuple_getitem _ _)))
  show wpAny _ _ (Builtin.Tuple.tupleItemsOf (.ref t) >>= _) _ _ s
  refine wpAny_bind (tupleItemsOf_ ht ?_)
  refine wpAny_bind (wpAny_typeOf hTs ?_)
  rw [if_pos (by decide)]
  refine wpAny_bind (applied_rev hs ps ?_)
  have hno : ¬ ((((items.size : Int) - 1) == 0 && (-1 : Int) == 1 && items.size == items.size) = true) := by
    rw [show ((-1 : Int) == 1) = false from rfl, Bool.and_false, Bool.false_and]
    exact Bool.false_ne_true
  show wpAny _ _ (if (((items.size : Int) - 1) == 0 && (-1 : Int) == 1 && items.size == items.size) = true then _ else _) _ _ s
  rw [if_neg hno, pick_rev]
  first
    | exact wpAny_bind (m := Builtin.Tuple.tupleExact _) (wpAny_newObj_type (wpAny_pure ⟨_, rfl, wpAny_pure h⟩) htake)
    | exact wpAny_bind (m := Builtin.Tuple.tupleExact _) (wpAny_newObj_type (wpAny_bind (wpAny_pure (wpAny_pure ⟨_, rfl, wpAny_pure h⟩))) htake)
    | exact wpAny_bind (wpAny_bind (m := Builtin.Tuple.tupleExact _) (wpAny_newObj_type (wpAny_pure (wpAny_pure ⟨_, rfl, wpAny_pure h⟩)) htake))
    | exact wpAny_bind (wpAny_bind (m := Builtin.Tuple.tupleExact _) (wpAny_newObj_type (wpAny_pure ⟨_, rfl, wpAny_pure h⟩) htake))
end
section
variable {X : Cx} {W : WX} {fx : List Nat}
def tRevT (K : PySem.W.Frag) (te : TE) : TE := fun σ H Q => te σ H fun x H1 => ∃ a xs, x = .ref a ∧ SqT K H1 a xs ∧ ∀ p, H1 p = none → Q (.ref p) (upd H1 p (.tup xs.reverse))
theorem pe_revT {e : Expr} {te : TE} {k : Nat} {p1 p2 p3 pos : Pos} (he : PE X e te) : PE X (.Subscript e (.Slice none none (some (.UnaryOp .USub (.Constant (.int 1) k p1) p2)) p3) pos) (tRevT X.K te) := by
  refine ⟨fun pins s σ H Q I h => ?_⟩
  refine Subscript_ (thn (he.run pins s σ H _ I h) fun v s1 ⟨x, H1, I1, r1, q1⟩ => ?_)
  obtain ⟨a, xs, ex, hx, q⟩ := q1
  subst ex
  cases r1
  have hst : PO X (some (.UnaryOp .USub (.Constant (.int 1) k p1) p2)) (tPart (tUn (rU fun i => .int (-i)) (tC (.int 1)))) := po_some (pe_un un_neg pe_int)
  refine wpAny_Slice (thn (po_none.run pins s1 σ H1 (fun o H2 => o = none ∧ H2 = H1) I1 ⟨rfl, rfl⟩) fun vl s2 ⟨l, H2, I2, pl, el, e2⟩ => ?_)
  subst el e2
  refine thn (po_none.run pins s2 σ H2 (fun o H3 => o = none ∧ H3 = H2) I2 ⟨rfl, rfl⟩) fun vu s3 ⟨u, H3, I3, pu, eu, e3⟩ => ?_
  subst eu e3
  refine thn (hst.run pins s3 σ H3 (fun o H4 => o = some (-1) ∧ H4 = H3) I3 ⟨1, rfl, -1, rfl, rfl, rfl⟩) fun vs s4 ⟨o, H4, I4, ps, eo, e4⟩ => ?_
  subst eo e4
  cases pl
  cases pu
  have I5 : Inv X pins σ H4 { s4 with heap := s4.heap.push { cls := .type "slice", data := .fields #[.none, .none, vs] } } := I4.kept (t' := s4.toks) fun b ob q => Heap.get?_push_of_some _ q
  obtain ⟨its, r, ht, hz⟩ := I5.tuple hx
  have hlen := r.length
  show wpAny (model X.prog X.w) X.A (subscriptTail e (.Slice none none (some (.UnaryOp .USub (.Constant (.int 1) k p1) p2)) p3) (.ref a) (.ref s4.heap.objs.size)) (EP X pins σ Q) X.xe { s4 with heap := s4.heap.push { cls := .type "slice", data := .fields #[.none, .none, vs] } }
  refine tail_any (ops := [.ref a, .ref s4.heap.objs.size]) ht.typeIs PyProof.Rows.slot_tuple_getitem.lookup ?_ (by with_unfolding_all rfl)
  refine getItem_tuple_rev ht (Heap.IsSliceOf.new _ .none .none vs) ps ?_ (by rw [List.size_toArray]; omega)
  refine ⟨.ref _, _, I5.laid (t' := s4.toks) (o := .tup xs.reverse) (fun b ob q => Heap.get?_push_of_some _ q) (Nat.le_refl _) ?_, rfl, q _ (I5.hok.fresh (Nat.le_refl _))⟩
  refine ⟨by rw [List.length_reverse]; exact hz, _, r.reverse, ?_⟩
  exact IsTup.new _ _
def dRev : D → Option D
  | .tup xs => some (.tup xs.reverse)
  | .lst xs => some (.lst xs.reverse)
  | _ => none
theorem e_rev {e : Expr} {f : M D} {k : Nat} {p1 p2 p3 pos : Pos} (he : EV X W fx e f) : EV X W fx (.Subscript e (.Slice none none (some (.UnaryOp .USub (.Constant (.int 1) k p1) p2)) p3) pos) (mUn dRev f) := by
  refine PE.imp (PE.or (pe_revT he) (pe_revL he)) fun σ H Q ⟨m₀, ρ, rr, w⟩ => ?_
  rcases Classical.em (∃ ds ρ1, f ρ = .ok (.tup ds) ρ1) with ⟨ds0, ρ0, e0⟩ | key
  · refine .inl (tE.firstE rr w fun d ρ1 v H1 e1 r1 h1 s1 w1 => ?_)
    rw [e0] at e1; cases e1
    obtain ⟨dz, e2, w2⟩ := w1.lift
    cases e2
    cases h1 with
    | tup h2 h3 => exact ⟨_, _, rfl, h2.sq, fun p hp => w2 _ _ (r1.add hp).drop (.tup (.inl ⟨r1.new_out hp, upd_same⟩) (rpA_new h3.reverse hp)) (s1.trans (.grown (keep_new hp)))⟩
  · refine .inr (tE.firstE rr w fun d ρ1 v H1 e1 r1 h1 s1 w1 => ?_)
    obtain ⟨dz, e2, w2⟩ := w1.lift
    cases d with
    | lst xs =>
      cases e2
      cases h1 with
      | lst h2 h3 => exact ⟨_, _, rfl, h2.sq, fun p hp => w2 _ _ (r1.add hp).drop (.lst ⟨r1.new_out hp, upd_same⟩ (rpA_new h3.reverse hp)) (s1.trans (.grown (keep_new hp)))⟩
    | tup xs => exact (key ⟨xs, ρ1, e1⟩).elim
    | _ => cases e2
/-! ### str of a number -/
def dStr : List D → Option D
  | [.int i] => if i.natAbs.log2 < 1920 then some (.str (toString i)) else none
  | _ => none
theorem str_d : CallD X (fun xs H Q => ∃ i, xs = [.int i] ∧ i.natAbs.log2 < 1920 ∧ Q (.str (toString i)) H) dStr := by
  intro m H vs ds dz h e hm Q q
  unfold dStr at e
  split at e
  · split at e
    · rename_i hl
      cases e
      obtain ⟨v, rfl, h1⟩ := rp1 h
      cases h1
      exact ⟨_, rfl, hl, q _ H grown_refl (.str _)⟩
    · cases e
  · cases e
/-! ### a dict of one text and a number -/
theorem e_dict1 {x : Str} {i : Int} {k1 k2 : Nat} {q1 q2 pos : Pos} : EV X W fx (.Dict [some (.Constant (.str x) k1 q1)] [.Constant (.int i) k2 q2] pos) (M.ret (.dic [.inr x] [.int i])) := by
  refine PE.imp (pe_disp (pps_cons pe_str pe_int pps_nil) rfl rfl (by simp) (by simp)) fun σ H Q ⟨m₀, ρ, rr, w⟩ => fun p hp => ?_
  refine ⟨upd_same, [(.inr x, .int i)], rfl, by simp, ?_⟩
  have e : upd (upd H p (.dK [])) p (.dK (mergeK [] [(.inr x, V.int i)])) = upd H p (.dK [(.inr x, V.int i)]) := by
    rw [upd_upd] <;> rfl
  rw [e]
  exact w (.ref p) _ (rr.add hp).drop (.dic (kvs := [(.inr x, .int i)]) (rr.new_out hp) upd_same (.cons (.int i) .nil)) (.grown (keep_new hp))
/-! ### xs[i] += a number, xs owned -/
def rGetL : V → V → Hp → VK → Prop := fun o i H Q => ∃ p xs k z, o = .ref p ∧ i = .int k ∧ 0 ≤ k ∧ H p = some (.lst xs) ∧ xs[k.toNat]? = some z ∧ Q z H
theorem get_list : PGet X rGetL := by
  intro pins s σ H o i ov iv Q I ro ri h
  obtain ⟨p, xs, k, z, rfl, rfl, h0, hp, he, q⟩ := h
  cases ro
  obtain ⟨t, rfl⟩ := ri
  obtain ⟨its, n, r, ho, hz⟩ := I.lst hp
  obtain ⟨w, ew, rw'⟩ := r.get he
  have hlt : k.toNat < xs.length := (List.getElem?_eq_some_iff.mp he).1
  have hn := line63
  exact wpAny_getItem_list (x := w) ⟨_, ho, rfl, n, rfl⟩ h0 (by omega) (by simpa using ew) ⟨z, H, I, rw', q⟩
def augAt (k : D) (b : Int) (ds : List D) : Option (Unit × List D) := match k with
  | .int i => if 0 ≤ i then (match ds[i.toNat]? with
     | some (.int a) => some ((), ds.set i.toNat (.int (a + b)))
     | _ => none) else none
  | _ => none
def mAug (j : Nat) (fi : M D) (b : Int) : M Fl := mOwned j (M.bind fi fun k => M.bind (mAt j (augAt k b)) fun _ => M.ret .nx)
theorem s_aug (j : Nat) {x : Str} {b : Int} {e : Expr} {fi : M D} {kk : Nat} {p1 tpos pos pos' : Pos} (ho : PE X (.Name x pos') (tVar j)) (hi : EV X W fx e fi)
    (ha : ∀ ov iv new, augStore e ov iv new = (do holding [new, ov, iv] (setItem ov iv new); release [new, ov, iv] []; pure .next) := by intros; rfl) :
    SV X W fx (.AugAssign (.Subscript (.Name x pos') e tpos) .Add (.Constant (.int b) kk p1) pos) (mAug j fi b) := by
  refine PS.imp (ps_augS ho hi get_list pe_int ip_add set_list ha) fun E σ H ⟨m₀, ρ, rr, w⟩ => ?_
  have w0 := w
  unfold mAug mOwned at w
  by_cases ho : isOwn ρ j = true
  · rw [if_pos ho] at w
    obtain ⟨ds0, eo⟩ := isOwn_ok ho
    obtain ⟨p0, _, ep, _, _, _⟩ := rr.own j ds0 eo
    refine ⟨.ref p0, ep, ?_⟩
    refine tE.first rr w fun k ρ1 iv H1 r1 h1 s1 w2 => ?_
    obtain ⟨ds, u, es, eo1, e2, w3⟩ := at_ok w2
    obtain ⟨p, vs, ep1, eH, hA, hw⟩ := r1.write eo1
    rw [ep] at ep1; cases ep1
    unfold augAt at e2
    split at e2
    · split at e2
      · rename_i i hi
        split at e2
        · rename_i a ea
          cases e2
          cases h1
          obtain ⟨v, ev, hv⟩ := hA.get ea
          cases hv
          have hlt : i.toNat < vs.length := (List.getElem?_eq_some_iff.mp ev).1
          obtain ⟨r2, s2⟩ := hw (vs.set i.toNat (.int (a + b))) (ds.set i.toNat (.int (a + b))) (hA.set i.toNat (.int _))
          refine ⟨p0, vs, i, _, rfl, rfl, hi, eH, ev, ?_⟩
          refine ⟨a, b, rfl, rfl, ?_⟩
          refine ⟨p0, vs, i, i.toNat, rfl, rfl, eH, ?_, ?_⟩
          · unfold ixN; rw [if_pos hi, if_pos (by omega)]
          · exact w3 σ _ r2 (s1.trans s2) .refl
        · cases e2
      · cases e2
    · cases e2
  · rw [if_neg ho] at w; exact w.elim
/-! ### a tuple compared with an empty one -/
def rEqT0 (K : PySem.W.Frag) : R2 := fun x y H Q => ∃ a b xs, x = .ref a ∧ y = .ref b ∧ SqT K H a xs ∧ SqT K H b [] ∧ Q (.bl xs.isEmpty) H
def rNeT0 (K : PySem.W.Frag) : R2 := fun x y H Q => ∃ a b xs, x = .ref a ∧ y = .ref b ∧ SqT K H a xs ∧ SqT K H b [] ∧ Q (.bl (!xs.isEmpty)) H
theorem op_eqT0 (hu : X.A.units + 64 < cLine) : OpR X (compareOp .Eq) (rEqT0 X.K) := by
  intro pins s σ H x y v u Q I rx ry h
  obtain ⟨a, b, xs, rfl, rfl, ha, hb, q⟩ := h
  cases (show v = Value.ref a from rx)
  cases (show u = Value.ref b from ry)
  obtain ⟨us, r1, p1, _⟩ := I.tuple ha
  obtain ⟨ws, r2, p2, _⟩ := I.tuple hb
  cases r2
  have e : ((List.range (min us.toArray.size (#[] : Array Value).size)).all (fun _ => true) && us.toArray.size == (#[] : Array Value).size) = xs.isEmpty := by
    have l := r1.length
    have h0 : (#[] : Array Value).size = 0 := rfl
    rw [h0, Nat.min_zero, List.range_zero, List.all_nil, Bool.true_and, List.size_toArray, ← l]
    cases xs <;> rfl
  refine SeqAt.eq_tupleAt (e := fun _ => true) p1 p2 (by omega) (fun j h1 h2 => ?_) ?_
  · simp at h2
  · exact ⟨.bl xs.isEmpty, H, I, by rw [show RelV (.bl xs.isEmpty) _ = _ from rfl]; exact congrArg Value.bool e, q⟩
theorem op_neT0 (hu : X.A.units + 64 < cLine) : OpR X (compareOp .NotEq) (rNeT0 X.K) := by
  intro pins s σ H x y v u Q I rx ry h
  obtain ⟨a, b, xs, rfl, rfl, ha, hb, q⟩ := h
  cases (show v = Value.ref a from rx)
  cases (show u = Value.ref b from ry)
  obtain ⟨us, r1, p1, _⟩ := I.tuple ha
  obtain ⟨ws, r2, p2, _⟩ := I.tuple hb
  cases r2
  have e : (!((List.range (min us.toArray.size (#[] : Array Value).size)).all (fun _ => true) && us.toArray.size == (#[] : Array Value).size)) = !xs.isEmpty := by
    have l := r1.length
    have h0 : (#[] : Array Value).size = 0 := rfl
    rw [h0, Nat.min_zero, List.range_zero, List.all_nil, Bool.true_and, List.size_toArray, ← l]
    cases xs <;> rfl
  exact SeqAt.RcNeAt.tuples (e := fun _ => true) p1 p2 (by omega) (fun j h1 h2 => by simp at h2) _ _ _ _ ⟨.bl (!xs.isEmpty), H, I, congrArg Value.bool e, q⟩
def rEqY (K : PySem.W.Frag) : R2 := fun x y H Q => rEqA K x y H Q ∨ rEqT0 K x y H Q
def rNeY (K : PySem.W.Frag) : R2 := fun x y H Q => rNeA K x y H Q ∨ rNeT0 K x y H Q
theorem op_eqY (hu : X.A.units + 64 < cLine) : OpR X (compareOp .Eq) (rEqY X.K) := (op_eqA hu).or (op_eqT0 hu)
theorem op_neY (hu : X.A.units + 64 < cLine) : OpR X (compareOp .NotEq) (rNeY X.K) := (op_neA hu).or (op_neT0 hu)
def dEqT (x y : D) : Option D := match x, y with
  | .tup xs, .tup [] => some (.bl xs.isEmpty)
  | x, y => dEq x y
def dNeT (x y : D) : Option D := match x, y with
  | .tup xs, .tup [] => some (.bl (!xs.isEmpty))
  | x, y => dNe x y
theorem RpA.isEmpty {m : Addr → Prop} {K : PySem.W.Frag} {g : Str → Option Value} {H : Hp} {vs : List V} {ds : List D} (h : RpA m K g H vs ds) : vs.isEmpty = ds.isEmpty := by
  cases h <;> rfl
theorem eqT_d : OpD X (rEqY X.K) dEqT := by
  intro m H x y dx dy dz hx hy e hm Q q
  unfold dEqT at e
  split at e
  · cases e
    cases hx with
    | tup h1 h2 => cases hy with
      | tup h3 h4 =>
        cases h4
        exact .inr ⟨_, _, _, rfl, rfl, h1.sq, h3.sq, by rw [h2.isEmpty]; exact q _ H grown_refl (.bl _)⟩
  · exact .inl (eq_d m H x y _ _ dz hx hy e hm Q q)
theorem neT_d : OpD X (rNeY X.K) dNeT := by
  intro m H x y dx dy dz hx hy e hm Q q
  unfold dNeT at e
  split at e
  · cases e
    cases hx with
    | tup h1 h2 => cases hy with
      | tup h3 h4 =>
        cases h4
        exact .inr ⟨_, _, _, rfl, rfl, h1.sq, h3.sq, by rw [h2.isEmpty]; exact q _ H grown_refl (.bl _)⟩
  · exact .inl (ne_d m H x y _ _ dz hx hy e hm Q q)
/-! ### a slice of an owned list -/
def mSlO (j : Nat) (fl fh : M (Option Int)) : M D := mOwned j (M.bind fl fun lo => M.bind fh fun hi => mAt j fun ds => some (.lst (cutD ds lo hi), ds))
theorem e_sliceO (j : Nat) {o : Expr} {lo hi : Option Expr} {fl fh : M (Option Int)} {p2 pos : Pos} (ho : PE X o (tVar j)) (hl : OV X W fx lo fl) (hh : OV X W fx hi fh) : EV X W fx (.Subscript o (.Slice lo hi none p2) pos) (mSlO j fl fh) := by
  refine PE.imp (pe_slice sl_list ho hl hh) fun σ H Q ⟨m₀, ρ, rr, w⟩ => ?_
  unfold mSlO mOwned at w
  by_cases hown : isOwn ρ j = true
  · rw [if_pos hown] at w
    obtain ⟨ds0, eo⟩ := isOwn_ok hown
    obtain ⟨p0, _, ep, _, _, _⟩ := rr.own j ds0 eo
    refine ⟨.ref p0, ep, ?_⟩
    refine tO.first rr w fun l ρ2 H2 r2 s2 w2 => tO.first r2 w2 fun u ρ3 H3 r3 s3 w3 => ?_
    unfold mAt at w3
    split at w3
    · rename_i ds eo1
      obtain ⟨p, vs, ep1, eH, hA, hw⟩ := r3.write eo1
      rw [ep] at ep1; cases ep1
      dsimp only at w3
      rw [set_selfE eo1] at w3
      exact ⟨p0, vs, rfl, .inl (.inl eH), fun p hp => w3 _ _ (r3.add hp).drop (.lst ⟨r3.new_out hp, upd_same⟩ (rpA_new (cut_rp hA l u) hp)) ((s2.trans s3).trans (.grown (keep_new hp)))⟩
    · exact w3.elim
  · rw [if_neg hown] at w; exact w.elim
end
end PV

/-! enumerate(tuple) -/
namespace PV
open PySem PySem.Spec PyProof.Rows L2
section
theorem meets_enumerate_one {v : Value} {o : Obj} {H : Heap → Prop} (B : Begins v o H) :
    Meets (Builtin.«enumerate.__new__» ⟨[.type "enumerate", v], []⟩) (fun _ R s => H s.heap ∧
      R (.ok (.ret (.ref (s.heap.push o).objs.size))) { s with heap := (s.heap.push o).push { cls := .type "enumerate", data := .fields #[.none, .bool false, .ref s.heap.objs.size, rawInt 0, .none, .none] } }) :=
  .of_wp fun prog w A R s h => by
    obtain ⟨hp, g, d, tk, os⟩ := s; obtain ⟨h1, h⟩ := h
    have hsub := sub_enumerate
    have q1 : ∀ {A' : Around} {E : Value → Shared → Prop} {Q : Value → Shared → Prop}, Q (.ref hp.objs.size) ⟨hp.push o, g, d, tk, os⟩ → wpAny (model prog w) A' (pyIter v) Q E ⟨hp, g, d, tk, os⟩ :=
      fun q => B.iter prog w _ _ ⟨hp, g, d, tk, os⟩ _ h1 q
    wp_walk using q1
    refine wpAny_stack_any fun st => wpAny_pure ?_
    split
    · rename_i c _ _ _ _ _
      cases (c == Value.type "enumerate")
      · wp_walk using q1
        exact ⟨_, rfl, h⟩
      · wp_walk using q1
        exact ⟨_, rfl, h⟩
    · wp_walk using q1
      exact ⟨_, rfl, h⟩
variable {prog : Program} {w : World} {A : Around} {E : Value → Shared → Prop} {s : Shared}
theorem enum_one {v : Value} {o : Obj} {H : Heap → Prop} {Q : Value → Shared → Prop} (B : Begins v o H) (h1 : H s.heap)
    (h : ∀ h', IsEnum h' (s.heap.objs.size + 1) s.heap.objs.size 0 .none → h'.get? s.heap.objs.size = some o → h'.objs.size = s.heap.objs.size + 2 →
      (∀ b o, s.heap.get? b = some o → h'.get? b = some o) → Q (.ref (s.heap.objs.size + 1)) { s with heap := h' }) :
    wpAny (model prog w) A (call (.type "enumerate") [v]) Q E s := by
  refine callType_new F.called_enumerate (by decide) (F.typeCall_enumerate_1 _) (F.newCall_enumerate_1 _) (fun obj => F.args_object_init_2 obj _) F.entry_enumerate_new
    (meets_enumerate_one B) ⟨h1, ?_⟩
  have hz : (s.heap.push o).objs.size = s.heap.objs.size + 1 := Heap.size_push ..
  show _ ∧ _
  rw [hz]
  have he : IsEnum ((s.heap.push o).push { cls := .type "enumerate", data := .fields #[.none, .bool false, .ref s.heap.objs.size, rawInt 0, .none, .none] }) (s.heap.objs.size + 1) s.heap.objs.size 0 .none := by
    have := Heap.get?_push_size (s.heap.push o) (o := { cls := .type "enumerate", data := .fields #[.none, .bool false, .ref s.heap.objs.size, rawInt 0, .none, .none] }) rfl
    rw [hz] at this; exact this
  refine ⟨⟨_, he, rfl⟩, h _ he (Heap.get?_push_of_some _ (Heap.get?_push_size _ B.free)) (by rw [Heap.size_push, hz]) fun b o x => Heap.get?_push_of_some _ (Heap.get?_push_of_some _ x)⟩
end
/-- the tuple at a as it stands, each item in a new pair -/
def IteT (K : PySem.W.Frag) (a : Addr) : L2.It :=
  ⟨fun i H => ∃ (xs : List V) (x : V), SqT K H a xs ∧ xs[i]? = some x, fun i H v H' => ∃ T x, v = .ref T ∧ H T = none ∧ H' = upd H T (.tup [.int (i : Nat), x]) ∧ ∀ xs, SqT K H a xs → xs[i]? = some x, fun i H => ∃ xs : List V, SqT K H a xs ∧ xs.length = i⟩
theorem turn_enumT {P : Program} {w : World} {K : PySem.W.Frag} {elts : List Expr} {kk : Nat} {tpos : Pos} (a e it : Addr) :
    Turn P w K (.Tuple elts kk tpos) (IteT K a) [e, it] e (fun i h => (∃ old, IsEnum h e it ((i : Nat) : Int) old) ∧ h.IsTupleIter it a i ∧ e ≠ it ∧ a ≠ it ∧ a ≠ e) where
  mem := by simp
  obj := fun i h st b hb => by
    obtain ⟨⟨old, he⟩, ⟨o, ho, hc, hd⟩, _⟩ := st
    have e' : b = e ∨ b = it := by simpa using hb
    rcases e' with z | z
    · rw [z]; exact ⟨_, he, fun v q => nomatch q⟩
    · rw [z]; exact ⟨o, ho, fun v q => by rw [hd] at q; cases q⟩
  keep := fun i h h' st k => let ⟨⟨old, he⟩, hi, hne⟩ := st; ⟨⟨old, k e (by simp) _ he⟩, hi.at fun o q => k it (by simp) o q, hne⟩
  item := by
    intro X hP hw hK hc i pins s σ H E I hf st hg
    subst hP hw hK
    obtain ⟨⟨old, he⟩, hit, hne, hai, hae⟩ := st
    obtain ⟨xs, x, hq, hx⟩ := hg
    obtain ⟨its, rv, p, hz⟩ := I.tuple hq
    obtain ⟨u, hu, ru⟩ := rv.get hx
    have hlt : i < its.toArray.size := by rw [List.size_toArray]; exact (List.getElem?_eq_some_iff.mp hu).1
    have hel : e < s.heap.objs.size := Heap.lt_size he
    have hil : it < s.heap.objs.size := by obtain ⟨_, q, _⟩ := hit; exact Heap.lt_size q
    refine wpAny_pyNext_enum_itemD (Draws.tuple (A := X.A.in1) (show X.A.in1.handled = none from I.ok.hd hc) it a hai its.toArray) he ⟨hit, p⟩ hlt hne (by simp [hne, Ne.symm hae]) fun y h' tk hP ho hst' hT hsz hk => ?_
    have ey : y = u := by
      have hP' : its[i]? = some y := by simpa using hP
      rw [hu] at hP'; exact (Option.some.inj hP').symm
    subst ey
    obtain ⟨hit', hta⟩ := hst'
    refine ⟨_, rfl, wpAny_letOwnedTupleGo_enum (s := { s with heap := h', toks := tk + 1 }) ho fun h'' he' sb => ?_⟩
    have hT2 : h''.get? s.heap.objs.size = some { cls := .type "tuple", data := .seq #[.int i tk, y] } := (sb.2 _ (Nat.ne_of_gt hel)).trans hT
    have new : ObjOk X.prog X.w (upd H s.heap.objs.size (.tup [.int (i : Nat), x])) h'' s.heap.objs.size (.tup [.int (i : Nat), x]) :=
      ⟨by show 2 ≤ sizeLine; decide, [.int i tk, y], .cons ⟨_, rfl⟩ (.cons ru .nil), ⟨_, hT2, rfl, _, rfl⟩⟩
    have I1 : Inv X pins σ (upd H s.heap.objs.size (.tup [.int (i : Nat), x])) { s with heap := h'', toks := tk + 1 } :=
      I.turnedNew (ch := [e, it]) (fun b ob hb q => (sb.2 b (fun z => hb (by simp [z]))).trans (hk b ob (fun z => hb (by simp [z])) (fun z => hb (by simp [z])) q)) hf (Nat.le_refl _) new
    refine ⟨.ref s.heap.objs.size, _, I1, rfl, ⟨_, x, rfl, I.hok.fresh (Nat.le_refl _), rfl, fun ys hy => by rw [I.tuple_inj hy hq]; exact hx⟩, ⟨⟨y, ?_⟩, hit'.at fun o q => (sb.2 it (Ne.symm hne)).trans q, hne, hai, hae⟩, fun b hb => ?_⟩
    · have e1 : ((i + 1 : Nat) : Int) = (i : Int) + 1 := by omega
      rw [e1]; exact he'
    · have hb' : b < s.heap.objs.size := by
        have e' : b = e ∨ b = it := by simpa using hb
        rcases e' with z | z
        · rw [z]; exact hel
        · rw [z]; exact hil
      rw [upd_ne (Nat.ne_of_lt hb')]
      exact (hf b hb).1
  done := by
    intro X hP hw hK hc i pins s σ H E I hf st hg
    subst hP hw hK
    obtain ⟨⟨old, he⟩, hit, hne, hai, hae⟩ := st
    obtain ⟨xs, hq, hx⟩ := hg
    obtain ⟨its, rv, p, hz⟩ := I.tuple hq
    obtain ⟨f0, f1, f2, f3, f4, f5⟩ := hf it (by simp)
    have hl := rv.length
    have hi : i = its.toArray.size := by rw [List.size_toArray]; omega
    rw [hi] at hit
    exact wpAny_pyNext_enum_endD (Draws.tuple (A := X.A.in1) (show X.A.in1.handled = none from I.ok.hd hc) it a hai its.toArray) he ⟨hit, p⟩ fun h' eb => ⟨rfl, I.turned (t' := s.toks) (fun b o hb q => eb b o hb q) f0 f1 f3 f4 f5⟩
  self := fun A i s Q E st h => let ⟨⟨_, he⟩, _⟩ := st; wpAny_pyIter_enum he h
def iEnumA (K : PySem.W.Frag) (ta : TA) : TI := fun σ H R => ta σ H fun vs H1 => ∃ a xs, vs = [.ref a] ∧ ((SqL K H1 a xs ∧ R (Ite K a) H1) ∨ (SqT K H1 a xs ∧ R (IteT K a) H1))
theorem pi_enumA {X : Cx} {e : Expr} {ta : TA} {p pos tpos : Pos} {elts : List Expr} {kk : Nat} (hg : Gl X "enumerate") (hm : X.mg "enumerate" = none) (ha : PA X [e] ta) (hs : starEach [e] X.env = [(false, eval e X.env)] := by rfl) :
    PI X (.Tuple elts kk tpos) (.Call (.Name "enumerate" p) [e] [] pos) (iEnumA X.K ta) := by
  refine ⟨fun pins s σ H R I h => ?_⟩
  refine Call_ (ld_blt I hg hm boot_enumerate (PyProof.Rows.callWith_type1 (thn (ha.run pos pins s σ H _ I h) fun us s1 ⟨vs, H1, I1, r1, q1⟩ => ?_) hs rfl))
  obtain ⟨a, xs, ex, q1⟩ := q1
  subst ex
  cases r1 with
  | cons r rr =>
    cases rr
    cases r
    have fp : ∀ b ∈ [s1.heap.objs.size + 1, s1.heap.objs.size], FpOk X pins H1 b := fun b hb => by
      have e' : b = s1.heap.objs.size + 1 ∨ b = s1.heap.objs.size := by simpa using hb
      have hle : s1.heap.objs.size ≤ b := by
        rcases e' with z | z
        · rw [z]; exact Nat.le_add_right _ _
        · rw [z]; exact Nat.le_refl _
      exact I1.fpOk hle (I1.hok.fresh hle)
    rcases q1 with ⟨hq, q⟩ | ⟨hq, q⟩
    · obtain ⟨its, rv, p', hz⟩ := I1.list hq
      refine call_enumerate_list p'.isList fun h' he hit hsz hk => wpAny_pyIter_enum he ?_
      have I2 : Inv X pins σ H1 { s1 with heap := h' } := I1.kept (t' := s1.toks) hk
      exact ⟨s1.heap.objs.size + 1, [s1.heap.objs.size + 1, s1.heap.objs.size], _, _, H1, rfl, I2, turn_enum a (s1.heap.objs.size + 1) s1.heap.objs.size, ⟨⟨.none, he⟩, hit, Nat.succ_ne_self _⟩, fp, q⟩
    · obtain ⟨its, rv, p', hz⟩ := I1.tuple hq
      have hal : a < s1.heap.objs.size := by obtain ⟨_, z, _⟩ := p'; exact Heap.lt_size z
      refine enum_one (begins_tuple a its.toArray) p' fun h' he hit hsz hk => wpAny_pyIter_enum he ?_
      have I2 : Inv X pins σ H1 { s1 with heap := h' } := I1.kept (t' := s1.toks) hk
      exact ⟨s1.heap.objs.size + 1, [s1.heap.objs.size + 1, s1.heap.objs.size], _, _, H1, rfl, I2, turn_enumT a (s1.heap.objs.size + 1) s1.heap.objs.size, ⟨⟨.none, he⟩, ⟨_, hit, rfl, rfl⟩, Nat.succ_ne_self _, Nat.ne_of_lt hal, Nat.ne_of_lt (Nat.lt_succ_of_lt hal)⟩, fp, q⟩
def enumD (ds : List D) : List D := ds.mapIdx fun i d => D.tup [.int (i : Nat), d]
theorem enum_get {ds : List D} {i : Nat} {d : D} (e : (enumD ds)[i]? = some d) : ∃ x, ds[i]? = some x ∧ d = .tup [.int (i : Nat), x] := by
  unfold enumD at e
  rw [List.getElem?_mapIdx] at e
  obtain ⟨x, h1, h2⟩ := Option.map_eq_some_iff.mp e
  exact ⟨x, h1, h2.symm⟩
theorem enum_len {ds : List D} : (enumD ds).length = ds.length := by unfold enumD; simp
section
variable {m : Addr → Prop} {K : PySem.W.Frag} {g : Str → Option Value} {H : Hp} {a : Addr} {xs : List V} {ds : List D}
theorem src_enumL (h : RL m H a xs) (h2 : RpA m K g H xs ds) : Src K g m H (Ite K a) (enumD ds) := by
  refine ⟨fun m H => RL m H a xs ∧ RpA m K g H xs ds, ⟨h, h2⟩, fun m m' H H' ⟨p, q⟩ s k => ⟨p.mono s k, RpA.mono s k _ _ q⟩, fun i m H d ⟨p, q⟩ hm e => ?_, fun m H ⟨p, q⟩ => ⟨xs, p.sq, ?_⟩⟩
  · obtain ⟨dx, e1, rfl⟩ := enum_get e
    obtain ⟨v, f1, g1⟩ := q.get e1
    refine ⟨⟨xs, v, p.sq, f1⟩, fun x H' y => ?_⟩
    obtain ⟨T, x1, rfl, n, rfl, y2⟩ := y
    have e3 := y2 xs p.sq
    rw [f1] at e3; cases e3
    exact new_pair hm n (.int _) g1
  · rw [enum_len, q.length]; omega
theorem src_enumT (h : RT m K H a xs) (h2 : RpA m K g H xs ds) : Src K g m H (IteT K a) (enumD ds) := by
  refine ⟨fun m H => RT m K H a xs ∧ RpA m K g H xs ds, ⟨h, h2⟩, fun m m' H H' ⟨p, q⟩ s k => ⟨p.mono s k, RpA.mono s k _ _ q⟩, fun i m H d ⟨p, q⟩ hm e => ?_, fun m H ⟨p, q⟩ => ⟨xs, p.sq, ?_⟩⟩
  · obtain ⟨dx, e1, rfl⟩ := enum_get e
    obtain ⟨v, f1, g1⟩ := q.get e1
    refine ⟨⟨xs, v, p.sq, f1⟩, fun x H' y => ?_⟩
    obtain ⟨T, x1, rfl, n, rfl, y2⟩ := y
    have e3 := y2 xs p.sq
    rw [f1] at e3; cases e3
    exact new_pair hm n (.int _) g1
  · rw [enum_len, q.length]
end
def enum1 : List D → Option (List D)
  | [.lst xs] => some (enumD xs)
  | [.tup xs] => some (enumD xs)
  | _ => none
theorem i_enum {X : Cx} {W : WX} {fx : List Nat} {e : Expr} {fl : M (List D)} {p pos tpos : Pos} {elts : List Expr} {kk : Nat} (hg : Gl X "enumerate") (hm : X.mg "enumerate" = none) (ha : LV X W fx [e] fl) (hs : starEach [e] X.env = [(false, eval e X.env)] := by rfl) :
    IV X W fx (.Tuple elts kk tpos) (.Call (.Name "enumerate" p) [e] [] pos) (mIter' enum1 fl) := by
  refine PI.imp (pi_enumA hg hm ha hs) fun σ H R ⟨m₀, ρ, rr, w⟩ => ?_
  refine tL.first rr w fun ds ρ1 vs H1 _ r1 h1 s1 w1 => ?_
  obtain ⟨is, e2, w2⟩ := w1.lift
  unfold enum1 at e2
  split at e2
  · cases e2
    obtain ⟨v, rfl, h2⟩ := rp1 h1
    cases h2 with
    | lst a1 a2 => exact ⟨_, _, rfl, .inl ⟨a1.sq, w2 _ H1 r1 (src_enumL a1 a2) s1⟩⟩
  · cases e2
    obtain ⟨v, rfl, h2⟩ := rp1 h1
    cases h2 with
    | tup a1 a2 => exact ⟨_, _, rfl, .inr ⟨a1.sq, w2 _ H1 r1 (src_enumT a1 a2) s1⟩⟩
  · cases e2
/-! ### zip of a tuple and a list, of a list and a tuple -/
/-- a list, a tuple by a sign -/
def SqB (f : Bool) (K : PySem.W.Frag) (H : Hp) (a : Addr) (xs : List V) : Prop := if f = true then SqT K H a xs else SqL K H a xs
def ItB (f : Bool) (h : Heap) (it a : Addr) (i : Nat) : Prop := if f = true then h.IsTupleIter it a i else h.IsListIter it a i
def IsB (f : Bool) (h : Heap) (a : Addr) (its : Array Value) : Prop := if f = true then h.IsTuple a its else h.IsList a its
theorem Draws.seqB {prog : Program} {w : World} {A : Around} (f : Bool) (hh : A.handled = none) (it a : Addr) (hne : a ≠ it) (items : Array Value) :
    Draws prog w A it [it, a] items.size (fun i v => items[i]? = some v) (fun i h => ItB f h it a i ∧ IsB f h a items) := by
  cases f with
  | true => exact Draws.tuple hh it a hne items
  | false => exact Draws.list hh it a hne items
theorem Inv.seqB {X : Cx} {pins : List (Addr × Obj)} {σ : L2.St} {H : Hp} {s : Shared} {f : Bool} {a : Addr} {xs : List V} (I : Inv X pins σ H s) (h : SqB f X.K H a xs) : ∃ its : List Value, Vals xs its ∧ IsB f s.heap a its.toArray ∧ a < s.heap.objs.size := by
  cases f with
  | true =>
    obtain ⟨its, rv, p, _⟩ := I.tuple (show SqT X.K H a xs from h)
    obtain ⟨o, ho, _⟩ := id p
    exact ⟨its, rv, p, Heap.lt_size ho⟩
  | false =>
    obtain ⟨its, rv, p, _⟩ := I.list (show SqL X.K H a xs from h)
    exact ⟨its, rv, p.isList, p.lt⟩
theorem Inv.seqB_inj {X : Cx} {pins : List (Addr × Obj)} {σ : L2.St} {H : Hp} {s : Shared} {f : Bool} {a : Addr} {xs ys : List V} (I : Inv X pins σ H s) (h : SqB f X.K H a xs) (h' : SqB f X.K H a ys) : xs = ys := by
  cases f with
  | true => exact I.tuple_inj (show SqT X.K H a xs from h) h'
  | false => exact I.list_inj (show SqL X.K H a xs from h) h'
theorem ItB.at {f : Bool} {h h' : Heap} {it a : Addr} {i : Nat} (st : ItB f h it a i) (k : ∀ o, h.get? it = some o → h'.get? it = some o) : ItB f h' it a i := by
  cases f with
  | true => exact Heap.IsTupleIter.at (show h.IsTupleIter it a i from st) fun o q => k o q
  | false => exact Heap.IsListIter.at (show h.IsListIter it a i from st) fun o q => k o q
theorem ItB.obj {f : Bool} {h : Heap} {it a : Addr} {i : Nat} (st : ItB f h it a i) : ∃ o vs, h.get? it = some o ∧ o.data = .fields vs := by
  cases f with
  | true => obtain ⟨o, e, _, d⟩ := (show h.IsTupleIter it a i from st); exact ⟨o, _, e, d⟩
  | false => obtain ⟨o, e, _, d⟩ := (show h.IsListIter it a i from st); exact ⟨o, _, e, d⟩
def ItzB (f g : Bool) (K : PySem.W.Frag) (a b : Addr) : L2.It :=
  ⟨fun i H => ∃ (xs ys : List V) (x y : V), SqB f K H a xs ∧ SqB g K H b ys ∧ xs[i]? = some x ∧ ys[i]? = some y,
    fun i H v H' => ∃ T x y, v = .ref T ∧ H T = none ∧ H' = upd H T (.tup [x, y]) ∧ (∀ xs, SqB f K H a xs → xs[i]? = some x) ∧ ∀ ys, SqB g K H b ys → ys[i]? = some y,
    fun i H => ∃ xs ys : List V, SqB f K H a xs ∧ SqB g K H b ys ∧ i ≤ xs.length ∧ i ≤ ys.length ∧ (i = xs.length ∨ i = ys.length)⟩
theorem sep_of {a b z TI TO i1 i2 : Addr} (D : ZipApart z TI TO i1 i2 a b) : ZipSep2 z TI TO i1 i2 [i1, a] [i2, b] where
  TIz := D.TIz
  TOz := D.TOz
  TITO := D.TITO
  TIi1 := D.TIi1
  mem1 := by simp
  zf1 := by simp [Ne.symm D.i1z, Ne.symm D.l1z]
  Tf1 := by simp [D.TOi1, Ne.symm D.l1TO]
  TIi2 := D.TIi2
  mem2 := by simp
  zf2 := by simp [Ne.symm D.i2z, Ne.symm D.l2z]
  Tf2 := by simp [D.TOi2, Ne.symm D.l2TO]
  sep1_2 := by simp [D.i12, Ne.symm D.l2i1]
  sep2_1 := by simp [Ne.symm D.i12, Ne.symm D.l1i2]
theorem turn_zipB {P : Program} {w : World} {K : PySem.W.Frag} {elts : List Expr} {kk : Nat} {tpos : Pos} {f g : Bool} {a b z TI TO i1 i2 : Addr} (D : ZipApart z TI TO i1 i2 a b) :
    Turn P w K (.Tuple elts kk tpos) (ItzB f g K a b) [z, TI, TO, i1, i2] z (fun i h => IsZip h z TI TO .none ∧ IsPair h TI (.ref i1) (.ref i2) ∧ (∃ x y, IsPair h TO x y) ∧ ItB f h i1 a i ∧ ItB g h i2 b i) where
  mem := by simp
  obj := fun i h st c hc => by
    obtain ⟨hz, hTI, ⟨x, y, hTO⟩, s1, s2⟩ := st
    obtain ⟨o1, v1, e1, d1⟩ := s1.obj
    obtain ⟨o2, v2, e2, d2⟩ := s2.obj
    have e' : c = z ∨ c = TI ∨ c = TO ∨ c = i1 ∨ c = i2 := by simpa using hc
    rcases e' with q | q | q | q | q
    · rw [q]; exact ⟨_, hz, fun v q => nomatch q⟩
    · rw [q]; exact ⟨_, hTI, fun v q => nomatch q⟩
    · rw [q]; exact ⟨_, hTO, fun v q => nomatch q⟩
    · rw [q]; exact ⟨o1, e1, fun v q => by rw [d1] at q; cases q⟩
    · rw [q]; exact ⟨o2, e2, fun v q => by rw [d2] at q; cases q⟩
  keep := fun i h h' st k => by
    obtain ⟨hz, hTI, ⟨x, y, hTO⟩, h1, h2⟩ := st
    exact ⟨k z (by simp) _ hz, k TI (by simp) _ hTI, ⟨x, y, k TO (by simp) _ hTO⟩, h1.at fun o q => k i1 (by simp) o q, h2.at fun o q => k i2 (by simp) o q⟩
  item := by
    intro X hP hw hK hc i pins s σ H E I hf st hg
    subst hP hw hK
    obtain ⟨hz, hTI, ⟨x0, y0, hTO⟩, h1, h2⟩ := st
    obtain ⟨xs, ys, x, y, hqx, hqy, hx, hy⟩ := hg
    obtain ⟨its, rv, p, _⟩ := Inv.seqB I hqx
    obtain ⟨its2, rv2, p2, _⟩ := Inv.seqB I hqy
    obtain ⟨u, hu, ru⟩ := rv.get hx
    obtain ⟨u2, hu2, ru2⟩ := rv2.get hy
    have l1 : i < its.toArray.size := by rw [List.size_toArray]; exact (List.getElem?_eq_some_iff.mp hu).1
    have l2 : i < its2.toArray.size := by rw [List.size_toArray]; exact (List.getElem?_eq_some_iff.mp hu2).1
    have hzl : z < s.heap.objs.size := Heap.lt_size hz
    have hh : X.A.in1.handled = none := I.ok.hd hc
    refine wpAny_pyNext_zipD2_item (sep_of D) (Draws.seqB f hh i1 a D.l1i1 its.toArray) (Draws.seqB g hh i2 b D.l2i2 its2.toArray) hz hTI hTO ⟨h1, p⟩ ⟨h2, p2⟩ l1 l2 fun y1 y2 h' tk P1 P2 z' TO' st1' st2' hT hsz hk => ?_
    have ey : y1 = u := by
      have hP' : its[i]? = some y1 := by simpa using P1
      rw [hu] at hP'; exact (Option.some.inj hP').symm
    have ey2 : y2 = u2 := by
      have hP' : its2[i]? = some y2 := by simpa using P2
      rw [hu2] at hP'; exact (Option.some.inj hP').symm
    subst ey ey2
    refine ⟨_, rfl, wpAny_letOwnedTupleGo_zip (s := { s with heap := h', toks := tk }) z' fun h'' z'' sb => ?_⟩
    have hT2 : h''.get? s.heap.objs.size = some { cls := .type "tuple", data := .seq #[y1, y2] } := (sb.2 _ (Nat.ne_of_gt hzl)).trans hT
    have new : ObjOk X.prog X.w (upd H s.heap.objs.size (.tup [x, y])) h'' s.heap.objs.size (.tup [x, y]) :=
      ⟨by show 2 ≤ sizeLine; decide, [y1, y2], .cons ru (.cons ru2 .nil), ⟨_, hT2, rfl, _, rfl⟩⟩
    have I1 : Inv X pins σ (upd H s.heap.objs.size (.tup [x, y])) { s with heap := h'', toks := tk } :=
      I.turnedNew (t' := tk) (ch := [z, TI, TO, i1, i2]) (fun c o hb q => (sb.2 c (fun q' => hb (by simp [q']))).trans (hk c o (fun q' => hb (by simp [q'])) (fun q' => hb (by simp [q'])) (fun q' => hb (by simp [q'])) (fun q' => hb (by simp [q'])) q)) hf (Nat.le_refl _) new
    refine ⟨.ref s.heap.objs.size, _, I1, rfl, ⟨_, x, y, rfl, I.hok.fresh (Nat.le_refl _), rfl, fun l hl => by rw [Inv.seqB_inj I hl hqx]; exact hx, fun l hl => by rw [Inv.seqB_inj I hl hqy]; exact hy⟩, ⟨z'', ?_, ⟨y1, y2, ?_⟩, ?_, ?_⟩, fun c hcm => ?_⟩
    · exact (sb.2 _ D.TIz).trans (hk _ _ D.TIz D.TITO D.TIi1 D.TIi2 hTI)
    · exact (sb.2 _ D.TOz).trans TO'
    · exact st1'.1.at fun o q => (sb.2 _ D.i1z).trans q
    · exact st2'.1.at fun o q => (sb.2 _ D.i2z).trans q
    · have hlt : c < s.heap.objs.size := by
        obtain ⟨o1, v1, e1, _⟩ := h1.obj
        obtain ⟨o2, v2, e2, _⟩ := h2.obj
        have e' : c = z ∨ c = TI ∨ c = TO ∨ c = i1 ∨ c = i2 := by simpa using hcm
        rcases e' with q | q | q | q | q
        · rw [q]; exact hzl
        · rw [q]; exact Heap.lt_size hTI
        · rw [q]; exact Heap.lt_size hTO
        · rw [q]; exact Heap.lt_size e1
        · rw [q]; exact Heap.lt_size e2
      rw [upd_ne (Nat.ne_of_lt hlt)]
      exact (hf c hcm).1
  done := by
    intro X hP hw hK hc i pins s σ H E I hf st hg
    subst hP hw hK
    obtain ⟨hz, hTI, ⟨x0, y0, hTO⟩, h1, h2⟩ := st
    obtain ⟨xs, ys, hqx, hqy, le1, le2, hend⟩ := hg
    obtain ⟨its, rv, p, _⟩ := Inv.seqB I hqx
    obtain ⟨its2, rv2, p2, _⟩ := Inv.seqB I hqy
    have l1 := rv.length
    have l2 := rv2.length
    have hh : X.A.in1.handled = none := I.ok.hd hc
    refine wpAny_pyNext_zipD2_end (sep_of D) (Draws.seqB f hh i1 a D.l1i1 its.toArray) (Draws.seqB g hh i2 b D.l2i2 its2.toArray) hz hTI hTO ⟨h1, p⟩ ⟨h2, p2⟩ (by rw [List.size_toArray]; omega) (by rw [List.size_toArray]; omega) (by rw [List.size_toArray, List.size_toArray]; omega) fun h' tk hk => ⟨rfl, I.turnedL (t' := tk) (ch := [z, TI, TO, i1, i2]) (fun c o hb q =>
      hk c o (fun q' => hb (by simp [q'])) (fun q' => hb (by simp [q'])) (fun q' => hb (by simp [q'])) (fun q' => hb (by simp [q'])) q) hf⟩
  self := fun A i s Q E st h => wpAny_pyIter_zip st.1 h
def itO (f : Bool) (a : Addr) : Obj := if f = true then { cls := .type "tuple_iterator", data := .fields #[.ref a, .int 0 0] } else { cls := .type "list_iterator", data := .fields #[.ref a, .int 0 0] }
theorem begins_B (f : Bool) (a : Addr) (items : Array Value) : Begins (.ref a) (itO f a) fun h => IsB f h a items := by
  cases f with
  | true => exact begins_tuple a items
  | false => exact begins_list a items
theorem itB_new {f : Bool} {h : Heap} {it a : Addr} (e : h.get? it = some (itO f a)) : ItB f h it a 0 := by
  cases f with
  | true => exact ⟨_, e, rfl, rfl⟩
  | false => exact ⟨_, e, rfl, rfl⟩
def iZipB (f g : Bool) (K : PySem.W.Frag) (ta : TA) : TI := fun σ H R => ta σ H fun vs H1 => ∃ a b xs ys, vs = [.ref a, .ref b] ∧ SqB f K H1 a xs ∧ SqB g K H1 b ys ∧ R (ItzB f g K a b) H1
theorem pi_zipB (f g : Bool) {X : Cx} {e e2 : Expr} {ta : TA} {p pos tpos : Pos} {elts : List Expr} {kk : Nat} (hg : Gl X "zip") (hm : X.mg "zip" = none) (ha : PA X [e, e2] ta)
    (hs : starEach [e, e2] X.env = (false, eval e X.env) :: starEach [e2] X.env := by rfl) (hpl : (backTo pos (starEach [e2] X.env)).any (·.1) = false := by rfl) :
    PI X (.Tuple elts kk tpos) (.Call (.Name "zip" p) [e, e2] [] pos) (iZipB f g X.K ta) := by
  refine ⟨fun pins s σ H R I h => ?_⟩
  refine Call_ (ld_blt I hg hm PyProof.Rows.boot_zip (PyProof.Rows.callWith_type1 (thn (ha.run pos pins s σ H _ I h) fun us s1 ⟨vs, H1, I1, r1, q1⟩ => ?_) hs hpl))
  obtain ⟨a, b, xs, ys, ex, hqx, hqy, q⟩ := q1
  subst ex
  cases r1 with
  | cons r rr =>
    cases rr with
    | cons r' rr =>
      cases rr
      cases r
      cases r'
      have fresh5 : ∀ c, c ∈ [s1.heap.objs.size + 4, s1.heap.objs.size + 2, s1.heap.objs.size + 3, s1.heap.objs.size, s1.heap.objs.size + 1] → FpOk X pins H1 c := fun c hcm => by
        have e' : c = s1.heap.objs.size + 4 ∨ c = s1.heap.objs.size + 2 ∨ c = s1.heap.objs.size + 3 ∨ c = s1.heap.objs.size ∨ c = s1.heap.objs.size + 1 := by simpa using hcm
        have hle : s1.heap.objs.size ≤ c := by
          rcases e' with z | z | z | z | z
          · rw [z]; exact Nat.le_add_right _ _
          · rw [z]; exact Nat.le_add_right _ _
          · rw [z]; exact Nat.le_add_right _ _
          · rw [z]; exact Nat.le_refl _
          · rw [z]; exact Nat.le_add_right _ _
        exact I1.fpOk hle (I1.hok.fresh hle)
      obtain ⟨its, rv, p1, lt1⟩ := Inv.seqB I1 hqx
      obtain ⟨its2, rv2, p2, lt2⟩ := Inv.seqB I1 hqy
      refine zip_begins2 (begins_B f a its.toArray) (begins_B g b its2.toArray) p1 p2 fun h' hz hTI hTO h1 h2 hsz hk => wpAny_pyIter_zip hz ?_
      have I2 : Inv X pins σ H1 { s1 with heap := h' } := I1.kept (t' := s1.toks) hk
      exact ⟨s1.heap.objs.size + 4, [s1.heap.objs.size + 4, s1.heap.objs.size + 2, s1.heap.objs.size + 3, s1.heap.objs.size, s1.heap.objs.size + 1], _, _, H1, rfl, I2, turn_zipB (PySem.W.ktu_apart s1.heap.objs.size a b lt1 lt2), ⟨hz, hTI, ⟨_, _, hTO⟩, itB_new h1, itB_new h2⟩, fresh5, q⟩
section
variable {m : Addr → Prop} {K : PySem.W.Frag} {g : Str → Option Value} {H : Hp} {a b : Addr} {xs ys : List V} {ds es : List D}
theorem src_zipTL (h : RT m K H a xs) (h2 : RpA m K g H xs ds) (h3 : RL m H b ys) (h4 : RpA m K g H ys es) : Src K g m H (ItzB true false K a b) (pairs ds es) := by
  refine ⟨fun m H => (RT m K H a xs ∧ RpA m K g H xs ds) ∧ RL m H b ys ∧ RpA m K g H ys es, ⟨⟨h, h2⟩, h3, h4⟩, fun m m' H H' ⟨⟨p, q⟩, p', q'⟩ s k => ⟨⟨p.mono s k, RpA.mono s k _ _ q⟩, p'.mono s k, RpA.mono s k _ _ q'⟩, fun i m H d ⟨⟨p, q⟩, p', q'⟩ hm e => ?_, fun m H ⟨⟨p, q⟩, p', q'⟩ => ⟨xs, ys, p.sq, p'.sq, ?_⟩⟩
  · obtain ⟨dx, dy, e1, e2, rfl⟩ := pairs_get e
    obtain ⟨v, f1, g1⟩ := q.get e1
    obtain ⟨w, f2, g2⟩ := q'.get e2
    refine ⟨⟨xs, ys, v, w, p.sq, p'.sq, f1, f2⟩, fun x H' y => ?_⟩
    obtain ⟨T, x1, y1, rfl, n, rfl, y2, y3⟩ := y
    have e3 := y2 xs p.sq
    have e4 := y3 ys p'.sq
    rw [f1] at e3; cases e3
    rw [f2] at e4; cases e4
    exact new_pair hm n g1 g2
  · rw [pairs_len, q.length, q'.length]; omega
theorem src_zipLT (h : RL m H a xs) (h2 : RpA m K g H xs ds) (h3 : RT m K H b ys) (h4 : RpA m K g H ys es) : Src K g m H (ItzB false true K a b) (pairs ds es) := by
  refine ⟨fun m H => (RL m H a xs ∧ RpA m K g H xs ds) ∧ RT m K H b ys ∧ RpA m K g H ys es, ⟨⟨h, h2⟩, h3, h4⟩, fun m m' H H' ⟨⟨p, q⟩, p', q'⟩ s k => ⟨⟨p.mono s k, RpA.mono s k _ _ q⟩, p'.mono s k, RpA.mono s k _ _ q'⟩, fun i m H d ⟨⟨p, q⟩, p', q'⟩ hm e => ?_, fun m H ⟨⟨p, q⟩, p', q'⟩ => ⟨xs, ys, p.sq, p'.sq, ?_⟩⟩
  · obtain ⟨dx, dy, e1, e2, rfl⟩ := pairs_get e
    obtain ⟨v, f1, g1⟩ := q.get e1
    obtain ⟨w, f2, g2⟩ := q'.get e2
    refine ⟨⟨xs, ys, v, w, p.sq, p'.sq, f1, f2⟩, fun x H' y => ?_⟩
    obtain ⟨T, x1, y1, rfl, n, rfl, y2, y3⟩ := y
    have e3 := y2 xs p.sq
    have e4 := y3 ys p'.sq
    rw [f1] at e3; cases e3
    rw [f2] at e4; cases e4
    exact new_pair hm n g1 g2
  · rw [pairs_len, q.length, q'.length]; omega
end
/-- any two of lists and tuples -/
def zipM : List D → Option (List D)
  | [.lst xs, .lst ys] => some (pairs xs ys)
  | [.tup xs, .tup ys] => some (pairs xs ys)
  | [.tup xs, .lst ys] => some (pairs xs ys)
  | [.lst xs, .tup ys] => some (pairs xs ys)
  | _ => none
theorem i_zipM {X : Cx} {W : WX} {fx : List Nat} {e e2 : Expr} {fl : M (List D)} {p pos tpos : Pos} {elts : List Expr} {kk : Nat} (hg : Gl X "zip") (hm : X.mg "zip" = none) (ha : LV X W fx [e, e2] fl) (hs : starEach [e, e2] X.env = (false, eval e X.env) :: starEach [e2] X.env := by rfl) (hpl : (backTo pos (starEach [e2] X.env)).any (·.1) = false := by rfl) :
    IV X W fx (.Tuple elts kk tpos) (.Call (.Name "zip" p) [e, e2] [] pos) (mIter' zipM fl) := by
  refine PI.imp (PI.or (RZ.pi_zipA hg hm ha hs hpl) (PI.or (pi_zipB true false hg hm ha hs hpl) (pi_zipB false true hg hm ha hs hpl))) fun σ H R ⟨m₀, ρ, rr, w⟩ => ?_
  by_cases k1 : ∃ xs ys ρ1, fl ρ = .ok [.tup xs, .lst ys] ρ1
  · refine .inr (.inl (tL.first rr w fun ds ρ1 vs H1 e1 r1 h1 s1 w1 => ?_))
    obtain ⟨xs, ys, ρ0, e0⟩ := k1
    rw [e0] at e1; cases e1
    obtain ⟨is, e2, w2⟩ := w1.lift
    cases e2
    obtain ⟨v, v', rfl, h2, h3⟩ := rp2 h1
    cases h2 with
    | tup a1 a2 => cases h3 with
      | lst b1 b2 => exact ⟨_, _, _, _, rfl, a1.sq, b1.sq, w2 _ H1 r1 (src_zipTL a1 a2 b1 b2) s1⟩
  · by_cases k2 : ∃ xs ys ρ1, fl ρ = .ok [.lst xs, .tup ys] ρ1
    · refine .inr (.inr (tL.first rr w fun ds ρ1 vs H1 e1 r1 h1 s1 w1 => ?_))
      obtain ⟨xs, ys, ρ0, e0⟩ := k2
      rw [e0] at e1; cases e1
      obtain ⟨is, e2, w2⟩ := w1.lift
      cases e2
      obtain ⟨v, v', rfl, h2, h3⟩ := rp2 h1
      cases h2 with
      | lst a1 a2 => cases h3 with
        | tup b1 b2 => exact ⟨_, _, _, _, rfl, a1.sq, b1.sq, w2 _ H1 r1 (src_zipLT a1 a2 b1 b2) s1⟩
    · refine .inl (tL.first rr w fun ds ρ1 vs H1 e1 r1 h1 s1 w1 => ?_)
      obtain ⟨is, e2, w2⟩ := w1.lift
      unfold zipM at e2
      split at e2
      · cases e2
        obtain ⟨v, v', rfl, h2, h3⟩ := rp2 h1
        cases h2 with
        | lst a1 a2 => cases h3 with
          | lst b1 b2 => exact ⟨_, _, _, _, rfl, .inl ⟨a1.sq, b1.sq, w2 _ H1 r1 (src_zipL a1 a2 b1 b2) s1⟩⟩
      · cases e2
        obtain ⟨v, v', rfl, h2, h3⟩ := rp2 h1
        cases h2 with
        | tup a1 a2 => cases h3 with
          | tup b1 b2 => exact ⟨_, _, _, _, rfl, .inr ⟨a1.sq, b1.sq, w2 _ H1 r1 (src_zipT a1 a2 b1 b2) s1⟩⟩
      · exact absurd ⟨_, _, _, e1⟩ k1
      · exact absurd ⟨_, _, _, e1⟩ k2
      · cases e2
end PV

namespace PB
open PV PySem PySem.Spec PyProof.Rows L2
structure Bx {β : Type} (Q : β) : Type where
  mk ::
def wp  {α : Type} (x : M α) (ρ : En) (Q : α → En → Prop) (_b0 : Bx Q := ⟨⟩) : Prop := PV.wp x ρ Q
def ow  {α : Type} (o : Option α) (Q : α → Prop) (_b0 : Bx Q := ⟨⟩) : Prop := PV.ow o Q
section
variable {α β : Type} {ρ ρ' : En} {Q Q' : α → En → Prop} {x : M α}
theorem wp_of {a : α} (h : x ρ = .ok a ρ') : wp x ρ Q ↔ Q a ρ' := PV.wp_of h
theorem wp_eq {v : α} (h : wp x ρ fun d r => d = v ∧ r = ρ') : wp x ρ Q ↔ Q v ρ' := PV.wp_eq h
theorem wp_mono (h : wp x ρ Q) (i : ∀ a r, Q a r → Q' a r) : wp x ρ Q' := PV.wp_mono h i
theorem ow_some {a : α} {P : α → Prop} : ow (some a) P ↔ P a := PV.ow_some
theorem ow_of {o : Option α} {a : α} {P : α → Prop} (h : o = some a) : ow o P ↔ P a := PV.ow_of h
theorem wp_ret {a : α} : wp (M.ret a) ρ Q ↔ Q a ρ := PV.wp_ret
theorem wp_bind {x : M β} {f : β → M α} : wp (M.bind x f) ρ Q ↔ wp x ρ fun a r => wp (f a) r Q := PV.wp_bind
theorem wp_lift {o : Option α} : wp (lift o) ρ Q ↔ ow o fun a => Q a ρ := PV.wp_lift
end
def slw  (s : Option Sl) (ρ : En) (i : Nat) (Q : D → En → Prop) (_b0 : Bx Q := ⟨⟩) : Prop := PV.slw s ρ i Q
section
variable {ρ ρ1 : En} {Q : D → En → Prop} {QU : Unit → En → Prop} {QF : Fl → En → Prop} {QB : Bool → En → Prop} {QL : List D → En → Prop} {QO : Option Int → En → Prop} {i j l n : Nat} {fa fb fc f : M D} {fl : M (List D)} {t : M Bool} {fi : M (List D)}
theorem wp_var : wp (dVar i) ρ Q ↔ slw ρ[i]? ρ i Q := PV.wp_var
theorem slw_val {d : D} : slw (some (.val d)) ρ i Q ↔ Q d ρ := PV.slw_val
theorem slw_own {ds : List D} : slw (some (.own ds)) ρ i Q ↔ Q (.lst ds) (ρ.set i (.val (.lst ds))) := PV.slw_own
theorem wp_put {s : Sl} : wp (put i s) ρ QU ↔ i < ρ.length ∧ QU () (ρ.set i s) := PV.wp_put
theorem wp_op {g : D → D → Option D} : wp (mOp g fa fb) ρ Q ↔ wp fa ρ fun x r => wp fb r fun y r2 => ow (g x y) fun z => Q z r2 := PV.wp_op
theorem wp_un {g : D → Option D} : wp (mUn g fa) ρ Q ↔ wp fa ρ fun x r => ow (g x) fun z => Q z r := PV.wp_un
theorem wp_cb {g : List D → Option D} : wp (mCB g fl) ρ Q ↔ wp fl ρ fun x r => ow (g x) fun z => Q z r := PV.wp_cb
theorem wp_test : wp (mTest fa) ρ QB ↔ wp fa ρ fun x r => ow (asB x) fun z => QB z r := PV.wp_test
theorem ow_asB {b : Bool} {P : Bool → Prop} : ow (asB (.bl b)) P ↔ P b := PV.ow_asB
theorem wp_iteM {α : Type} {c : Prop} [Decidable c] {x y : M α} {Q : α → En → Prop} : wp (if c then x else y) ρ Q ↔ if c then wp x ρ Q else wp y ρ Q := PV.wp_iteM
theorem wp_if : wp (mIf t fa fb) ρ Q ↔ wp t ρ fun c r => if c = true then wp fa r Q else wp fb r Q := PV.wp_if
theorem wp_and : wp (mAnd fa fb) ρ Q ↔ wp fa ρ fun x r => ow (asB x) fun c => if c = true then wp fb r Q else Q (.bl false) r := PV.wp_and
theorem wp_or : wp (mOr fa fb) ρ Q ↔ wp fa ρ fun x r => ow (asB x) fun c => if c = true then Q (.bl true) r else wp fb r Q := PV.wp_or
theorem wp_not : wp (mNot fa) ρ Q ↔ wp fa ρ fun x r => ow (asB x) fun c => Q (.bl (!c)) r := PV.wp_not
variable {ta tb : M Bool}
theorem wp_andT : wp (mAndT ta tb) ρ QB ↔ wp ta ρ fun c r => if c = true then wp tb r QB else QB false r := PV.wp_andT
theorem wp_orT : wp (mOrT ta tb) ρ QB ↔ wp ta ρ fun c r => if c = true then QB true r else wp tb r QB := PV.wp_orT
theorem wp_notT : wp (mNotT ta) ρ QB ↔ wp ta ρ fun c r => QB (!c) r := PV.wp_notT
theorem wp_chain {g g' : D → D → Option D} : wp (mChain g g' fa fb fc) ρ Q ↔ wp fa ρ fun x r => wp fb r fun y r2 => ow (g x y) fun z => ow (asB z) fun k => if k = true then wp fc r2 fun w r3 => ow (g' y w) fun v => Q v r3 else Q (.bl false) r2 := PV.wp_chain
theorem wp_nil : wp dNil ρ QL ↔ QL [] ρ := PV.wp_nil
theorem wp_cons : wp (dCons fa fl) ρ QL ↔ wp fa ρ fun x r => wp fl r fun xs r2 => QL (x :: xs) r2 := PV.wp_cons
theorem wp_tup : wp (mTup fl) ρ Q ↔ wp fl ρ fun xs r => Q (.tup xs) r := PV.wp_tup
theorem wp_lst : wp (mLst fl) ρ Q ↔ wp fl ρ fun xs r => Q (.lst xs) r := PV.wp_lst
theorem wp_oNone : wp oNone ρ QO ↔ QO none ρ := PV.wp_oNone
theorem wp_oSome : wp (oSome fa) ρ QO ↔ wp fa ρ fun d r => ∃ k, d = .int k ∧ QO (some k) r := PV.wp_oSome
theorem wp_sl {lo hi : M (Option Int)} : wp (mSl fa lo hi) ρ Q ↔ wp fa ρ fun d r => wp lo r fun a r2 => wp hi r2 fun b r3 => ow (dSl a b d) fun z => Q z r3 := PV.wp_sl
def flw  (fl : Fl) (ρ : En) (K : En → Prop) (Q : Fl → En → Prop) (_b0 : Bx K := ⟨⟩) (_b1 : Bx Q := ⟨⟩) : Prop := PV.flw fl ρ K Q
variable {F G : M Fl}
theorem wp_seq : wp (mSeq F G) ρ QF ↔ wp F ρ fun fl r => flw fl r (fun r2 => wp G r2 QF) QF := PV.wp_seq
theorem flw_nx {K : En → Prop} : flw .nx ρ K QF ↔ K ρ := PV.flw_nx
theorem flw_bk {K : En → Prop} : flw .bk ρ K QF ↔ QF .bk ρ := PV.flw_bk
theorem flw_ct {K : En → Prop} : flw .ct ρ K QF ↔ QF .ct ρ := PV.flw_ct
theorem flw_rt {K : En → Prop} {d : D} : flw (.rt d) ρ K QF ↔ QF (.rt d) ρ := PV.flw_rt
theorem flw_ro {K : En → Prop} {d : List D} : flw (.ro d) ρ K QF ↔ QF (.ro d) ρ := PV.flw_ro
theorem wp_set : wp (mSet i fa) ρ QF ↔ wp fa ρ fun d r => i < r.length ∧ QF .nx (r.set i (.val d)) := PV.wp_set
theorem wp_own : wp (mOwn i fl) ρ QF ↔ wp fl ρ fun d r => i < r.length ∧ QF .nx (r.set i (.own d)) := PV.wp_own
theorem wp_rett : wp (mRet fa) ρ QF ↔ wp fa ρ fun d r => QF (.rt d) r := PV.wp_rett
theorem wp_retO : wp (mRetO fl) ρ QF ↔ wp fl ρ fun d r => QF (.ro d) r := PV.wp_retO
theorem wp_expr : wp (mExpr fa) ρ QF ↔ wp fa ρ fun d r => QF .nx r := PV.wp_expr
theorem wp_ifS : wp (mIfS t F G) ρ QF ↔ wp t ρ fun c r => if c = true then wp F r QF else wp G r QF := PV.wp_ifS
theorem wp_asg {g : D → M Unit} : wp (mAsg fa g) ρ QF ↔ wp fa ρ fun d r => wp (g d) r fun _ r2 => QF .nx r2 := PV.wp_asg
def l2w  (ds : List D) (P : D → D → Prop) (_b0 : Bx P := ⟨⟩) : Prop := PV.l2w ds P
def l3w  (ds : List D) (P : D → D → D → Prop) (_b0 : Bx P := ⟨⟩) : Prop := PV.l3w ds P
theorem l2w_mk {x y : D} {P : D → D → Prop} : l2w [x, y] P ↔ P x y := PV.l2w_mk
theorem l3w_mk {x y z : D} {P : D → D → D → Prop} : l3w [x, y, z] P ↔ P x y z := PV.l3w_mk
theorem wp_no {α : Type} {Q : α → En → Prop} : wp (fun _ => .no) ρ Q ↔ False := PV.wp_no
theorem wp_par : wp (mPar i j fl) ρ QF ↔ wp fl ρ fun ds r => l2w ds fun x y => i < r.length ∧ j < (r.set i (.val x)).length ∧ QF .nx ((r.set i (.val x)).set j (.val y)) := PV.wp_par
theorem wp_par3 : wp (mPar3 i j l fl) ρ QF ↔ wp fl ρ fun ds r => l3w ds fun x y z => i < r.length ∧ j < (r.set i (.val x)).length ∧ l < ((r.set i (.val x)).set j (.val y)).length ∧ QF .nx (((r.set i (.val x)).set j (.val y)).set l (.val z)) := PV.wp_par3
theorem wp_gN {d : D} : wp (gN i d) ρ QU ↔ i < ρ.length ∧ QU () (ρ.set i (.val d)) := PV.wp_gN
theorem wp_gsNil : wp (gsNil []) ρ QU ↔ QU () ρ := PV.wp_gsNil
theorem wp_gsCons {g : D → M Unit} {h : List D → M Unit} {d : D} {ds : List D} : wp (gsCons g h (d :: ds)) ρ QU ↔ wp (g d) ρ fun _ r => wp (h ds) r QU := PV.wp_gsCons
theorem wp_gT {h : List D → M Unit} {ds : List D} : wp (gT h (.tup ds)) ρ QU ↔ wp (h ds) ρ QU := PV.wp_gT
theorem wp_gTl {h : List D → M Unit} {ds : List D} : wp (gT h (.lst ds)) ρ QU ↔ wp (h ds) ρ QU := PV.wp_gTl
def ownw  (s : Option Sl) (P : List D → Prop) (_b0 : Bx P := ⟨⟩) : Prop := PV.ownw s P
theorem ownw_mk {ds : List D} {P : List D → Prop} : ownw (some (.own ds)) P ↔ P ds := PV.ownw_mk
theorem ownw_iff {s : Option Sl} {P : List D → Prop} : ownw s P ↔ ∃ ds, s = some (.own ds) ∧ P ds := PV.ownw_iff
theorem isOwn_iff : isOwn ρ j = true ↔ ownw ρ[j]? fun _ => True := PV.isOwn_iff
theorem wp_owned {α : Type} {x : M α} {Q : α → En → Prop} : wp (mOwned j x) ρ Q ↔ (ownw ρ[j]? fun _ => True) ∧ wp x ρ Q := PV.wp_owned
theorem wp_at {α : Type} {g : List D → Option (α × List D)} {Q : α → En → Prop} : wp (mAt j g) ρ Q ↔ ownw ρ[j]? fun ds => ow (g ds) fun z => Q z.1 (ρ.set j (.own z.2)) := PV.wp_at
theorem wp_ixO : wp (mIxO j fi_) ρ Q ↔ (ownw ρ[j]? fun _ => True) ∧ wp fi_ ρ fun k r => ownw r[j]? fun ds => ow (dIx (.lst ds) k) fun d => Q d r := PV.wp_ixO
theorem wp_lenO : wp (mLenO j) ρ Q ↔ ownw ρ[j]? fun ds => Q (.int ds.length) ρ := PV.wp_lenO
theorem wp_gSub {d : D} : wp (gSub1 j fa d) ρ QU ↔ (ownw ρ[j]? fun _ => True) ∧ wp fa ρ fun k r => ownw r[j]? fun ds => ow (setAt k d ds) fun z => QU () (r.set j (.own z.2)) := PV.wp_gSub
theorem wp_app : wp (mApp j fa) ρ Q ↔ (ownw ρ[j]? fun _ => True) ∧ wp fa ρ fun d r => ownw r[j]? fun ds => ds.length < 100000 ∧ Q .non (r.set j (.own (ds ++ [d]))) := PV.wp_app
theorem wp_iter : wp (mIter fa) ρ QL ↔ wp fa ρ fun d r => ow d.items? fun ds => QL ds r := PV.wp_iter
theorem wp_iter' {g : List D → Option (List D)} : wp (mIter' g fl) ρ QL ↔ wp fl ρ fun d r => ow (g d) fun ds => QL ds r := PV.wp_iter'
theorem wp_for {g : D → M Unit} : wp (mFor fi g F) ρ QF ↔ wp fi ρ fun ds r => wp (loopL g F ds) r QF := PV.wp_for
def turnw  (fl : Fl) (ρ : En) (K : En → Prop) (Q : Fl → En → Prop) (_b0 : Bx K := ⟨⟩) (_b1 : Bx Q := ⟨⟩) : Prop := PV.turnw fl ρ K Q
theorem turnw_nx {K : En → Prop} : turnw .nx ρ K QF ↔ K ρ := PV.turnw_nx
theorem turnw_ct {K : En → Prop} : turnw .ct ρ K QF ↔ K ρ := PV.turnw_ct
theorem turnw_bk {K : En → Prop} : turnw .bk ρ K QF ↔ QF .nx ρ := PV.turnw_bk
theorem turnw_rt {K : En → Prop} {d : D} : turnw (.rt d) ρ K QF ↔ QF (.rt d) ρ := PV.turnw_rt
theorem turnw_ro {K : En → Prop} {d : List D} : turnw (.ro d) ρ K QF ↔ QF (.ro d) ρ := PV.turnw_ro
theorem wp_loop0 {g : D → M Unit} : wp (loopL g F []) ρ QF ↔ QF .nx ρ := PV.wp_loop0
theorem wp_loop1 {g : D → M Unit} {d : D} {ds : List D} : wp (loopL g F (d :: ds)) ρ QF ↔ wp (g d) ρ fun _ r => wp F r fun fl r2 => turnw fl r2 (fun r3 => wp (loopL g F ds) r3 QF) QF := PV.wp_loop1
theorem wp_loop {g : D → M Unit} (I : List D → En → Prop) : ∀ {ds : List D} {ρ : En}, I ds ρ → (∀ d ds r, I (d :: ds) r → wp (g d) r fun _ r1 => wp F r1 fun fl r2 => turnw fl r2 (fun r3 => I ds r3) QF) → (∀ r, I [] r → QF .nx r) → wp (loopL g F ds) ρ QF := PV.wp_loop I
theorem wp_while {b : M Fl} (I : Nat → En → Prop) (st : ∀ n r, I n r → wp t r fun c r1 => if c = true then wp b r1 fun fl r2 => turnw fl r2 (fun r3 => ∃ k, k < n ∧ I k r3) QF else QF .nx r1) : ∀ {n : Nat} {ρ : En}, I n ρ → wp (mWhile t b) ρ QF := PV.wp_while I st
theorem wp_lenM : wp (lenM n) ρ QU ↔ ρ.length = n ∧ QU () ρ := PV.wp_lenM
theorem wp_wipeM {vs : List Nat} : wp (wipeM vs) ρ QU ↔ (vs.all fun i => !isOwn ρ i) = true ∧ QU () (wipeE ρ vs) := PV.wp_wipeM
theorem wp_noEr {α : Type} {x : M α} {Q : α → En → Prop} : wp (noEr x) ρ Q ↔ wp x ρ Q := PV.wp_noEr
variable {vs : List Nat} {g : D → M Unit}
theorem wp_lc : wp (mLc n vs fi g t f) ρ QL ↔ wp fi ρ fun ds r => r.length = n ∧ ds.length ≤ 100000 ∧ wp (lcL n vs g t f ds) r fun ys r2 => r2.length = n ∧ (vs.all fun i => !isOwn r2 i) = true ∧ QL ys (wipeE r2 vs) := PV.wp_lc
theorem wp_lc0 : wp (lcL n vs g t f []) ρ QL ↔ QL [] ρ := PV.wp_lc0
theorem wp_lc1 {d : D} {ds : List D} : wp (lcL n vs g t f (d :: ds)) ρ QL ↔ ρ.length = n ∧ (vs.all fun i => !isOwn ρ i) = true ∧ wp (g d) (wipeE ρ vs) fun _ r => r.length = n ∧ wp t r fun b r1 =>
    if b = true then wp f r1 fun y r2 => wp (lcL n vs g t f ds) r2 fun zs r3 => QL (y :: zs) r3 else wp (lcL n vs g t f ds) r1 fun zs r3 => QL zs r3 := PV.wp_lc1
theorem wp_lcs (I : En → Prop) (P : D → List D → Prop) : ∀ {ds : List D} {ρ : En}, I ρ → (∀ d, d ∈ ds → ∀ r, I r → r.length = n ∧ (vs.all fun i => !isOwn r i) = true ∧ wp (g d) (wipeE r vs) fun _ r1 => r1.length = n ∧ wp t r1 fun b r2 =>
    if b = true then wp f r2 fun y r3 => I r3 ∧ P d [y] else I r2 ∧ P d []) → wp (lcL n vs g t f ds) ρ fun ys r => I r ∧ ∃ yss, ys = List.flatten yss ∧ All2 P ds yss := PV.wp_lcs I P
theorem wp_callV {α : Type} {H : M α} {ds : List D} {Q : α → En → Prop} : wp (callV n H ds) ρ Q ↔ ds.length = n ∧ wp H (ds.map .val) fun d _ => Q d ρ := PV.wp_callV
theorem wp_callL {H : M (List D)} {ds : List D} : wp (callL n H ds) ρ QL ↔ ds.length = n ∧ wp H (ds.map .val) fun d _ => QL d ρ := PV.wp_callL
def ohw  (r : En) (P : List D → Prop) (_b0 : Bx P := ⟨⟩) : Prop := PV.ohw r P
theorem ohw_mk {L : List D} {r : En} {P : List D → Prop} : ohw (.own L :: r) P ↔ P L := PV.ohw_mk
theorem wp_callO {H : M D} {ds : List D} : wp (callO n H i ds) ρ Q ↔ ownw ρ[i]? fun L => ds.length + 1 = n ∧ wp H (.own L :: ds.map .val) fun d r => ohw r fun L' => Q d (ρ.set i (.own L')) := PV.wp_callO
theorem wp_callN {H : M D} {L : List D} : wp (callN n H L) ρ Q ↔ n = 1 ∧ wp H [.own L] fun d _ => Q d ρ := PV.wp_callN
theorem wp_callK {H : M D} {ds es : List D} {a b : Nat} {ix : List Nat} : wp (callK n a b ix H ds es) ρ Q ↔ wp (callV n H (kwOf a b ix ds es)) ρ Q := PV.wp_callK
theorem wp_fnB {α : Type} {fx : List Nat} {m : Nat} {H : M α} {Q : α → En → Prop} : wp (fnB fx n m H) ρ Q ↔ (ρ.length = n ∧ ownsIn fx ρ = true) ∧ wp H (ρ ++ List.replicate m .no) fun d r => ow (finE ρ r) fun q => Q d q := PV.wp_fnB
def retw  (fl : Fl) (P : D → Prop) (_b0 : Bx P := ⟨⟩) : Prop := PV.retw fl P
def retOw  (fl : Fl) (P : List D → Prop) (_b0 : Bx P := ⟨⟩) : Prop := PV.retOw fl P
theorem retw_rt {d : D} {P : D → Prop} : retw (.rt d) P ↔ P d := PV.retw_rt
theorem retw_nx {P : D → Prop} : retw .nx P ↔ P .non := PV.retw_nx
theorem retOw_ro {d : List D} {P : List D → Prop} : retOw (.ro d) P ↔ P d := PV.retOw_ro
theorem wp_asRet : wp (asRet F) ρ Q ↔ wp F ρ fun fl r => retw fl fun d => Q d r := PV.wp_asRet
theorem wp_asRetO : wp (asRetO F) ρ QL ↔ wp F ρ fun fl r => retOw fl fun d => QL d r := PV.wp_asRetO
end
section
variable {P : D → Prop} {a b : Int} {x y z : D} {xs ys : List D} {p q : Bool} {s u : Str}
theorem ow_add : ow (dAdd (.int a) (.int b)) P ↔ P (.int (a + b)) := PV.ow_add
theorem ow_sub : ow (dSub (.int a) (.int b)) P ↔ P (.int (a - b)) := PV.ow_sub
theorem ow_neg : ow (dNeg (.int a)) P ↔ P (.int (-a)) := PV.ow_neg
theorem ow_ite {α : Type} {c : Prop} [Decidable c] {o : Option α} {P : α → Prop} : ow (if c then o else none) P ↔ c ∧ ow o P := PV.ow_ite
theorem ow_mul : ow (dMul (.int a) (.int b)) P ↔ mulOk a b = true ∧ P (.int (a * b)) := PV.ow_mul
theorem ow_div : ow (dDiv (.int a) (.int b)) P ↔ divOk b = true ∧ P (.int (a.fdiv b)) := PV.ow_div
theorem ow_mod : ow (dMod (.int a) (.int b)) P ↔ b ≠ 0 ∧ P (.int (a.fmod b)) := PV.ow_mod
theorem ow_pow : ow (dPow (.int a) (.int b)) P ↔ (0 ≤ b ∧ b ≤ 100000 ∧ a.natAbs < 2 ^ 64) ∧ P (.int (a ^ b.toNat)) := PV.ow_pow
theorem ow_lt : ow (dLt (.int a) (.int b)) P ↔ P (.bl (decide (a < b))) := PV.ow_lt
theorem ow_le : ow (dLe (.int a) (.int b)) P ↔ P (.bl (decide (a ≤ b))) := PV.ow_le
theorem ow_gt : ow (dGt (.int a) (.int b)) P ↔ P (.bl (decide (b < a))) := PV.ow_gt
theorem ow_ge : ow (dGe (.int a) (.int b)) P ↔ P (.bl (decide (b ≤ a))) := PV.ow_ge
theorem ow_isNon : ow (dIs x .non) P ↔ P (.bl (isNon x)) := PV.ow_isNon
theorem ow_isNotNon : ow (dIsNot x .non) P ↔ P (.bl (!isNon x)) := PV.ow_isNotNon
theorem ow_isBl : ow (dIs (.bl p) (.bl q)) P ↔ P (.bl (decide (p = q))) := PV.ow_isBl
theorem ow_isNotBl : ow (dIsNot (.bl p) (.bl q)) P ↔ P (.bl (!decide (p = q))) := PV.ow_isNotBl
theorem ow_items_tup {P : List D → Prop} : ow (D.items? (.tup xs)) P ↔ P xs := PV.ow_items_tup
theorem ow_items_lst {P : List D → Prop} : ow (D.items? (.lst xs)) P ↔ P xs := PV.ow_items_lst
theorem ow_len_tup : ow (dLen [.tup xs]) P ↔ P (.int xs.length) := PV.ow_len_tup
theorem ow_len_lst : ow (dLen [.lst xs]) P ↔ P (.int xs.length) := PV.ow_len_lst
theorem ow_len_fz {ns : List Int} : ow (dLen [.fz ns]) P ↔ P (.int ns.length) := PV.ow_len_fz
theorem ow_abs : ow (dAbs [.int a]) P ↔ P (.int (a.natAbs : Int)) := PV.ow_abs
theorem ow_min : ow (dMin [.int a, .int b]) P ↔ P (.int (min a b)) := PV.ow_min
theorem ow_max : ow (dMax [.int a, .int b]) P ↔ P (.int (max a b)) := PV.ow_max
theorem ow_int : ow (dInt [.int a]) P ↔ P (.int a) := PV.ow_int
theorem ow_divmod : ow (dDivmod [.int a, .int b]) P ↔ (0 < b ∧ b.natAbs.log2 < 9000) ∧ P (.tup [.int (a / b), .int (a % b)]) := PV.ow_divmod
theorem ow_gcd : ow (dGcd [.int a, .int b]) P ↔ P (.int (Nat.gcd a.natAbs b.natAbs : Nat)) := PV.ow_gcd
theorem ow_tuple_lst : ow (dTuple [.lst xs]) P ↔ P (.tup xs) := PV.ow_tuple_lst
theorem ow_tuple_tup : ow (dTuple [.tup xs]) P ↔ P (.tup xs) := PV.ow_tuple_tup
theorem ow_list_lst : ow (dList [.lst xs]) P ↔ P (.lst xs) := PV.ow_list_lst
theorem ow_list_tup : ow (dList [.tup xs]) P ↔ P (.lst xs) := PV.ow_list_tup
theorem ow_repr : ow (dRepr [x]) P ↔ okr x = true ∧ P (.str x.py.shown) := PV.ow_repr
theorem ow_sum {ns : List Int} : ow (dSum [.lst (ns.map .int)]) P ↔ P (.int ns.sum) := PV.ow_sum
theorem ow_all {ns : List Bool} : ow (dAll [.lst (ns.map .bl)]) P ↔ P (.bl (ns.all id)) := PV.ow_all
theorem ow_any {ns : List Bool} : ow (dAny [.lst (ns.map .bl)]) P ↔ P (.bl (ns.any id)) := PV.ow_any
theorem ow_all0 : ow (dAll [.lst []]) P ↔ P (.bl true) := PV.ow_all0
theorem ow_all1 : ow (dAll [.lst [.bl p]]) P ↔ P (.bl p) := PV.ow_all1
theorem ow_all2 : ow (dAll [.lst [.bl p, .bl q]]) P ↔ P (.bl (p && q)) := PV.ow_all2
theorem ow_all3 {r : Bool} : ow (dAll [.lst [.bl p, .bl q, .bl r]]) P ↔ P (.bl (p && (q && r))) := PV.ow_all3
theorem ow_all4 {r s : Bool} : ow (dAll [.lst [.bl p, .bl q, .bl r, .bl s]]) P ↔ P (.bl (p && (q && (r && s)))) := PV.ow_all4
theorem ow_all5 {r s u : Bool} : ow (dAll [.lst [.bl p, .bl q, .bl r, .bl s, .bl u]]) P ↔ P (.bl (p && (q && (r && (s && u))))) := PV.ow_all5
theorem ow_any0 : ow (dAny [.lst []]) P ↔ P (.bl false) := PV.ow_any0
theorem ow_any1 : ow (dAny [.lst [.bl p]]) P ↔ P (.bl p) := PV.ow_any1
theorem ow_any2 : ow (dAny [.lst [.bl p, .bl q]]) P ↔ P (.bl (p || q)) := PV.ow_any2
theorem ow_any3 {r : Bool} : ow (dAny [.lst [.bl p, .bl q, .bl r]]) P ↔ P (.bl (p || (q || r))) := PV.ow_any3
theorem ow_eq_str : ow (dEq (.str s) (.str u)) P ↔ P (.bl (decide (s = u))) := PV.ow_eq_str
theorem ow_ne_str : ow (dNe (.str s) (.str u)) P ↔ P (.bl (!decide (s = u))) := PV.ow_ne_str
end
section
variable {P : D → Prop} {x y : D} {n m : Nat}
theorem ow_eq [hx : Eqb n x] [hy : Eqb m y] (h1 : n ≤ 60) (h2 : m ≤ 60) : ow (dEq x y) P ↔ P (.bl (eqD x y)) := PV.ow_eq h1 h2
theorem ow_ne [hx : Eqb n x] [hy : Eqb m y] (h1 : n ≤ 60) (h2 : m ≤ 60) : ow (dNe x y) P ↔ P (.bl (!eqD x y)) := PV.ow_ne h1 h2
end
theorem ow_repr' {P : D → Prop} {x : D} {n k : Nat} [hx : Eqb n x] [hy : Shw k x] (h1 : n ≤ 60) (h2 : k ≤ 8000) : ow (dRepr [x]) P ↔ P (.str x.py.shown) := PV.ow_repr' h1 h2
section
variable {x y : D} {xs ys : List D} {a b : Int} {p q : Bool}
end
theorem ow_ix_tup0 {x0 : D} {xs : List D} {P : D → Prop} : ow (dIx (.tup (x0 :: xs)) (.int 0)) P ↔ P x0 := PV.ow_ix_tup0
theorem ow_ix_lst0 {x0 : D} {xs : List D} {P : D → Prop} : ow (dIx (.lst (x0 :: xs)) (.int 0)) P ↔ P x0 := PV.ow_ix_lst0
theorem ow_ix_tup1 {x0 x1 : D} {xs : List D} {P : D → Prop} : ow (dIx (.tup (x0 :: x1 :: xs)) (.int 1)) P ↔ P x1 := PV.ow_ix_tup1
theorem ow_ix_lst1 {x0 x1 : D} {xs : List D} {P : D → Prop} : ow (dIx (.lst (x0 :: x1 :: xs)) (.int 1)) P ↔ P x1 := PV.ow_ix_lst1
theorem ow_ix_tup2 {x0 x1 x2 : D} {xs : List D} {P : D → Prop} : ow (dIx (.tup (x0 :: x1 :: x2 :: xs)) (.int 2)) P ↔ P x2 := PV.ow_ix_tup2
theorem ow_ix_lst2 {x0 x1 x2 : D} {xs : List D} {P : D → Prop} : ow (dIx (.lst (x0 :: x1 :: x2 :: xs)) (.int 2)) P ↔ P x2 := PV.ow_ix_lst2
theorem ow_ix_tup3 {x0 x1 x2 x3 : D} {xs : List D} {P : D → Prop} : ow (dIx (.tup (x0 :: x1 :: x2 :: x3 :: xs)) (.int 3)) P ↔ P x3 := PV.ow_ix_tup3
theorem ow_ix_lst3 {x0 x1 x2 x3 : D} {xs : List D} {P : D → Prop} : ow (dIx (.lst (x0 :: x1 :: x2 :: x3 :: xs)) (.int 3)) P ↔ P x3 := PV.ow_ix_lst3
theorem ow_ix_tup4 {x0 x1 x2 x3 x4 : D} {xs : List D} {P : D → Prop} : ow (dIx (.tup (x0 :: x1 :: x2 :: x3 :: x4 :: xs)) (.int 4)) P ↔ P x4 := PV.ow_ix_tup4
theorem ow_ix_lst4 {x0 x1 x2 x3 x4 : D} {xs : List D} {P : D → Prop} : ow (dIx (.lst (x0 :: x1 :: x2 :: x3 :: x4 :: xs)) (.int 4)) P ↔ P x4 := PV.ow_ix_lst4
theorem ow_ix_tup5 {x0 x1 x2 x3 x4 x5 : D} {xs : List D} {P : D → Prop} : ow (dIx (.tup (x0 :: x1 :: x2 :: x3 :: x4 :: x5 :: xs)) (.int 5)) P ↔ P x5 := PV.ow_ix_tup5
theorem ow_ix_lst5 {x0 x1 x2 x3 x4 x5 : D} {xs : List D} {P : D → Prop} : ow (dIx (.lst (x0 :: x1 :: x2 :: x3 :: x4 :: x5 :: xs)) (.int 5)) P ↔ P x5 := PV.ow_ix_lst5
theorem ow_ix_tup6 {x0 x1 x2 x3 x4 x5 x6 : D} {xs : List D} {P : D → Prop} : ow (dIx (.tup (x0 :: x1 :: x2 :: x3 :: x4 :: x5 :: x6 :: xs)) (.int 6)) P ↔ P x6 := PV.ow_ix_tup6
theorem ow_ix_lst6 {x0 x1 x2 x3 x4 x5 x6 : D} {xs : List D} {P : D → Prop} : ow (dIx (.lst (x0 :: x1 :: x2 :: x3 :: x4 :: x5 :: x6 :: xs)) (.int 6)) P ↔ P x6 := PV.ow_ix_lst6
theorem ow_ix_tup7 {x0 x1 x2 x3 x4 x5 x6 x7 : D} {xs : List D} {P : D → Prop} : ow (dIx (.tup (x0 :: x1 :: x2 :: x3 :: x4 :: x5 :: x6 :: x7 :: xs)) (.int 7)) P ↔ P x7 := PV.ow_ix_tup7
theorem ow_ix_lst7 {x0 x1 x2 x3 x4 x5 x6 x7 : D} {xs : List D} {P : D → Prop} : ow (dIx (.lst (x0 :: x1 :: x2 :: x3 :: x4 :: x5 :: x6 :: x7 :: xs)) (.int 7)) P ↔ P x7 := PV.ow_ix_lst7
theorem ow_ix_tup8 {x0 x1 x2 x3 x4 x5 x6 x7 x8 : D} {xs : List D} {P : D → Prop} : ow (dIx (.tup (x0 :: x1 :: x2 :: x3 :: x4 :: x5 :: x6 :: x7 :: x8 :: xs)) (.int 8)) P ↔ P x8 := PV.ow_ix_tup8
theorem ow_ix_lst8 {x0 x1 x2 x3 x4 x5 x6 x7 x8 : D} {xs : List D} {P : D → Prop} : ow (dIx (.lst (x0 :: x1 :: x2 :: x3 :: x4 :: x5 :: x6 :: x7 :: x8 :: xs)) (.int 8)) P ↔ P x8 := PV.ow_ix_lst8
theorem ow_ix_tup9 {x0 x1 x2 x3 x4 x5 x6 x7 x8 x9 : D} {xs : List D} {P : D → Prop} : ow (dIx (.tup (x0 :: x1 :: x2 :: x3 :: x4 :: x5 :: x6 :: x7 :: x8 :: x9 :: xs)) (.int 9)) P ↔ P x9 := PV.ow_ix_tup9
theorem ow_ix_lst9 {x0 x1 x2 x3 x4 x5 x6 x7 x8 x9 : D} {xs : List D} {P : D → Prop} : ow (dIx (.lst (x0 :: x1 :: x2 :: x3 :: x4 :: x5 :: x6 :: x7 :: x8 :: x9 :: xs)) (.int 9)) P ↔ P x9 := PV.ow_ix_lst9
theorem ow_ix_tup10 {x0 x1 x2 x3 x4 x5 x6 x7 x8 x9 x10 : D} {xs : List D} {P : D → Prop} : ow (dIx (.tup (x0 :: x1 :: x2 :: x3 :: x4 :: x5 :: x6 :: x7 :: x8 :: x9 :: x10 :: xs)) (.int 10)) P ↔ P x10 := PV.ow_ix_tup10
theorem ow_ix_lst10 {x0 x1 x2 x3 x4 x5 x6 x7 x8 x9 x10 : D} {xs : List D} {P : D → Prop} : ow (dIx (.lst (x0 :: x1 :: x2 :: x3 :: x4 :: x5 :: x6 :: x7 :: x8 :: x9 :: x10 :: xs)) (.int 10)) P ↔ P x10 := PV.ow_ix_lst10
theorem ow_ix_tup11 {x0 x1 x2 x3 x4 x5 x6 x7 x8 x9 x10 x11 : D} {xs : List D} {P : D → Prop} : ow (dIx (.tup (x0 :: x1 :: x2 :: x3 :: x4 :: x5 :: x6 :: x7 :: x8 :: x9 :: x10 :: x11 :: xs)) (.int 11)) P ↔ P x11 := PV.ow_ix_tup11
theorem ow_ix_lst11 {x0 x1 x2 x3 x4 x5 x6 x7 x8 x9 x10 x11 : D} {xs : List D} {P : D → Prop} : ow (dIx (.lst (x0 :: x1 :: x2 :: x3 :: x4 :: x5 :: x6 :: x7 :: x8 :: x9 :: x10 :: x11 :: xs)) (.int 11)) P ↔ P x11 := PV.ow_ix_lst11
section
variable {P : D → Prop} {xs : List D} {a : Int} {b : Bool} {s : Str}
theorem isi_tt : ow (dIsi "tuple" (.tup xs)) P ↔ P (.bl true) := PV.isi_tt
theorem isi_it : ow (dIsi "int" (.tup xs)) P ↔ P (.bl false) := PV.isi_it
theorem isi_bt : ow (dIsi "bool" (.tup xs)) P ↔ P (.bl false) := PV.isi_bt
theorem isi_ti : ow (dIsi "tuple" (.int a)) P ↔ P (.bl false) := PV.isi_ti
theorem isi_ii : ow (dIsi "int" (.int a)) P ↔ P (.bl true) := PV.isi_ii
theorem isi_bi : ow (dIsi "bool" (.int a)) P ↔ P (.bl false) := PV.isi_bi
theorem isi_tn : ow (dIsi "tuple" .non) P ↔ P (.bl false) := PV.isi_tn
theorem isi_in : ow (dIsi "int" .non) P ↔ P (.bl false) := PV.isi_in
theorem isi_bn : ow (dIsi "bool" .non) P ↔ P (.bl false) := PV.isi_bn
theorem isi_tl : ow (dIsi "tuple" (.lst xs)) P ↔ P (.bl false) := PV.isi_tl
theorem isi_il : ow (dIsi "int" (.lst xs)) P ↔ P (.bl false) := PV.isi_il
theorem isi_bl : ow (dIsi "bool" (.lst xs)) P ↔ P (.bl false) := PV.isi_bl
theorem isi_tb : ow (dIsi "tuple" (.bl b)) P ↔ P (.bl false) := PV.isi_tb
theorem isi_ib : ow (dIsi "int" (.bl b)) P ↔ P (.bl true) := PV.isi_ib
theorem isi_bb : ow (dIsi "bool" (.bl b)) P ↔ P (.bl true) := PV.isi_bb
theorem isi_ts : ow (dIsi "tuple" (.str s)) P ↔ P (.bl false) := PV.isi_ts
theorem isi_is : ow (dIsi "int" (.str s)) P ↔ P (.bl false) := PV.isi_is
theorem isi_bs : ow (dIsi "bool" (.str s)) P ↔ P (.bl false) := PV.isi_bs
end
section
variable {P : D → Prop} {q : Rat}
theorem ow_R0 : ow (dIx (Fr q) (.int 0)) P ↔ P (.int q.num) := PV.ow_R0
theorem ow_R1 : ow (dIx (Fr q) (.int 1)) P ↔ P (.int (q.den : Int)) := PV.ow_R1
theorem ow_len_R : ow (dLen [Fr q]) P ↔ P (.int 2) := PV.ow_len_R
theorem isi_tR : ow (dIsi "tuple" (Fr q)) P ↔ P (.bl true) := PV.isi_tR
theorem isi_iR : ow (dIsi "int" (Fr q)) P ↔ P (.bl false) := PV.isi_iR
theorem isi_bR : ow (dIsi "bool" (Fr q)) P ↔ P (.bl false) := PV.isi_bR
theorem ow_items_R {P : List D → Prop} : ow (D.items? (Fr q)) P ↔ P [.int q.num, .int (q.den : Int)] := PV.ow_items_R
end
theorem ow_setAt0 {x0 d : D} {xs : List D} {P : Unit × List D → Prop} : ow (setAt (.int 0) d (x0 :: xs)) P ↔ P ((), d :: xs) := PV.ow_setAt0
theorem ow_setAt1 {x0 x1 d : D} {xs : List D} {P : Unit × List D → Prop} : ow (setAt (.int 1) d (x0 :: x1 :: xs)) P ↔ P ((), x0 :: d :: xs) := PV.ow_setAt1
theorem ow_setAt2 {x0 x1 x2 d : D} {xs : List D} {P : Unit × List D → Prop} : ow (setAt (.int 2) d (x0 :: x1 :: x2 :: xs)) P ↔ P ((), x0 :: x1 :: d :: xs) := PV.ow_setAt2
theorem ow_setAt3 {x0 x1 x2 x3 d : D} {xs : List D} {P : Unit × List D → Prop} : ow (setAt (.int 3) d (x0 :: x1 :: x2 :: x3 :: xs)) P ↔ P ((), x0 :: x1 :: x2 :: d :: xs) := PV.ow_setAt3
theorem ow_setAt4 {x0 x1 x2 x3 x4 d : D} {xs : List D} {P : Unit × List D → Prop} : ow (setAt (.int 4) d (x0 :: x1 :: x2 :: x3 :: x4 :: xs)) P ↔ P ((), x0 :: x1 :: x2 :: x3 :: d :: xs) := PV.ow_setAt4
theorem ow_setAt5 {x0 x1 x2 x3 x4 x5 d : D} {xs : List D} {P : Unit × List D → Prop} : ow (setAt (.int 5) d (x0 :: x1 :: x2 :: x3 :: x4 :: x5 :: xs)) P ↔ P ((), x0 :: x1 :: x2 :: x3 :: x4 :: d :: xs) := PV.ow_setAt5
theorem seq_cut {F G : M Fl} {ρ : En} {Q : Fl → En → Prop} (I : En → Prop) (h1 : wp F ρ fun fl r => fl = .nx ∧ I r) (h2 : ∀ r, I r → wp G r Q) : wp (mSeq F G) ρ Q := PV.seq_cut I h1 h2
theorem ow_rep {xs : List D} {k : Int} {P : D → Prop} : ow (dMul (.lst xs) (.int k)) P ↔ (xs.length ≤ 300 ∧ 0 ≤ k ∧ k ≤ 300) ∧ P (.lst (List.replicate k.toNat xs).flatten) := PV.ow_rep
theorem ow_ite2 {α : Type} {c : Prop} [Decidable c] {a : α} {P : α → Prop} : ow (if c then some a else none) P ↔ c ∧ P a := PV.ow_ite2
section
variable {n m i : Nat} {fx : List Nat} {F : M Fl} {ds : List D} {ρ : En} {Q : D → En → Prop} {QL : List D → En → Prop}
theorem wp_V : wp (callV n (fnB fx n m (asRet F)) ds) ρ Q ↔ ds.length = n ∧ wp F (ds.map .val ++ List.replicate m .no) fun fl r => retw fl fun d => n ≤ r.length ∧ Q d ρ := PV.wp_V
theorem wp_L : wp (callL n (fnB fx n m (asRetO F)) ds) ρ QL ↔ ds.length = n ∧ wp F (ds.map .val ++ List.replicate m .no) fun fl r => retOw fl fun d => n ≤ r.length ∧ QL d ρ := PV.wp_L
def ohn  (n : Nat) (r : En) (P : List D → Prop) (_b0 : Bx P := ⟨⟩) : Prop := PV.ohn n r P
theorem ohn_mk {L : List D} {r : En} {P : List D → Prop} : ohn n (.own L :: r) P ↔ n ≤ r.length + 1 ∧ P L := PV.ohn_mk
theorem fin_own {L : List D} {r : En} {P : List D → Prop} (hl : ds.length + 1 = n) : (ow (finE (.own L :: ds.map .val) r) fun q => ohw q P) ↔ ohn n r P := PV.fin_own hl
theorem wp_O : wp (callO n (fnB [0] n m (asRet F)) i ds) ρ Q ↔ ownw ρ[i]? fun L => ds.length + 1 = n ∧ wp F (.own L :: (ds.map .val ++ List.replicate m .no)) fun fl r => retw fl fun d => ohn n r fun L' => Q d (ρ.set i (.own L')) := PV.wp_O
theorem wp_N {L : List D} : wp (callN 1 (fnB [0] 1 m (asRet F)) L) ρ Q ↔ wp F (.own L :: List.replicate m .no) fun fl r => retw fl fun d => ohn 1 r fun _ => Q d ρ := PV.wp_N
end
def stk {α : Type} (x : M α) (ρ : En) (Q : α → En → Prop) (b : Bx Q) : Prop := wp x ρ Q
theorem stuck_O {n i : Nat} {F : M D} {ds : List D} {ρ : En} {Q : D → En → Prop} : wp (callO n F i ds) ρ Q ↔ stk (callO n F i ds) ρ Q ⟨⟩ := PV.stuck_O
theorem stuck_W {t : M Bool} {b : M Fl} {ρ : En} {Q : Fl → En → Prop} : wp (mWhile t b) ρ Q ↔ stk (mWhile t b) ρ Q ⟨⟩ := PV.stuck_W
def setw  (r : En) (i : Nat) (s : Sl) (K : En → Prop) (_b0 : Bx K := ⟨⟩) : Prop := PV.setw r i s K
def ownr  (r : En) (i : Nat) (P : List D → Prop) (_b0 : Bx P := ⟨⟩) : Prop := PV.ownr r i P
section
variable {ρ r : En} {Q : D → En → Prop} {QU : Unit → En → Prop} {QF : Fl → En → Prop} {QL : List D → En → Prop} {P : List D → Prop} {K : En → Prop} {i j l n m : Nat} {fa f : M D} {fl fi : M (List D)} {d : D} {s : Sl} {ds L es : List D} {t : M Bool} {F : M Fl}
theorem hp_set : wp (mSet i fa) ρ QF ↔ wp fa ρ fun d r => setw r i (.val d) fun r2 => QF .nx r2 := PV.hp_set
theorem hp_own : wp (mOwn i fl) ρ QF ↔ wp fl ρ fun d r => setw r i (.own d) fun r2 => QF .nx r2 := PV.hp_own
theorem hp_gN : wp (gN i d) ρ QU ↔ setw ρ i (.val d) fun r2 => QU () r2 := PV.hp_gN
theorem hp_par : wp (mPar i j fl) ρ QF ↔ wp fl ρ fun ds r => l2w ds fun x y => setw r i (.val x) fun r2 => setw r2 j (.val y) fun r3 => QF .nx r3 := PV.hp_par
theorem hp_par3 : wp (mPar3 i j l fl) ρ QF ↔ wp fl ρ fun ds r => l3w ds fun x y z => setw r i (.val x) fun r2 => setw r2 j (.val y) fun r3 => setw r3 l (.val z) fun r4 => QF .nx r4 := PV.hp_par3
theorem hp_owned {α : Type} {x : M α} {Q : α → En → Prop} : wp (mOwned j x) ρ Q ↔ ownr ρ j fun _ => wp x ρ Q := PV.hp_owned
theorem hp_at {α : Type} {g : List D → Option (α × List D)} {Q : α → En → Prop} : wp (mAt j g) ρ Q ↔ ownr ρ j fun ds => ow (g ds) fun z => setw ρ j (.own z.2) fun r => Q z.1 r := PV.hp_at
theorem hp_ixO : wp (mIxO j fa) ρ Q ↔ ownr ρ j fun _ => wp fa ρ fun k r => ownr r j fun ds => ow (dIx (.lst ds) k) fun d => Q d r := PV.hp_ixO
theorem hp_lenO : wp (mLenO j) ρ Q ↔ ownr ρ j fun ds => Q (.int ds.length) ρ := PV.hp_lenO
theorem own_len {r : En} {P : List D → Prop} {j : Nat} {s : Sl} {K : List D → En → Prop} : (ownw r[j]? fun ds => K ds (r.set j s)) ↔ ownw r[j]? fun ds => setw r j s fun r2 => K ds r2 := PV.own_len (P := P)
theorem hp_gSub : wp (gSub1 j fa d) ρ QU ↔ ownr ρ j fun _ => wp fa ρ fun k r => ownr r j fun ds => ow (setAt k d ds) fun z => setw r j (.own z.2) fun r2 => QU () r2 := PV.hp_gSub
theorem hp_app : wp (mApp j fa) ρ Q ↔ ownr ρ j fun _ => wp fa ρ fun d r => ownr r j fun ds => ds.length < 100000 ∧ setw r j (.own (ds ++ [d])) fun r2 => Q .non r2 := PV.hp_app
theorem hv0 : wp (dVar 0) (.val d :: r) Q ↔ Q d (.val d :: r) := PV.hv0
theorem ho0 : wp (dVar 0) (.own ds :: r) Q ↔ Q (.lst ds) (.val (.lst ds) :: r) := PV.ho0
theorem hs0 {x : Sl} : setw (x :: r) 0 s K ↔ K (s :: r) := PV.hs0
theorem hr0 : ownr (.own L :: r) 0 P ↔ P L := PV.hr0
theorem hv1 {x0 : Sl} : wp (dVar 1) (x0 :: .val d :: r) Q ↔ Q d (x0 :: .val d :: r) := PV.hv1
theorem ho1 {x0 : Sl} : wp (dVar 1) (x0 :: .own ds :: r) Q ↔ Q (.lst ds) (x0 :: .val (.lst ds) :: r) := PV.ho1
theorem hs1 {x0 x : Sl} : setw (x0 :: x :: r) 1 s K ↔ K (x0 :: s :: r) := PV.hs1
theorem hr1 {x0 : Sl} : ownr (x0 :: .own L :: r) 1 P ↔ P L := PV.hr1
theorem hv2 {x0 x1 : Sl} : wp (dVar 2) (x0 :: x1 :: .val d :: r) Q ↔ Q d (x0 :: x1 :: .val d :: r) := PV.hv2
theorem ho2 {x0 x1 : Sl} : wp (dVar 2) (x0 :: x1 :: .own ds :: r) Q ↔ Q (.lst ds) (x0 :: x1 :: .val (.lst ds) :: r) := PV.ho2
theorem hs2 {x0 x1 x : Sl} : setw (x0 :: x1 :: x :: r) 2 s K ↔ K (x0 :: x1 :: s :: r) := PV.hs2
theorem hr2 {x0 x1 : Sl} : ownr (x0 :: x1 :: .own L :: r) 2 P ↔ P L := PV.hr2
theorem hv3 {x0 x1 x2 : Sl} : wp (dVar 3) (x0 :: x1 :: x2 :: .val d :: r) Q ↔ Q d (x0 :: x1 :: x2 :: .val d :: r) := PV.hv3
theorem ho3 {x0 x1 x2 : Sl} : wp (dVar 3) (x0 :: x1 :: x2 :: .own ds :: r) Q ↔ Q (.lst ds) (x0 :: x1 :: x2 :: .val (.lst ds) :: r) := PV.ho3
theorem hs3 {x0 x1 x2 x : Sl} : setw (x0 :: x1 :: x2 :: x :: r) 3 s K ↔ K (x0 :: x1 :: x2 :: s :: r) := PV.hs3
theorem hr3 {x0 x1 x2 : Sl} : ownr (x0 :: x1 :: x2 :: .own L :: r) 3 P ↔ P L := PV.hr3
theorem hv4 {x0 x1 x2 x3 : Sl} : wp (dVar 4) (x0 :: x1 :: x2 :: x3 :: .val d :: r) Q ↔ Q d (x0 :: x1 :: x2 :: x3 :: .val d :: r) := PV.hv4
theorem ho4 {x0 x1 x2 x3 : Sl} : wp (dVar 4) (x0 :: x1 :: x2 :: x3 :: .own ds :: r) Q ↔ Q (.lst ds) (x0 :: x1 :: x2 :: x3 :: .val (.lst ds) :: r) := PV.ho4
theorem hs4 {x0 x1 x2 x3 x : Sl} : setw (x0 :: x1 :: x2 :: x3 :: x :: r) 4 s K ↔ K (x0 :: x1 :: x2 :: x3 :: s :: r) := PV.hs4
theorem hr4 {x0 x1 x2 x3 : Sl} : ownr (x0 :: x1 :: x2 :: x3 :: .own L :: r) 4 P ↔ P L := PV.hr4
theorem hv5 {x0 x1 x2 x3 x4 : Sl} : wp (dVar 5) (x0 :: x1 :: x2 :: x3 :: x4 :: .val d :: r) Q ↔ Q d (x0 :: x1 :: x2 :: x3 :: x4 :: .val d :: r) := PV.hv5
theorem ho5 {x0 x1 x2 x3 x4 : Sl} : wp (dVar 5) (x0 :: x1 :: x2 :: x3 :: x4 :: .own ds :: r) Q ↔ Q (.lst ds) (x0 :: x1 :: x2 :: x3 :: x4 :: .val (.lst ds) :: r) := PV.ho5
theorem hs5 {x0 x1 x2 x3 x4 x : Sl} : setw (x0 :: x1 :: x2 :: x3 :: x4 :: x :: r) 5 s K ↔ K (x0 :: x1 :: x2 :: x3 :: x4 :: s :: r) := PV.hs5
theorem hr5 {x0 x1 x2 x3 x4 : Sl} : ownr (x0 :: x1 :: x2 :: x3 :: x4 :: .own L :: r) 5 P ↔ P L := PV.hr5
theorem hv6 {x0 x1 x2 x3 x4 x5 : Sl} : wp (dVar 6) (x0 :: x1 :: x2 :: x3 :: x4 :: x5 :: .val d :: r) Q ↔ Q d (x0 :: x1 :: x2 :: x3 :: x4 :: x5 :: .val d :: r) := PV.hv6
theorem ho6 {x0 x1 x2 x3 x4 x5 : Sl} : wp (dVar 6) (x0 :: x1 :: x2 :: x3 :: x4 :: x5 :: .own ds :: r) Q ↔ Q (.lst ds) (x0 :: x1 :: x2 :: x3 :: x4 :: x5 :: .val (.lst ds) :: r) := PV.ho6
theorem hs6 {x0 x1 x2 x3 x4 x5 x : Sl} : setw (x0 :: x1 :: x2 :: x3 :: x4 :: x5 :: x :: r) 6 s K ↔ K (x0 :: x1 :: x2 :: x3 :: x4 :: x5 :: s :: r) := PV.hs6
theorem hr6 {x0 x1 x2 x3 x4 x5 : Sl} : ownr (x0 :: x1 :: x2 :: x3 :: x4 :: x5 :: .own L :: r) 6 P ↔ P L := PV.hr6
theorem hv7 {x0 x1 x2 x3 x4 x5 x6 : Sl} : wp (dVar 7) (x0 :: x1 :: x2 :: x3 :: x4 :: x5 :: x6 :: .val d :: r) Q ↔ Q d (x0 :: x1 :: x2 :: x3 :: x4 :: x5 :: x6 :: .val d :: r) := PV.hv7
theorem ho7 {x0 x1 x2 x3 x4 x5 x6 : Sl} : wp (dVar 7) (x0 :: x1 :: x2 :: x3 :: x4 :: x5 :: x6 :: .own ds :: r) Q ↔ Q (.lst ds) (x0 :: x1 :: x2 :: x3 :: x4 :: x5 :: x6 :: .val (.lst ds) :: r) := PV.ho7
theorem hs7 {x0 x1 x2 x3 x4 x5 x6 x : Sl} : setw (x0 :: x1 :: x2 :: x3 :: x4 :: x5 :: x6 :: x :: r) 7 s K ↔ K (x0 :: x1 :: x2 :: x3 :: x4 :: x5 :: x6 :: s :: r) := PV.hs7
theorem hr7 {x0 x1 x2 x3 x4 x5 x6 : Sl} : ownr (x0 :: x1 :: x2 :: x3 :: x4 :: x5 :: x6 :: .own L :: r) 7 P ↔ P L := PV.hr7
theorem hv8 {x0 x1 x2 x3 x4 x5 x6 x7 : Sl} : wp (dVar 8) (x0 :: x1 :: x2 :: x3 :: x4 :: x5 :: x6 :: x7 :: .val d :: r) Q ↔ Q d (x0 :: x1 :: x2 :: x3 :: x4 :: x5 :: x6 :: x7 :: .val d :: r) := PV.hv8
theorem ho8 {x0 x1 x2 x3 x4 x5 x6 x7 : Sl} : wp (dVar 8) (x0 :: x1 :: x2 :: x3 :: x4 :: x5 :: x6 :: x7 :: .own ds :: r) Q ↔ Q (.lst ds) (x0 :: x1 :: x2 :: x3 :: x4 :: x5 :: x6 :: x7 :: .val (.lst ds) :: r) := PV.ho8
theorem hs8 {x0 x1 x2 x3 x4 x5 x6 x7 x : Sl} : setw (x0 :: x1 :: x2 :: x3 :: x4 :: x5 :: x6 :: x7 :: x :: r) 8 s K ↔ K (x0 :: x1 :: x2 :: x3 :: x4 :: x5 :: x6 :: x7 :: s :: r) := PV.hs8
theorem hr8 {x0 x1 x2 x3 x4 x5 x6 x7 : Sl} : ownr (x0 :: x1 :: x2 :: x3 :: x4 :: x5 :: x6 :: x7 :: .own L :: r) 8 P ↔ P L := PV.hr8
theorem hv9 {x0 x1 x2 x3 x4 x5 x6 x7 x8 : Sl} : wp (dVar 9) (x0 :: x1 :: x2 :: x3 :: x4 :: x5 :: x6 :: x7 :: x8 :: .val d :: r) Q ↔ Q d (x0 :: x1 :: x2 :: x3 :: x4 :: x5 :: x6 :: x7 :: x8 :: .val d :: r) := PV.hv9
theorem ho9 {x0 x1 x2 x3 x4 x5 x6 x7 x8 : Sl} : wp (dVar 9) (x0 :: x1 :: x2 :: x3 :: x4 :: x5 :: x6 :: x7 :: x8 :: .own ds :: r) Q ↔ Q (.lst ds) (x0 :: x1 :: x2 :: x3 :: x4 :: x5 :: x6 :: x7 :: x8 :: .val (.lst ds) :: r) := PV.ho9
theorem hs9 {x0 x1 x2 x3 x4 x5 x6 x7 x8 x : Sl} : setw (x0 :: x1 :: x2 :: x3 :: x4 :: x5 :: x6 :: x7 :: x8 :: x :: r) 9 s K ↔ K (x0 :: x1 :: x2 :: x3 :: x4 :: x5 :: x6 :: x7 :: x8 :: s :: r) := PV.hs9
theorem hr9 {x0 x1 x2 x3 x4 x5 x6 x7 x8 : Sl} : ownr (x0 :: x1 :: x2 :: x3 :: x4 :: x5 :: x6 :: x7 :: x8 :: .own L :: r) 9 P ↔ P L := PV.hr9
theorem hv10 {x0 x1 x2 x3 x4 x5 x6 x7 x8 x9 : Sl} : wp (dVar 10) (x0 :: x1 :: x2 :: x3 :: x4 :: x5 :: x6 :: x7 :: x8 :: x9 :: .val d :: r) Q ↔ Q d (x0 :: x1 :: x2 :: x3 :: x4 :: x5 :: x6 :: x7 :: x8 :: x9 :: .val d :: r) := PV.hv10
theorem ho10 {x0 x1 x2 x3 x4 x5 x6 x7 x8 x9 : Sl} : wp (dVar 10) (x0 :: x1 :: x2 :: x3 :: x4 :: x5 :: x6 :: x7 :: x8 :: x9 :: .own ds :: r) Q ↔ Q (.lst ds) (x0 :: x1 :: x2 :: x3 :: x4 :: x5 :: x6 :: x7 :: x8 :: x9 :: .val (.lst ds) :: r) := PV.ho10
theorem hs10 {x0 x1 x2 x3 x4 x5 x6 x7 x8 x9 x : Sl} : setw (x0 :: x1 :: x2 :: x3 :: x4 :: x5 :: x6 :: x7 :: x8 :: x9 :: x :: r) 10 s K ↔ K (x0 :: x1 :: x2 :: x3 :: x4 :: x5 :: x6 :: x7 :: x8 :: x9 :: s :: r) := PV.hs10
theorem hr10 {x0 x1 x2 x3 x4 x5 x6 x7 x8 x9 : Sl} : ownr (x0 :: x1 :: x2 :: x3 :: x4 :: x5 :: x6 :: x7 :: x8 :: x9 :: .own L :: r) 10 P ↔ P L := PV.hr10
theorem hv11 {x0 x1 x2 x3 x4 x5 x6 x7 x8 x9 x10 : Sl} : wp (dVar 11) (x0 :: x1 :: x2 :: x3 :: x4 :: x5 :: x6 :: x7 :: x8 :: x9 :: x10 :: .val d :: r) Q ↔ Q d (x0 :: x1 :: x2 :: x3 :: x4 :: x5 :: x6 :: x7 :: x8 :: x9 :: x10 :: .val d :: r) := PV.hv11
theorem ho11 {x0 x1 x2 x3 x4 x5 x6 x7 x8 x9 x10 : Sl} : wp (dVar 11) (x0 :: x1 :: x2 :: x3 :: x4 :: x5 :: x6 :: x7 :: x8 :: x9 :: x10 :: .own ds :: r) Q ↔ Q (.lst ds) (x0 :: x1 :: x2 :: x3 :: x4 :: x5 :: x6 :: x7 :: x8 :: x9 :: x10 :: .val (.lst ds) :: r) := PV.ho11
theorem hs11 {x0 x1 x2 x3 x4 x5 x6 x7 x8 x9 x10 x : Sl} : setw (x0 :: x1 :: x2 :: x3 :: x4 :: x5 :: x6 :: x7 :: x8 :: x9 :: x10 :: x :: r) 11 s K ↔ K (x0 :: x1 :: x2 :: x3 :: x4 :: x5 :: x6 :: x7 :: x8 :: x9 :: x10 :: s :: r) := PV.hs11
theorem hr11 {x0 x1 x2 x3 x4 x5 x6 x7 x8 x9 x10 : Sl} : ownr (x0 :: x1 :: x2 :: x3 :: x4 :: x5 :: x6 :: x7 :: x8 :: x9 :: x10 :: .own L :: r) 11 P ↔ P L := PV.hr11
theorem hv12 {x0 x1 x2 x3 x4 x5 x6 x7 x8 x9 x10 x11 : Sl} : wp (dVar 12) (x0 :: x1 :: x2 :: x3 :: x4 :: x5 :: x6 :: x7 :: x8 :: x9 :: x10 :: x11 :: .val d :: r) Q ↔ Q d (x0 :: x1 :: x2 :: x3 :: x4 :: x5 :: x6 :: x7 :: x8 :: x9 :: x10 :: x11 :: .val d :: r) := PV.hv12
theorem ho12 {x0 x1 x2 x3 x4 x5 x6 x7 x8 x9 x10 x11 : Sl} : wp (dVar 12) (x0 :: x1 :: x2 :: x3 :: x4 :: x5 :: x6 :: x7 :: x8 :: x9 :: x10 :: x11 :: .own ds :: r) Q ↔ Q (.lst ds) (x0 :: x1 :: x2 :: x3 :: x4 :: x5 :: x6 :: x7 :: x8 :: x9 :: x10 :: x11 :: .val (.lst ds) :: r) := PV.ho12
theorem hs12 {x0 x1 x2 x3 x4 x5 x6 x7 x8 x9 x10 x11 x : Sl} : setw (x0 :: x1 :: x2 :: x3 :: x4 :: x5 :: x6 :: x7 :: x8 :: x9 :: x10 :: x11 :: x :: r) 12 s K ↔ K (x0 :: x1 :: x2 :: x3 :: x4 :: x5 :: x6 :: x7 :: x8 :: x9 :: x10 :: x11 :: s :: r) := PV.hs12
theorem hr12 {x0 x1 x2 x3 x4 x5 x6 x7 x8 x9 x10 x11 : Sl} : ownr (x0 :: x1 :: x2 :: x3 :: x4 :: x5 :: x6 :: x7 :: x8 :: x9 :: x10 :: x11 :: .own L :: r) 12 P ↔ P L := PV.hr12
theorem hv13 {x0 x1 x2 x3 x4 x5 x6 x7 x8 x9 x10 x11 x12 : Sl} : wp (dVar 13) (x0 :: x1 :: x2 :: x3 :: x4 :: x5 :: x6 :: x7 :: x8 :: x9 :: x10 :: x11 :: x12 :: .val d :: r) Q ↔ Q d (x0 :: x1 :: x2 :: x3 :: x4 :: x5 :: x6 :: x7 :: x8 :: x9 :: x10 :: x11 :: x12 :: .val d :: r) := PV.hv13
theorem ho13 {x0 x1 x2 x3 x4 x5 x6 x7 x8 x9 x10 x11 x12 : Sl} : wp (dVar 13) (x0 :: x1 :: x2 :: x3 :: x4 :: x5 :: x6 :: x7 :: x8 :: x9 :: x10 :: x11 :: x12 :: .own ds :: r) Q ↔ Q (.lst ds) (x0 :: x1 :: x2 :: x3 :: x4 :: x5 :: x6 :: x7 :: x8 :: x9 :: x10 :: x11 :: x12 :: .val (.lst ds) :: r) := PV.ho13
theorem hs13 {x0 x1 x2 x3 x4 x5 x6 x7 x8 x9 x10 x11 x12 x : Sl} : setw (x0 :: x1 :: x2 :: x3 :: x4 :: x5 :: x6 :: x7 :: x8 :: x9 :: x10 :: x11 :: x12 :: x :: r) 13 s K ↔ K (x0 :: x1 :: x2 :: x3 :: x4 :: x5 :: x6 :: x7 :: x8 :: x9 :: x10 :: x11 :: x12 :: s :: r) := PV.hs13
theorem hr13 {x0 x1 x2 x3 x4 x5 x6 x7 x8 x9 x10 x11 x12 : Sl} : ownr (x0 :: x1 :: x2 :: x3 :: x4 :: x5 :: x6 :: x7 :: x8 :: x9 :: x10 :: x11 :: x12 :: .own L :: r) 13 P ↔ P L := PV.hr13
theorem hv14 {x0 x1 x2 x3 x4 x5 x6 x7 x8 x9 x10 x11 x12 x13 : Sl} : wp (dVar 14) (x0 :: x1 :: x2 :: x3 :: x4 :: x5 :: x6 :: x7 :: x8 :: x9 :: x10 :: x11 :: x12 :: x13 :: .val d :: r) Q ↔ Q d (x0 :: x1 :: x2 :: x3 :: x4 :: x5 :: x6 :: x7 :: x8 :: x9 :: x10 :: x11 :: x12 :: x13 :: .val d :: r) := PV.hv14
theorem ho14 {x0 x1 x2 x3 x4 x5 x6 x7 x8 x9 x10 x11 x12 x13 : Sl} : wp (dVar 14) (x0 :: x1 :: x2 :: x3 :: x4 :: x5 :: x6 :: x7 :: x8 :: x9 :: x10 :: x11 :: x12 :: x13 :: .own ds :: r) Q ↔ Q (.lst ds) (x0 :: x1 :: x2 :: x3 :: x4 :: x5 :: x6 :: x7 :: x8 :: x9 :: x10 :: x11 :: x12 :: x13 :: .val (.lst ds) :: r) := PV.ho14
theorem hs14 {x0 x1 x2 x3 x4 x5 x6 x7 x8 x9 x10 x11 x12 x13 x : Sl} : setw (x0 :: x1 :: x2 :: x3 :: x4 :: x5 :: x6 :: x7 :: x8 :: x9 :: x10 :: x11 :: x12 :: x13 :: x :: r) 14 s K ↔ K (x0 :: x1 :: x2 :: x3 :: x4 :: x5 :: x6 :: x7 :: x8 :: x9 :: x10 :: x11 :: x12 :: x13 :: s :: r) := PV.hs14
theorem hr14 {x0 x1 x2 x3 x4 x5 x6 x7 x8 x9 x10 x11 x12 x13 : Sl} : ownr (x0 :: x1 :: x2 :: x3 :: x4 :: x5 :: x6 :: x7 :: x8 :: x9 :: x10 :: x11 :: x12 :: x13 :: .own L :: r) 14 P ↔ P L := PV.hr14
theorem hv15 {x0 x1 x2 x3 x4 x5 x6 x7 x8 x9 x10 x11 x12 x13 x14 : Sl} : wp (dVar 15) (x0 :: x1 :: x2 :: x3 :: x4 :: x5 :: x6 :: x7 :: x8 :: x9 :: x10 :: x11 :: x12 :: x13 :: x14 :: .val d :: r) Q ↔ Q d (x0 :: x1 :: x2 :: x3 :: x4 :: x5 :: x6 :: x7 :: x8 :: x9 :: x10 :: x11 :: x12 :: x13 :: x14 :: .val d :: r) := PV.hv15
theorem ho15 {x0 x1 x2 x3 x4 x5 x6 x7 x8 x9 x10 x11 x12 x13 x14 : Sl} : wp (dVar 15) (x0 :: x1 :: x2 :: x3 :: x4 :: x5 :: x6 :: x7 :: x8 :: x9 :: x10 :: x11 :: x12 :: x13 :: x14 :: .own ds :: r) Q ↔ Q (.lst ds) (x0 :: x1 :: x2 :: x3 :: x4 :: x5 :: x6 :: x7 :: x8 :: x9 :: x10 :: x11 :: x12 :: x13 :: x14 :: .val (.lst ds) :: r) := PV.ho15
theorem hs15 {x0 x1 x2 x3 x4 x5 x6 x7 x8 x9 x10 x11 x12 x13 x14 x : Sl} : setw (x0 :: x1 :: x2 :: x3 :: x4 :: x5 :: x6 :: x7 :: x8 :: x9 :: x10 :: x11 :: x12 :: x13 :: x14 :: x :: r) 15 s K ↔ K (x0 :: x1 :: x2 :: x3 :: x4 :: x5 :: x6 :: x7 :: x8 :: x9 :: x10 :: x11 :: x12 :: x13 :: x14 :: s :: r) := PV.hs15
theorem hr15 {x0 x1 x2 x3 x4 x5 x6 x7 x8 x9 x10 x11 x12 x13 x14 : Sl} : ownr (x0 :: x1 :: x2 :: x3 :: x4 :: x5 :: x6 :: x7 :: x8 :: x9 :: x10 :: x11 :: x12 :: x13 :: x14 :: .own L :: r) 15 P ↔ P L := PV.hr15
theorem hv16 {x0 x1 x2 x3 x4 x5 x6 x7 x8 x9 x10 x11 x12 x13 x14 x15 : Sl} : wp (dVar 16) (x0 :: x1 :: x2 :: x3 :: x4 :: x5 :: x6 :: x7 :: x8 :: x9 :: x10 :: x11 :: x12 :: x13 :: x14 :: x15 :: .val d :: r) Q ↔ Q d (x0 :: x1 :: x2 :: x3 :: x4 :: x5 :: x6 :: x7 :: x8 :: x9 :: x10 :: x11 :: x12 :: x13 :: x14 :: x15 :: .val d :: r) := PV.hv16
theorem ho16 {x0 x1 x2 x3 x4 x5 x6 x7 x8 x9 x10 x11 x12 x13 x14 x15 : Sl} : wp (dVar 16) (x0 :: x1 :: x2 :: x3 :: x4 :: x5 :: x6 :: x7 :: x8 :: x9 :: x10 :: x11 :: x12 :: x13 :: x14 :: x15 :: .own ds :: r) Q ↔ Q (.lst ds) (x0 :: x1 :: x2 :: x3 :: x4 :: x5 :: x6 :: x7 :: x8 :: x9 :: x10 :: x11 :: x12 :: x13 :: x14 :: x15 :: .val (.lst ds) :: r) := PV.ho16
theorem hs16 {x0 x1 x2 x3 x4 x5 x6 x7 x8 x9 x10 x11 x12 x13 x14 x15 x : Sl} : setw (x0 :: x1 :: x2 :: x3 :: x4 :: x5 :: x6 :: x7 :: x8 :: x9 :: x10 :: x11 :: x12 :: x13 :: x14 :: x15 :: x :: r) 16 s K ↔ K (x0 :: x1 :: x2 :: x3 :: x4 :: x5 :: x6 :: x7 :: x8 :: x9 :: x10 :: x11 :: x12 :: x13 :: x14 :: x15 :: s :: r) := PV.hs16
theorem hr16 {x0 x1 x2 x3 x4 x5 x6 x7 x8 x9 x10 x11 x12 x13 x14 x15 : Sl} : ownr (x0 :: x1 :: x2 :: x3 :: x4 :: x5 :: x6 :: x7 :: x8 :: x9 :: x10 :: x11 :: x12 :: x13 :: x14 :: x15 :: .own L :: r) 16 P ↔ P L := PV.hr16
theorem hv17 {x0 x1 x2 x3 x4 x5 x6 x7 x8 x9 x10 x11 x12 x13 x14 x15 x16 : Sl} : wp (dVar 17) (x0 :: x1 :: x2 :: x3 :: x4 :: x5 :: x6 :: x7 :: x8 :: x9 :: x10 :: x11 :: x12 :: x13 :: x14 :: x15 :: x16 :: .val d :: r) Q ↔ Q d (x0 :: x1 :: x2 :: x3 :: x4 :: x5 :: x6 :: x7 :: x8 :: x9 :: x10 :: x11 :: x12 :: x13 :: x14 :: x15 :: x16 :: .val d :: r) := PV.hv17
theorem ho17 {x0 x1 x2 x3 x4 x5 x6 x7 x8 x9 x10 x11 x12 x13 x14 x15 x16 : Sl} : wp (dVar 17) (x0 :: x1 :: x2 :: x3 :: x4 :: x5 :: x6 :: x7 :: x8 :: x9 :: x10 :: x11 :: x12 :: x13 :: x14 :: x15 :: x16 :: .own ds :: r) Q ↔ Q (.lst ds) (x0 :: x1 :: x2 :: x3 :: x4 :: x5 :: x6 :: x7 :: x8 :: x9 :: x10 :: x11 :: x12 :: x13 :: x14 :: x15 :: x16 :: .val (.lst ds) :: r) := PV.ho17
theorem hs17 {x0 x1 x2 x3 x4 x5 x6 x7 x8 x9 x10 x11 x12 x13 x14 x15 x16 x : Sl} : setw (x0 :: x1 :: x2 :: x3 :: x4 :: x5 :: x6 :: x7 :: x8 :: x9 :: x10 :: x11 :: x12 :: x13 :: x14 :: x15 :: x16 :: x :: r) 17 s K ↔ K (x0 :: x1 :: x2 :: x3 :: x4 :: x5 :: x6 :: x7 :: x8 :: x9 :: x10 :: x11 :: x12 :: x13 :: x14 :: x15 :: x16 :: s :: r) := PV.hs17
theorem hr17 {x0 x1 x2 x3 x4 x5 x6 x7 x8 x9 x10 x11 x12 x13 x14 x15 x16 : Sl} : ownr (x0 :: x1 :: x2 :: x3 :: x4 :: x5 :: x6 :: x7 :: x8 :: x9 :: x10 :: x11 :: x12 :: x13 :: x14 :: x15 :: x16 :: .own L :: r) 17 P ↔ P L := PV.hr17
theorem hv18 {x0 x1 x2 x3 x4 x5 x6 x7 x8 x9 x10 x11 x12 x13 x14 x15 x16 x17 : Sl} : wp (dVar 18) (x0 :: x1 :: x2 :: x3 :: x4 :: x5 :: x6 :: x7 :: x8 :: x9 :: x10 :: x11 :: x12 :: x13 :: x14 :: x15 :: x16 :: x17 :: .val d :: r) Q ↔ Q d (x0 :: x1 :: x2 :: x3 :: x4 :: x5 :: x6 :: x7 :: x8 :: x9 :: x10 :: x11 :: x12 :: x13 :: x14 :: x15 :: x16 :: x17 :: .val d :: r) := PV.hv18
theorem ho18 {x0 x1 x2 x3 x4 x5 x6 x7 x8 x9 x10 x11 x12 x13 x14 x15 x16 x17 : Sl} : wp (dVar 18) (x0 :: x1 :: x2 :: x3 :: x4 :: x5 :: x6 :: x7 :: x8 :: x9 :: x10 :: x11 :: x12 :: x13 :: x14 :: x15 :: x16 :: x17 :: .own ds :: r) Q ↔ Q (.lst ds) (x0 :: x1 :: x2 :: x3 :: x4 :: x5 :: x6 :: x7 :: x8 :: x9 :: x10 :: x11 :: x12 :: x13 :: x14 :: x15 :: x16 :: x17 :: .val (.lst ds) :: r) := PV.ho18
theorem hs18 {x0 x1 x2 x3 x4 x5 x6 x7 x8 x9 x10 x11 x12 x13 x14 x15 x16 x17 x : Sl} : setw (x0 :: x1 :: x2 :: x3 :: x4 :: x5 :: x6 :: x7 :: x8 :: x9 :: x10 :: x11 :: x12 :: x13 :: x14 :: x15 :: x16 :: x17 :: x :: r) 18 s K ↔ K (x0 :: x1 :: x2 :: x3 :: x4 :: x5 :: x6 :: x7 :: x8 :: x9 :: x10 :: x11 :: x12 :: x13 :: x14 :: x15 :: x16 :: x17 :: s :: r) := PV.hs18
theorem hr18 {x0 x1 x2 x3 x4 x5 x6 x7 x8 x9 x10 x11 x12 x13 x14 x15 x16 x17 : Sl} : ownr (x0 :: x1 :: x2 :: x3 :: x4 :: x5 :: x6 :: x7 :: x8 :: x9 :: x10 :: x11 :: x12 :: x13 :: x14 :: x15 :: x16 :: x17 :: .own L :: r) 18 P ↔ P L := PV.hr18
theorem hv19 {x0 x1 x2 x3 x4 x5 x6 x7 x8 x9 x10 x11 x12 x13 x14 x15 x16 x17 x18 : Sl} : wp (dVar 19) (x0 :: x1 :: x2 :: x3 :: x4 :: x5 :: x6 :: x7 :: x8 :: x9 :: x10 :: x11 :: x12 :: x13 :: x14 :: x15 :: x16 :: x17 :: x18 :: .val d :: r) Q ↔ Q d (x0 :: x1 :: x2 :: x3 :: x4 :: x5 :: x6 :: x7 :: x8 :: x9 :: x10 :: x11 :: x12 :: x13 :: x14 :: x15 :: x16 :: x17 :: x18 :: .val d :: r) := PV.hv19
theorem ho19 {x0 x1 x2 x3 x4 x5 x6 x7 x8 x9 x10 x11 x12 x13 x14 x15 x16 x17 x18 : Sl} : wp (dVar 19) (x0 :: x1 :: x2 :: x3 :: x4 :: x5 :: x6 :: x7 :: x8 :: x9 :: x10 :: x11 :: x12 :: x13 :: x14 :: x15 :: x16 :: x17 :: x18 :: .own ds :: r) Q ↔ Q (.lst ds) (x0 :: x1 :: x2 :: x3 :: x4 :: x5 :: x6 :: x7 :: x8 :: x9 :: x10 :: x11 :: x12 :: x13 :: x14 :: x15 :: x16 :: x17 :: x18 :: .val (.lst ds) :: r) := PV.ho19
theorem hs19 {x0 x1 x2 x3 x4 x5 x6 x7 x8 x9 x10 x11 x12 x13 x14 x15 x16 x17 x18 x : Sl} : setw (x0 :: x1 :: x2 :: x3 :: x4 :: x5 :: x6 :: x7 :: x8 :: x9 :: x10 :: x11 :: x12 :: x13 :: x14 :: x15 :: x16 :: x17 :: x18 :: x :: r) 19 s K ↔ K (x0 :: x1 :: x2 :: x3 :: x4 :: x5 :: x6 :: x7 :: x8 :: x9 :: x10 :: x11 :: x12 :: x13 :: x14 :: x15 :: x16 :: x17 :: x18 :: s :: r) := PV.hs19
theorem hr19 {x0 x1 x2 x3 x4 x5 x6 x7 x8 x9 x10 x11 x12 x13 x14 x15 x16 x17 x18 : Sl} : ownr (x0 :: x1 :: x2 :: x3 :: x4 :: x5 :: x6 :: x7 :: x8 :: x9 :: x10 :: x11 :: x12 :: x13 :: x14 :: x15 :: x16 :: x17 :: x18 :: .own L :: r) 19 P ↔ P L := PV.hr19
theorem hv20 {x0 x1 x2 x3 x4 x5 x6 x7 x8 x9 x10 x11 x12 x13 x14 x15 x16 x17 x18 x19 : Sl} : wp (dVar 20) (x0 :: x1 :: x2 :: x3 :: x4 :: x5 :: x6 :: x7 :: x8 :: x9 :: x10 :: x11 :: x12 :: x13 :: x14 :: x15 :: x16 :: x17 :: x18 :: x19 :: .val d :: r) Q ↔ Q d (x0 :: x1 :: x2 :: x3 :: x4 :: x5 :: x6 :: x7 :: x8 :: x9 :: x10 :: x11 :: x12 :: x13 :: x14 :: x15 :: x16 :: x17 :: x18 :: x19 :: .val d :: r) := PV.hv20
theorem ho20 {x0 x1 x2 x3 x4 x5 x6 x7 x8 x9 x10 x11 x12 x13 x14 x15 x16 x17 x18 x19 : Sl} : wp (dVar 20) (x0 :: x1 :: x2 :: x3 :: x4 :: x5 :: x6 :: x7 :: x8 :: x9 :: x10 :: x11 :: x12 :: x13 :: x14 :: x15 :: x16 :: x17 :: x18 :: x19 :: .own ds :: r) Q ↔ Q (.lst ds) (x0 :: x1 :: x2 :: x3 :: x4 :: x5 :: x6 :: x7 :: x8 :: x9 :: x10 :: x11 :: x12 :: x13 :: x14 :: x15 :: x16 :: x17 :: x18 :: x19 :: .val (.lst ds) :: r) := PV.ho20
theorem hs20 {x0 x1 x2 x3 x4 x5 x6 x7 x8 x9 x10 x11 x12 x13 x14 x15 x16 x17 x18 x19 x : Sl} : setw (x0 :: x1 :: x2 :: x3 :: x4 :: x5 :: x6 :: x7 :: x8 :: x9 :: x10 :: x11 :: x12 :: x13 :: x14 :: x15 :: x16 :: x17 :: x18 :: x19 :: x :: r) 20 s K ↔ K (x0 :: x1 :: x2 :: x3 :: x4 :: x5 :: x6 :: x7 :: x8 :: x9 :: x10 :: x11 :: x12 :: x13 :: x14 :: x15 :: x16 :: x17 :: x18 :: x19 :: s :: r) := PV.hs20
theorem hr20 {x0 x1 x2 x3 x4 x5 x6 x7 x8 x9 x10 x11 x12 x13 x14 x15 x16 x17 x18 x19 : Sl} : ownr (x0 :: x1 :: x2 :: x3 :: x4 :: x5 :: x6 :: x7 :: x8 :: x9 :: x10 :: x11 :: x12 :: x13 :: x14 :: x15 :: x16 :: x17 :: x18 :: x19 :: .own L :: r) 20 P ↔ P L := PV.hr20
theorem hv21 {x0 x1 x2 x3 x4 x5 x6 x7 x8 x9 x10 x11 x12 x13 x14 x15 x16 x17 x18 x19 x20 : Sl} : wp (dVar 21) (x0 :: x1 :: x2 :: x3 :: x4 :: x5 :: x6 :: x7 :: x8 :: x9 :: x10 :: x11 :: x12 :: x13 :: x14 :: x15 :: x16 :: x17 :: x18 :: x19 :: x20 :: .val d :: r) Q ↔ Q d (x0 :: x1 :: x2 :: x3 :: x4 :: x5 :: x6 :: x7 :: x8 :: x9 :: x10 :: x11 :: x12 :: x13 :: x14 :: x15 :: x16 :: x17 :: x18 :: x19 :: x20 :: .val d :: r) := PV.hv21
theorem ho21 {x0 x1 x2 x3 x4 x5 x6 x7 x8 x9 x10 x11 x12 x13 x14 x15 x16 x17 x18 x19 x20 : Sl} : wp (dVar 21) (x0 :: x1 :: x2 :: x3 :: x4 :: x5 :: x6 :: x7 :: x8 :: x9 :: x10 :: x11 :: x12 :: x13 :: x14 :: x15 :: x16 :: x17 :: x18 :: x19 :: x20 :: .own ds :: r) Q ↔ Q (.lst ds) (x0 :: x1 :: x2 :: x3 :: x4 :: x5 :: x6 :: x7 :: x8 :: x9 :: x10 :: x11 :: x12 :: x13 :: x14 :: x15 :: x16 :: x17 :: x18 :: x19 :: x20 :: .val (.lst ds) :: r) := PV.ho21
theorem hs21 {x0 x1 x2 x3 x4 x5 x6 x7 x8 x9 x10 x11 x12 x13 x14 x15 x16 x17 x18 x19 x20 x : Sl} : setw (x0 :: x1 :: x2 :: x3 :: x4 :: x5 :: x6 :: x7 :: x8 :: x9 :: x10 :: x11 :: x12 :: x13 :: x14 :: x15 :: x16 :: x17 :: x18 :: x19 :: x20 :: x :: r) 21 s K ↔ K (x0 :: x1 :: x2 :: x3 :: x4 :: x5 :: x6 :: x7 :: x8 :: x9 :: x10 :: x11 :: x12 :: x13 :: x14 :: x15 :: x16 :: x17 :: x18 :: x19 :: x20 :: s :: r) := PV.hs21
theorem hr21 {x0 x1 x2 x3 x4 x5 x6 x7 x8 x9 x10 x11 x12 x13 x14 x15 x16 x17 x18 x19 x20 : Sl} : ownr (x0 :: x1 :: x2 :: x3 :: x4 :: x5 :: x6 :: x7 :: x8 :: x9 :: x10 :: x11 :: x12 :: x13 :: x14 :: x15 :: x16 :: x17 :: x18 :: x19 :: x20 :: .own L :: r) 21 P ↔ P L := PV.hr21
theorem hv22 {x0 x1 x2 x3 x4 x5 x6 x7 x8 x9 x10 x11 x12 x13 x14 x15 x16 x17 x18 x19 x20 x21 : Sl} : wp (dVar 22) (x0 :: x1 :: x2 :: x3 :: x4 :: x5 :: x6 :: x7 :: x8 :: x9 :: x10 :: x11 :: x12 :: x13 :: x14 :: x15 :: x16 :: x17 :: x18 :: x19 :: x20 :: x21 :: .val d :: r) Q ↔ Q d (x0 :: x1 :: x2 :: x3 :: x4 :: x5 :: x6 :: x7 :: x8 :: x9 :: x10 :: x11 :: x12 :: x13 :: x14 :: x15 :: x16 :: x17 :: x18 :: x19 :: x20 :: x21 :: .val d :: r) := PV.hv22
theorem ho22 {x0 x1 x2 x3 x4 x5 x6 x7 x8 x9 x10 x11 x12 x13 x14 x15 x16 x17 x18 x19 x20 x21 : Sl} : wp (dVar 22) (x0 :: x1 :: x2 :: x3 :: x4 :: x5 :: x6 :: x7 :: x8 :: x9 :: x10 :: x11 :: x12 :: x13 :: x14 :: x15 :: x16 :: x17 :: x18 :: x19 :: x20 :: x21 :: .own ds :: r) Q ↔ Q (.lst ds) (x0 :: x1 :: x2 :: x3 :: x4 :: x5 :: x6 :: x7 :: x8 :: x9 :: x10 :: x11 :: x12 :: x13 :: x14 :: x15 :: x16 :: x17 :: x18 :: x19 :: x20 :: x21 :: .val (.lst ds) :: r) := PV.ho22
theorem hs22 {x0 x1 x2 x3 x4 x5 x6 x7 x8 x9 x10 x11 x12 x13 x14 x15 x16 x17 x18 x19 x20 x21 x : Sl} : setw (x0 :: x1 :: x2 :: x3 :: x4 :: x5 :: x6 :: x7 :: x8 :: x9 :: x10 :: x11 :: x12 :: x13 :: x14 :: x15 :: x16 :: x17 :: x18 :: x19 :: x20 :: x21 :: x :: r) 22 s K ↔ K (x0 :: x1 :: x2 :: x3 :: x4 :: x5 :: x6 :: x7 :: x8 :: x9 :: x10 :: x11 :: x12 :: x13 :: x14 :: x15 :: x16 :: x17 :: x18 :: x19 :: x20 :: x21 :: s :: r) := PV.hs22
theorem hr22 {x0 x1 x2 x3 x4 x5 x6 x7 x8 x9 x10 x11 x12 x13 x14 x15 x16 x17 x18 x19 x20 x21 : Sl} : ownr (x0 :: x1 :: x2 :: x3 :: x4 :: x5 :: x6 :: x7 :: x8 :: x9 :: x10 :: x11 :: x12 :: x13 :: x14 :: x15 :: x16 :: x17 :: x18 :: x19 :: x20 :: x21 :: .own L :: r) 22 P ↔ P L := PV.hr22
theorem hv23 {x0 x1 x2 x3 x4 x5 x6 x7 x8 x9 x10 x11 x12 x13 x14 x15 x16 x17 x18 x19 x20 x21 x22 : Sl} : wp (dVar 23) (x0 :: x1 :: x2 :: x3 :: x4 :: x5 :: x6 :: x7 :: x8 :: x9 :: x10 :: x11 :: x12 :: x13 :: x14 :: x15 :: x16 :: x17 :: x18 :: x19 :: x20 :: x21 :: x22 :: .val d :: r) Q ↔ Q d (x0 :: x1 :: x2 :: x3 :: x4 :: x5 :: x6 :: x7 :: x8 :: x9 :: x10 :: x11 :: x12 :: x13 :: x14 :: x15 :: x16 :: x17 :: x18 :: x19 :: x20 :: x21 :: x22 :: .val d :: r) := PV.hv23
theorem ho23 {x0 x1 x2 x3 x4 x5 x6 x7 x8 x9 x10 x11 x12 x13 x14 x15 x16 x17 x18 x19 x20 x21 x22 : Sl} : wp (dVar 23) (x0 :: x1 :: x2 :: x3 :: x4 :: x5 :: x6 :: x7 :: x8 :: x9 :: x10 :: x11 :: x12 :: x13 :: x14 :: x15 :: x16 :: x17 :: x18 :: x19 :: x20 :: x21 :: x22 :: .own ds :: r) Q ↔ Q (.lst ds) (x0 :: x1 :: x2 :: x3 :: x4 :: x5 :: x6 :: x7 :: x8 :: x9 :: x10 :: x11 :: x12 :: x13 :: x14 :: x15 :: x16 :: x17 :: x18 :: x19 :: x20 :: x21 :: x22 :: .val (.lst ds) :: r) := PV.ho23
theorem hs23 {x0 x1 x2 x3 x4 x5 x6 x7 x8 x9 x10 x11 x12 x13 x14 x15 x16 x17 x18 x19 x20 x21 x22 x : Sl} : setw (x0 :: x1 :: x2 :: x3 :: x4 :: x5 :: x6 :: x7 :: x8 :: x9 :: x10 :: x11 :: x12 :: x13 :: x14 :: x15 :: x16 :: x17 :: x18 :: x19 :: x20 :: x21 :: x22 :: x :: r) 23 s K ↔ K (x0 :: x1 :: x2 :: x3 :: x4 :: x5 :: x6 :: x7 :: x8 :: x9 :: x10 :: x11 :: x12 :: x13 :: x14 :: x15 :: x16 :: x17 :: x18 :: x19 :: x20 :: x21 :: x22 :: s :: r) := PV.hs23
theorem hr23 {x0 x1 x2 x3 x4 x5 x6 x7 x8 x9 x10 x11 x12 x13 x14 x15 x16 x17 x18 x19 x20 x21 x22 : Sl} : ownr (x0 :: x1 :: x2 :: x3 :: x4 :: x5 :: x6 :: x7 :: x8 :: x9 :: x10 :: x11 :: x12 :: x13 :: x14 :: x15 :: x16 :: x17 :: x18 :: x19 :: x20 :: x21 :: x22 :: .own L :: r) 23 P ↔ P L := PV.hr23
theorem hv24 {x0 x1 x2 x3 x4 x5 x6 x7 x8 x9 x10 x11 x12 x13 x14 x15 x16 x17 x18 x19 x20 x21 x22 x23 : Sl} : wp (dVar 24) (x0 :: x1 :: x2 :: x3 :: x4 :: x5 :: x6 :: x7 :: x8 :: x9 :: x10 :: x11 :: x12 :: x13 :: x14 :: x15 :: x16 :: x17 :: x18 :: x19 :: x20 :: x21 :: x22 :: x23 :: .val d :: r) Q ↔ Q d (x0 :: x1 :: x2 :: x3 :: x4 :: x5 :: x6 :: x7 :: x8 :: x9 :: x10 :: x11 :: x12 :: x13 :: x14 :: x15 :: x16 :: x17 :: x18 :: x19 :: x20 :: x21 :: x22 :: x23 :: .val d :: r) := PV.hv24
theorem ho24 {x0 x1 x2 x3 x4 x5 x6 x7 x8 x9 x10 x11 x12 x13 x14 x15 x16 x17 x18 x19 x20 x21 x22 x23 : Sl} : wp (dVar 24) (x0 :: x1 :: x2 :: x3 :: x4 :: x5 :: x6 :: x7 :: x8 :: x9 :: x10 :: x11 :: x12 :: x13 :: x14 :: x15 :: x16 :: x17 :: x18 :: x19 :: x20 :: x21 :: x22 :: x23 :: .own ds :: r) Q ↔ Q (.lst ds) (x0 :: x1 :: x2 :: x3 :: x4 :: x5 :: x6 :: x7 :: x8 :: x9 :: x10 :: x11 :: x12 :: x13 :: x14 :: x15 :: x16 :: x17 :: x18 :: x19 :: x20 :: x21 :: x22 :: x23 :: .val (.lst ds) :: r) := PV.ho24
theorem hs24 {x0 x1 x2 x3 x4 x5 x6 x7 x8 x9 x10 x11 x12 x13 x14 x15 x16 x17 x18 x19 x20 x21 x22 x23 x : Sl} : setw (x0 :: x1 :: x2 :: x3 :: x4 :: x5 :: x6 :: x7 :: x8 :: x9 :: x10 :: x11 :: x12 :: x13 :: x14 :: x15 :: x16 :: x17 :: x18 :: x19 :: x20 :: x21 :: x22 :: x23 :: x :: r) 24 s K ↔ K (x0 :: x1 :: x2 :: x3 :: x4 :: x5 :: x6 :: x7 :: x8 :: x9 :: x10 :: x11 :: x12 :: x13 :: x14 :: x15 :: x16 :: x17 :: x18 :: x19 :: x20 :: x21 :: x22 :: x23 :: s :: r) := PV.hs24
theorem hr24 {x0 x1 x2 x3 x4 x5 x6 x7 x8 x9 x10 x11 x12 x13 x14 x15 x16 x17 x18 x19 x20 x21 x22 x23 : Sl} : ownr (x0 :: x1 :: x2 :: x3 :: x4 :: x5 :: x6 :: x7 :: x8 :: x9 :: x10 :: x11 :: x12 :: x13 :: x14 :: x15 :: x16 :: x17 :: x18 :: x19 :: x20 :: x21 :: x22 :: x23 :: .own L :: r) 24 P ↔ P L := PV.hr24
theorem hv25 {x0 x1 x2 x3 x4 x5 x6 x7 x8 x9 x10 x11 x12 x13 x14 x15 x16 x17 x18 x19 x20 x21 x22 x23 x24 : Sl} : wp (dVar 25) (x0 :: x1 :: x2 :: x3 :: x4 :: x5 :: x6 :: x7 :: x8 :: x9 :: x10 :: x11 :: x12 :: x13 :: x14 :: x15 :: x16 :: x17 :: x18 :: x19 :: x20 :: x21 :: x22 :: x23 :: x24 :: .val d :: r) Q ↔ Q d (x0 :: x1 :: x2 :: x3 :: x4 :: x5 :: x6 :: x7 :: x8 :: x9 :: x10 :: x11 :: x12 :: x13 :: x14 :: x15 :: x16 :: x17 :: x18 :: x19 :: x20 :: x21 :: x22 :: x23 :: x24 :: .val d :: r) := PV.hv25
theorem ho25 {x0 x1 x2 x3 x4 x5 x6 x7 x8 x9 x10 x11 x12 x13 x14 x15 x16 x17 x18 x19 x20 x21 x22 x23 x24 : Sl} : wp (dVar 25) (x0 :: x1 :: x2 :: x3 :: x4 :: x5 :: x6 :: x7 :: x8 :: x9 :: x10 :: x11 :: x12 :: x13 :: x14 :: x15 :: x16 :: x17 :: x18 :: x19 :: x20 :: x21 :: x22 :: x23 :: x24 :: .own ds :: r) Q ↔ Q (.lst ds) (x0 :: x1 :: x2 :: x3 :: x4 :: x5 :: x6 :: x7 :: x8 :: x9 :: x10 :: x11 :: x12 :: x13 :: x14 :: x15 :: x16 :: x17 :: x18 :: x19 :: x20 :: x21 :: x22 :: x23 :: x24 :: .val (.lst ds) :: r) := PV.ho25
theorem hs25 {x0 x1 x2 x3 x4 x5 x6 x7 x8 x9 x10 x11 x12 x13 x14 x15 x16 x17 x18 x19 x20 x21 x22 x23 x24 x : Sl} : setw (x0 :: x1 :: x2 :: x3 :: x4 :: x5 :: x6 :: x7 :: x8 :: x9 :: x10 :: x11 :: x12 :: x13 :: x14 :: x15 :: x16 :: x17 :: x18 :: x19 :: x20 :: x21 :: x22 :: x23 :: x24 :: x :: r) 25 s K ↔ K (x0 :: x1 :: x2 :: x3 :: x4 :: x5 :: x6 :: x7 :: x8 :: x9 :: x10 :: x11 :: x12 :: x13 :: x14 :: x15 :: x16 :: x17 :: x18 :: x19 :: x20 :: x21 :: x22 :: x23 :: x24 :: s :: r) := PV.hs25
theorem hr25 {x0 x1 x2 x3 x4 x5 x6 x7 x8 x9 x10 x11 x12 x13 x14 x15 x16 x17 x18 x19 x20 x21 x22 x23 x24 : Sl} : ownr (x0 :: x1 :: x2 :: x3 :: x4 :: x5 :: x6 :: x7 :: x8 :: x9 :: x10 :: x11 :: x12 :: x13 :: x14 :: x15 :: x16 :: x17 :: x18 :: x19 :: x20 :: x21 :: x22 :: x23 :: x24 :: .own L :: r) 25 P ↔ P L := PV.hr25
theorem hv26 {x0 x1 x2 x3 x4 x5 x6 x7 x8 x9 x10 x11 x12 x13 x14 x15 x16 x17 x18 x19 x20 x21 x22 x23 x24 x25 : Sl} : wp (dVar 26) (x0 :: x1 :: x2 :: x3 :: x4 :: x5 :: x6 :: x7 :: x8 :: x9 :: x10 :: x11 :: x12 :: x13 :: x14 :: x15 :: x16 :: x17 :: x18 :: x19 :: x20 :: x21 :: x22 :: x23 :: x24 :: x25 :: .val d :: r) Q ↔ Q d (x0 :: x1 :: x2 :: x3 :: x4 :: x5 :: x6 :: x7 :: x8 :: x9 :: x10 :: x11 :: x12 :: x13 :: x14 :: x15 :: x16 :: x17 :: x18 :: x19 :: x20 :: x21 :: x22 :: x23 :: x24 :: x25 :: .val d :: r) := PV.hv26
theorem ho26 {x0 x1 x2 x3 x4 x5 x6 x7 x8 x9 x10 x11 x12 x13 x14 x15 x16 x17 x18 x19 x20 x21 x22 x23 x24 x25 : Sl} : wp (dVar 26) (x0 :: x1 :: x2 :: x3 :: x4 :: x5 :: x6 :: x7 :: x8 :: x9 :: x10 :: x11 :: x12 :: x13 :: x14 :: x15 :: x16 :: x17 :: x18 :: x19 :: x20 :: x21 :: x22 :: x23 :: x24 :: x25 :: .own ds :: r) Q ↔ Q (.lst ds) (x0 :: x1 :: x2 :: x3 :: x4 :: x5 :: x6 :: x7 :: x8 :: x9 :: x10 :: x11 :: x12 :: x13 :: x14 :: x15 :: x16 :: x17 :: x18 :: x19 :: x20 :: x21 :: x22 :: x23 :: x24 :: x25 :: .val (.lst ds) :: r) := PV.ho26
theorem hs26 {x0 x1 x2 x3 x4 x5 x6 x7 x8 x9 x10 x11 x12 x13 x14 x15 x16 x17 x18 x19 x20 x21 x22 x23 x24 x25 x : Sl} : setw (x0 :: x1 :: x2 :: x3 :: x4 :: x5 :: x6 :: x7 :: x8 :: x9 :: x10 :: x11 :: x12 :: x13 :: x14 :: x15 :: x16 :: x17 :: x18 :: x19 :: x20 :: x21 :: x22 :: x23 :: x24 :: x25 :: x :: r) 26 s K ↔ K (x0 :: x1 :: x2 :: x3 :: x4 :: x5 :: x6 :: x7 :: x8 :: x9 :: x10 :: x11 :: x12 :: x13 :: x14 :: x15 :: x16 :: x17 :: x18 :: x19 :: x20 :: x21 :: x22 :: x23 :: x24 :: x25 :: s :: r) := PV.hs26
theorem hr26 {x0 x1 x2 x3 x4 x5 x6 x7 x8 x9 x10 x11 x12 x13 x14 x15 x16 x17 x18 x19 x20 x21 x22 x23 x24 x25 : Sl} : ownr (x0 :: x1 :: x2 :: x3 :: x4 :: x5 :: x6 :: x7 :: x8 :: x9 :: x10 :: x11 :: x12 :: x13 :: x14 :: x15 :: x16 :: x17 :: x18 :: x19 :: x20 :: x21 :: x22 :: x23 :: x24 :: x25 :: .own L :: r) 26 P ↔ P L := PV.hr26
theorem hv27 {x0 x1 x2 x3 x4 x5 x6 x7 x8 x9 x10 x11 x12 x13 x14 x15 x16 x17 x18 x19 x20 x21 x22 x23 x24 x25 x26 : Sl} : wp (dVar 27) (x0 :: x1 :: x2 :: x3 :: x4 :: x5 :: x6 :: x7 :: x8 :: x9 :: x10 :: x11 :: x12 :: x13 :: x14 :: x15 :: x16 :: x17 :: x18 :: x19 :: x20 :: x21 :: x22 :: x23 :: x24 :: x25 :: x26 :: .val d :: r) Q ↔ Q d (x0 :: x1 :: x2 :: x3 :: x4 :: x5 :: x6 :: x7 :: x8 :: x9 :: x10 :: x11 :: x12 :: x13 :: x14 :: x15 :: x16 :: x17 :: x18 :: x19 :: x20 :: x21 :: x22 :: x23 :: x24 :: x25 :: x26 :: .val d :: r) := PV.hv27
theorem ho27 {x0 x1 x2 x3 x4 x5 x6 x7 x8 x9 x10 x11 x12 x13 x14 x15 x16 x17 x18 x19 x20 x21 x22 x23 x24 x25 x26 : Sl} : wp (dVar 27) (x0 :: x1 :: x2 :: x3 :: x4 :: x5 :: x6 :: x7 :: x8 :: x9 :: x10 :: x11 :: x12 :: x13 :: x14 :: x15 :: x16 :: x17 :: x18 :: x19 :: x20 :: x21 :: x22 :: x23 :: x24 :: x25 :: x26 :: .own ds :: r) Q ↔ Q (.lst ds) (x0 :: x1 :: x2 :: x3 :: x4 :: x5 :: x6 :: x7 :: x8 :: x9 :: x10 :: x11 :: x12 :: x13 :: x14 :: x15 :: x16 :: x17 :: x18 :: x19 :: x20 :: x21 :: x22 :: x23 :: x24 :: x25 :: x26 :: .val (.lst ds) :: r) := PV.ho27
theorem hs27 {x0 x1 x2 x3 x4 x5 x6 x7 x8 x9 x10 x11 x12 x13 x14 x15 x16 x17 x18 x19 x20 x21 x22 x23 x24 x25 x26 x : Sl} : setw (x0 :: x1 :: x2 :: x3 :: x4 :: x5 :: x6 :: x7 :: x8 :: x9 :: x10 :: x11 :: x12 :: x13 :: x14 :: x15 :: x16 :: x17 :: x18 :: x19 :: x20 :: x21 :: x22 :: x23 :: x24 :: x25 :: x26 :: x :: r) 27 s K ↔ K (x0 :: x1 :: x2 :: x3 :: x4 :: x5 :: x6 :: x7 :: x8 :: x9 :: x10 :: x11 :: x12 :: x13 :: x14 :: x15 :: x16 :: x17 :: x18 :: x19 :: x20 :: x21 :: x22 :: x23 :: x24 :: x25 :: x26 :: s :: r) := PV.hs27
theorem hr27 {x0 x1 x2 x3 x4 x5 x6 x7 x8 x9 x10 x11 x12 x13 x14 x15 x16 x17 x18 x19 x20 x21 x22 x23 x24 x25 x26 : Sl} : ownr (x0 :: x1 :: x2 :: x3 :: x4 :: x5 :: x6 :: x7 :: x8 :: x9 :: x10 :: x11 :: x12 :: x13 :: x14 :: x15 :: x16 :: x17 :: x18 :: x19 :: x20 :: x21 :: x22 :: x23 :: x24 :: x25 :: x26 :: .own L :: r) 27 P ↔ P L := PV.hr27
variable {fj : M (List PV.It)} {QI : List PV.It → En → Prop} {fn : M (List D)}
theorem hp_iNil : wp iNil ρ QI ↔ QI [] ρ := PV.hp_iNil
theorem hp_iD : wp (iD fa fj) ρ QI ↔ wp fa ρ fun x r => wp fj r fun xs r2 => QI (.d x :: xs) r2 := PV.hp_iD
theorem hp_iN : wp (iN fn fj) ρ QI ↔ wp fn ρ fun x r => wp fj r fun xs r2 => QI (.n x :: xs) r2 := PV.hp_iN
def i2w  (ds : List PV.It) (P : PV.It → PV.It → Prop) (_b0 : Bx P := ⟨⟩) : Prop := PV.i2w ds P
def i3w  (ds : List PV.It) (P : PV.It → PV.It → PV.It → Prop) (_b0 : Bx P := ⟨⟩) : Prop := PV.i3w ds P
theorem i2w_mk {x y : PV.It} {P : PV.It → PV.It → Prop} : i2w [x, y] P ↔ P x y := PV.i2w_mk
theorem i3w_mk {x y z : PV.It} {P : PV.It → PV.It → PV.It → Prop} : i3w [x, y, z] P ↔ P x y z := PV.i3w_mk
theorem setw_put {ρ : En} {QU : Unit → En → Prop} {i : Nat} {s : Sl} : wp (put i s) ρ QU ↔ setw ρ i s fun r => QU () r := PV.setw_put
theorem hp_j2 : wp (mJ2 i j fj) ρ QF ↔ wp fj ρ fun ds r => i2w ds fun x y => setw r i x.sl fun r2 => setw r2 j y.sl fun r3 => QF .nx r3 := PV.hp_j2
theorem hp_j3 : wp (mJ3 i j l fj) ρ QF ↔ wp fj ρ fun ds r => i3w ds fun x y z => setw r i x.sl fun r2 => setw r2 j y.sl fun r3 => setw r3 l z.sl fun r4 => QF .nx r4 := PV.hp_j3
theorem setw_d {x : D} : setw r i (It.sl (.d x)) K ↔ setw r i (.val x) K := PV.setw_d
theorem setw_n {x : List D} : setw r i (It.sl (.n x)) K ↔ setw r i (.own x) K := PV.setw_n
theorem hp_listN : wp (mListN fa) ρ QL ↔ wp fa ρ fun d r => ow d.items? fun ds => QL ds r := PV.hp_listN
theorem ow_bits {a : Int} {P : D → Prop} : ow (dBits (.int a)) P ↔ P (.int (Builtin.Int.intBits a : Nat)) := PV.ow_bits
theorem ow_isqrt {a : Int} {P : D → Prop} : ow (dIsqrt [.int a]) P ↔ (0 ≤ a ∧ a.toNat.log2 < 9000) ∧ P (.int (Float64.isqrt a.toNat : Nat)) := PV.ow_isqrt
theorem ow_repT {xs : List D} {k : Int} {P : D → Prop} : ow (dMul (.tup xs) (.int k)) P ↔ (0 < xs.length ∧ xs.length ≤ 300 ∧ 2 ≤ k ∧ k ≤ 300) ∧ P (.tup (List.replicate k.toNat xs).flatten) := PV.ow_repT
theorem ow_pow' {a b : Int} {P : D → Prop} (h0 : 0 ≤ b) (h1 : b ≤ 100000) (h2 : -1000000000000 < a) (h3 : a < 1000000000000) : ow (dPow (.int a) (.int b)) P ↔ P (.int (a ^ b.toNat)) := PV.ow_pow' h0 h1 h2 h3
theorem ow_zip_tup {xs ys : List D} {P : List D → Prop} : ow (zip2 [.tup xs, .tup ys]) P ↔ P (pairs xs ys) := PV.ow_zip_tup
theorem ow_zip_lst {xs ys : List D} {P : List D → Prop} : ow (zip2 [.lst xs, .lst ys]) P ↔ P (pairs xs ys) := PV.ow_zip_lst
theorem ow_repT5 {x : D} {P : D → Prop} : ow (dMul (.tup [x]) (.int 5)) P ↔ P (.tup [x, x, x, x, x]) := PV.ow_repT5
end
def eiw  (s : Option Sl) (p q : Prop) (_b0 : Bx p := ⟨⟩) (_b1 : Bx q := ⟨⟩) : Prop := PV.eiw s p q
theorem hp_ei {α : Type} {j : Nat} {f g : M α} {ρ : En} {Q : α → En → Prop} : wp (mEi j f g) ρ Q ↔ eiw ρ[j]? (wp f ρ Q) (wp g ρ Q) := PV.hp_ei
theorem eiw_own {L : List D} {p q : Prop} : eiw (some (.own L)) p q ↔ p := PV.eiw_own
theorem eiw_val {d : D} {p q : Prop} : eiw (some (.val d)) p q ↔ q := PV.eiw_val
end PB

/-! a tuple with a starred tuple in it -/
namespace PV
open PySem PySem.Spec PyProof.Rows L2
section
variable {X : Cx} {W : WX} {fx : List Nat} {e : Expr} {es : List Expr} {fa : M D} {p pos : Pos}
def mStar (fe : M D) (fl : M (List D)) : M (List D) := M.bind fe fun d => match d with
  | .tup xs => M.bind fl fun ys => M.ret (xs ++ ys)
  | _ => fun _ => .no
theorem l_star {fl : M (List D)} (ha : EV X W fx e fa) (hl : LV X W fx es fl) (hs : starEach (.Starred e p :: es) X.env = (true, eval e X.env) :: starEach es X.env := by rfl) : LV X W fx (.Starred e p :: es) (mStar fa fl) := by
  refine PA.imp (StX.pa_star ha hl hs) fun σ H Q ⟨m₀, ρ, rr, w⟩ => ?_
  refine tE.firstE rr w fun dx ρ1 x H1 e1 r1 h1 s1 w1 => ?_
  cases dx with
  | tup xs =>
    cases h1 with
    | tup a1 a2 =>
      refine ⟨_, _, rfl, .inl a1.sq, ?_⟩
      refine tL.first r1 w1 fun ds ρ2 vs H2 _ r2 h2 s2 w2 => ?_
      exact w2 _ H2 r2 ((s2.rpA r1 a2).append h2) (s1.trans s2)
  | _ => cases w1
def mTupS (fl : M (List D)) : M D := M.bind fl fun ds => if ds.length ≤ 100000 then M.ret (.tup ds) else fun _ => .no
theorem e_tupS {x1} {fl : M (List D)} (h : LV X W fx es fl) : EV X W fx (.Tuple es x1 pos) (mTupS fl) := by
  refine PE.imp (pe_tup h) fun σ H Q ⟨m₀, ρ, rr, w⟩ => ?_
  refine tL.first rr w fun ds ρ1 vs H1 e r1 h1 s1 w1 => ?_
  by_cases hn : ds.length ≤ 100000
  · rw [if_pos hn] at w1
    refine ⟨by rw [h1.length]; exact sz_le hn, fun p hp => ?_⟩
    exact w1 (.ref p) _ (r1.add hp).drop (.tup (.inl ⟨r1.new_out hp, upd_same⟩) (rpA_new h1 hp)) (s1.trans (.grown (keep_new hp)))
  · rw [if_neg hn] at w1
    cases w1
end
end PV

/-! plain records: classes whose __init__ sets three attributes; attributes read, methods called -/
namespace PV
open PySem PySem.Spec PyProof.Rows L2
/-- the datum of an attribute -/
def ixF (f : Str) : List Str → List D → Option D
  | n :: ns, d :: ds => if f = n then some d else ixF f ns ds
  | _, _ => none
def dFld (c f : Str) : D → Option D
  | .ins c' ns ds => if c' = c then ixF f ns ds else none
  | _ => none
section
variable {m : Addr → Prop} {K : PySem.W.Frag} {g : Str → Option Value} {H : Hp}
theorem fld_get {f : Str} : ∀ {fs : List (Str × V)} {ds : List D} {d : D}, RpA m K g H (fs.map (·.2)) ds → ixF f (fs.map (·.1)) ds = some d → ∃ v, fs.lookup f = some v ∧ Rp m K g H v d
  | [], ds, d, h, e => by cases ds <;> cases e
  | (n, v) :: fs, ds, d, h, e => by
    cases h with
    | cons h1 h2 =>
      rw [List.map_cons] at e
      unfold ixF at e
      rw [List.lookup_cons]
      by_cases hn : f = n
      · rw [if_pos hn] at e
        cases e
        subst hn
        exact ⟨v, by simp, h1⟩
      · rw [if_neg hn] at e
        obtain ⟨w, l, r⟩ := fld_get h2 e
        refine ⟨w, ?_, r⟩
        have : (f == n) = false := by simpa using hn
        rw [this]
        exact l
theorem fld_none {f : Str} : ∀ {fs : List (Str × V)}, f ∉ fs.map (·.1) → fs.lookup f = none
  | [], _ => rfl
  | (n, v) :: fs, h => by
    rw [List.map_cons, List.mem_cons, not_or] at h
    rw [List.lookup_cons]
    have : (f == n) = false := by simpa using h.1
    rw [this]
    exact fld_none h.2
end
section
variable {X : Cx} {W : WX} {fx : List Nat} {e o : Expr} {es : List Expr} {pos apos : Pos} {c f : Str} {fe : M D}
theorem e_fld (hmg : X.mg c = some (.ref (He.fAd X.K (c, none)))) (hc : (He.Fa.cls c).ok X.K = true) (hn : (He.Fa.noat c f).ok X.K = true) (he : EV X W fx e fe) (hb : attributeBase e f X.env (eval e X.env) = eval e X.env := by rfl) : EV X W fx (.Attribute e f pos) (mUn (dFld c f) fe) := by
  refine PE.imp (pe_fld he hb) fun σ H Q ⟨m₀, ρ, rr, w⟩ => ?_
  refine tE.firstE rr w fun d ρ1 v H1 e1 r1 h1 s1 w1 => ?_
  obtain ⟨dz, e2, w2⟩ := w1.lift
  cases d with
  | ins c' ns ds =>
    replace e2 : (if c' = c then ixF f ns ds else none) = some dz := e2
    by_cases hcc : c' = c
    · rw [if_pos hcc] at e2
      subst hcc
      cases h1 with
      | ins a1 a2 a3 a4 =>
        have e3 : some (Value.ref _) = some (Value.ref (He.fAd X.K (c', none))) := a3.symm.trans hmg
        cases e3
        obtain ⟨u, l, ru⟩ := fld_get a4 e2
        exact ⟨_, _, _, _, u, rfl, a2, He.cls_ok hc, He.noat_ok hn, l, w2 u H1 r1 ru s1⟩
    · rw [if_neg hcc] at e2; cases e2
  | _ => cases e2
end
/-! ### methods -/
section
variable {P : Program} {w : World} {K : PySem.W.Frag} {mg : Str → Option Value} {base : Heap}
structure DefM (P : Program) (w : World) (K : PySem.W.Frag) (mg : Str → Option Value) (base : Heap) (c m : Str) (st : Stmt) (k : Nat) (ps : List Str) (F : M D) : Prop where
  ex : ∃ fd, Binds K fd ps [] ∧ FnG P w K mg base k (He.ma K (He.ga K c) m) fd ps (spD K mg ps.length F)
theorem defM_mk {c m q : Str} {st : Stmt} {N ps : List Str} {k j : Nat} {fx : List Nat} {mir : M Fl} (F : ∃ fd, FunD K m q (defArgs st) (defBody st) (defScope st) [] [] (He.ma K (He.ga K c) m) fd) (S : FnScope N ps (defScope st))
    (hb : ∀ (kV doc pm : Value) (an : Option Addr) (cdv ct : Value) (us : List Value), us.length = ps.length → bindArgs (PySem.W.fnOf m q (defArgs st) (defBody st) (defScope st) .none kV doc pm an cdv ct) ⟨us, []⟩ = pure (ps.zip us)) (hN : N.length = ps.length + j)
    (body : Walk P w K mg base q st k N fx mir) : DefM P w K mg base c m st (k + 1) ps (fnB fx ps.length j (asRet mir)) := by
  obtain ⟨fd, F⟩ := F
  refine ⟨fd, F.bindsN hb, FunD.okG F S (fun vs H Q E h => h.1) fun cdv A outer s H vs Q E hr hg h => ⟨_, body _ cdv A outer s H E ⟨hr, hg, takes_of rfl rfl rfl rfl, passes_of rfl, S.nd⟩, ?_⟩⟩
  exact fn_core hN h
end
section
variable {X : Cx} {W : WX} {fx : List Nat} {k j : Nat} {ps : List Str} {c m : Str} {e o : Expr} {es : List Expr} {pos apos : Pos} {F fo : M D} {st : Stmt} {fl : M (List D)} {ta : TE} {t : TA} {f C : Addr} {fd : FuncData} {sp : Sp}
theorem pe_methG {pl : Sem Bool} (he : PE X o ta) (c : Cls X.K C) (hm : Meth X.K C m f) (F : FnG X.prog X.w X.K X.mg X.base k f fd ps sp) (hr : Room k X.A) (hgd : X.A.guards = some []) (hb : Binds X.K fd ps []) (tw : Takes X W) (ha : PA X (e :: es) t)
    (hst : starEach (e :: es) X.env = (false, eval e X.env) :: starEach es X.env := by rfl) (hpl : (backTo pos (starEach es X.env)).any (·.1) = false := by rfl)
    (ht : eval (.Call (.Attribute o m apos) (e :: es) [] pos) X.env = (do
      let ov ← eval o X.env
      standAt apos.atName
      let (f, first) ← holding [ov] (getMethod ov m pl)
      callWith pos f first (backTo pos (starEach (e :: es) X.env)) (backToKw pos (keywordEach [] X.env))) := by rfl) :
    PE X (.Call (.Attribute o m apos) (e :: es) [] pos) (fun σ H Q => ta σ H fun x H1 => ∃ a dx fs, x = .ref a ∧ H1 a = some (.ins C dx fs) ∧ fs.lookup m = none ∧ t σ H1 fun vs H2 => sp (x :: vs) H2 Q (WE W σ)) := by
  refine ⟨fun pins s σ H Q I h => ?_⟩
  refine PySem.W.methodCall_KW (pl := pl) (thn (he.run pins s σ H _ I h) fun u s1 ⟨x, H1, I1, rx, a, dx, fs, ex, ea, l, q⟩ => ?_) ht
  subst ex
  obtain rfl : u = Value.ref a := rx
  refine getmeth_ok I1 ea c hm l ?_
  refine PySem.W.callWith_K (first := [.ref a]) (h₀ := X.base) I.ok.mod.kin hm.kp (thn (ha.run pos pins s1 σ H1 _ I1 q) fun us s2 ⟨vs, H2, I2, r, q2⟩ => ⟨I2.kIn, ?_⟩) hst hpl
  have r2 : Vals (V.ref a :: vs) (Value.ref a :: us) := .cons rfl r
  have hl : (Value.ref a :: us).length = ps.length := by rw [← r2.length]; exact F.len _ _ _ _ q2
  have b := hb s2 (.ref a :: us) I2.kIn (by rw [List.append_nil]; exact hl)
  rw [List.append_nil] at b
  exact run_G (args := ⟨.ref a :: us, []⟩) F hr hgd (out_ok tw I2) b I2 r2 q2
theorem pe_meth0G {pl : Sem Bool} (he : PE X o ta) (c : Cls X.K C) (hm : Meth X.K C m f) (F : FnG X.prog X.w X.K X.mg X.base k f fd ps sp) (hr : Room k X.A) (hgd : X.A.guards = some []) (hb : Binds X.K fd ps []) (tw : Takes X W)
    (ht : eval (.Call (.Attribute o m apos) [] [] pos) X.env = (do
      let ov ← eval o X.env
      standAt apos.atName
      let (f, first) ← holding [ov] (getMethod ov m pl)
      callWith pos f first (backTo pos (starEach [] X.env)) (backToKw pos (keywordEach [] X.env))) := by rfl) :
    PE X (.Call (.Attribute o m apos) [] [] pos) (fun σ H Q => ta σ H fun x H1 => ∃ a dx fs, x = .ref a ∧ H1 a = some (.ins C dx fs) ∧ fs.lookup m = none ∧ sp [x] H1 Q (WE W σ)) := by
  refine ⟨fun pins s σ H Q I h => ?_⟩
  refine PySem.W.methodCall_KW (pl := pl) (thn (he.run pins s σ H _ I h) fun u s1 ⟨x, H1, I1, rx, a, dx, fs, ex, ea, l, q⟩ => ?_) ht
  subst ex
  obtain rfl : u = Value.ref a := rx
  refine getmeth_ok I1 ea c hm l ?_
  have r2 : Vals [V.ref a] [Value.ref a] := .cons rfl .nil
  have hl : [Value.ref a].length = ps.length := by rw [← r2.length]; exact F.len _ _ _ _ q
  have b := hb s1 [.ref a] I1.kIn (by rw [List.append_nil]; exact hl)
  rw [List.append_nil] at b
  exact PySem.W.callWith_K0 (first := [.ref a]) I1.kIn hm.kp (run_G (args := ⟨[.ref a], []⟩) F hr hgd (out_ok tw I1) b I1 r2 q)
/-- o.m(e, ..), o a record of the class c -/
def methI (c m : Str) (fl : M (List D)) (n : Nat) (F : M D) : D → M D
  | .ins c' ns ds => if c' = c ∧ m ∉ ns then M.bind fl fun es => callV n F (.ins c' ns ds :: es) else fun _ => .no
  | _ => fun _ => .no
def mMeth (c m : Str) (fo : M D) (fl : M (List D)) (n : Nat) (F : M D) : M D := M.bind fo fun d => methI c m fl n F d
theorem methI_ins {c m c' : Str} {ns : List Str} {ds : List D} {fl : M (List D)} {n : Nat} {F : M D} : methI c m fl n F (.ins c' ns ds) = if c' = c ∧ m ∉ ns then M.bind fl fun es => callV n F (.ins c' ns ds :: es) else fun _ => .no := rfl
theorem e_meth (hmg : X.mg c = some (.ref (He.fAd X.K (c, none)))) (hc : (He.Fa.cls c).ok X.K = true) (hm : (He.Fa.meth c m).ok X.K = true) (G : DefM X.prog X.w X.K X.mg X.base c m st j ps F) (hr : Room k X.A) (hgd : X.A.guards = some []) (tw : Takes X W) (ho : EV X W fx o fo) (ha : LV X W fx (e :: es) fl) {pl : Sem Bool} (hjk : j ≤ k := by decide)
    (hst : starEach (e :: es) X.env = (false, eval e X.env) :: starEach es X.env := by rfl) (hpl : (backTo pos (starEach es X.env)).any (·.1) = false := by rfl)
    (ht : eval (.Call (.Attribute o m apos) (e :: es) [] pos) X.env = (do
      let ov ← eval o X.env
      standAt apos.atName
      let (f, first) ← holding [ov] (getMethod ov m pl)
      callWith pos f first (backTo pos (starEach (e :: es) X.env)) (backToKw pos (keywordEach [] X.env))) := by rfl) :
    EV X W fx (.Call (.Attribute o m apos) (e :: es) [] pos) (mMeth c m fo fl ps.length F) := by
  obtain ⟨fd, hb, hG⟩ := G.ex
  refine PE.imp (pe_methG ho (He.cls_ok hc) (He.meth_ok hm) hG (hr.mono hjk) hgd hb tw ha hst hpl ht) fun σ H Q ⟨m₀, ρ, rr, w⟩ => ?_
  refine tE.firstE rr w fun d ρ1 v H1 e1 r1 h1 s1 w1 => ?_
  cases d with
  | ins c' ns ds =>
    rw [methI_ins] at w1
    by_cases hcc : c' = c ∧ m ∉ ns
    · rw [if_pos hcc] at w1
      obtain ⟨rfl, hns⟩ := hcc
      have h1' := h1
      cases h1 with
      | ins a1 a2 a3 a4 =>
        have e3 : some (Value.ref _) = some (Value.ref (He.fAd X.K (c', none))) := a3.symm.trans hmg
        cases e3
        refine ⟨_, _, _, rfl, a2, fld_none hns, ?_⟩
        refine tL.first r1 w1 fun es' ρ2 vs H2 _ r2 h2 s2 w2 => ?_
        exact callV_ok (c := ct X W fx) r2 (.cons (s2.rp r1 h1') h2) (w2.mono fun d ρ3 _ hs v H3 r3 h3 s3 => hs v H3 r3 h3 ((s1.trans s2).trans s3))
    · rw [if_neg hcc] at w1; cases w1
  | _ => cases w1
theorem e_meth0 (hmg : X.mg c = some (.ref (He.fAd X.K (c, none)))) (hc : (He.Fa.cls c).ok X.K = true) (hm : (He.Fa.meth c m).ok X.K = true) (G : DefM X.prog X.w X.K X.mg X.base c m st j ps F) (hr : Room k X.A) (hgd : X.A.guards = some []) (tw : Takes X W) (ho : EV X W fx o fo) {pl : Sem Bool} (hjk : j ≤ k := by decide)
    (ht : eval (.Call (.Attribute o m apos) [] [] pos) X.env = (do
      let ov ← eval o X.env
      standAt apos.atName
      let (f, first) ← holding [ov] (getMethod ov m pl)
      callWith pos f first (backTo pos (starEach [] X.env)) (backToKw pos (keywordEach [] X.env))) := by rfl) :
    EV X W fx (.Call (.Attribute o m apos) [] [] pos) (mMeth c m fo dNil ps.length F) := by
  obtain ⟨fd, hb, hG⟩ := G.ex
  refine PE.imp (pe_meth0G ho (He.cls_ok hc) (He.meth_ok hm) hG (hr.mono hjk) hgd hb tw ht) fun σ H Q ⟨m₀, ρ, rr, w⟩ => ?_
  refine tE.firstE rr w fun d ρ1 v H1 e1 r1 h1 s1 w1 => ?_
  cases d with
  | ins c' ns ds =>
    rw [methI_ins] at w1
    by_cases hcc : c' = c ∧ m ∉ ns
    · rw [if_pos hcc] at w1
      obtain ⟨rfl, hns⟩ := hcc
      have h1' := h1
      cases h1 with
      | ins a1 a2 a3 a4 =>
        have e3 : some (Value.ref _) = some (Value.ref (He.fAd X.K (c', none))) := a3.symm.trans hmg
        cases e3
        refine ⟨_, _, _, rfl, a2, fld_none hns, ?_⟩
        exact callV_ok (c := ct X W fx) r1 (.cons h1' .nil) (Want.mono w1 fun d ρ3 _ hs v H3 r3 h3 s3 => hs v H3 r3 h3 (s1.trans s3))
    · rw [if_neg hcc] at w1; cases w1
  | _ => cases w1
end
/-! ### records made -/
/-- no error leaves it -/
def CXn : CXT := fun _ _ _ _ _ _ => False
theorem passN {X : Cx} {E : XK} : Passes CXn X E := fun _ _ _ _ _ _ _ h => h.elim
def spI (C : Addr) (f1 f2 f3 : Str) : Sp := fun vs H Q _ => ∃ a dx v1 v2 v3, vs = [V.ref a, v1, v2, v3] ∧ H a = some (.ins C dx []) ∧ Q .non (upd H a (.ins C dx [(f1, v1), (f2, v2), (f3, v3)]))
def mMk (c : Str) (ns : List Str) (fl : M (List D)) : M D := M.bind fl fun ds => if ds.length = ns.length then M.ret (.ins c ns ds) else fun _ => .no
section
variable {P : Program} {w : World} {K : PySem.W.Frag} {mg : Str → Option Value} {base : Heap}
/-- the walk of such an __init__ -/
def WalkI (P : Program) (w : World) (K : PySem.W.Frag) (mg : Str → Option Value) (base : Heap) (q : Str) (st : Stmt) (N : List Str) (f1 f2 f3 : Str) : Prop :=
  ∀ (fa : Addr) (cdv : Value) (A : Around) (outer : List PySem.Env) (s : Shared) (H : Hp) (E : XK),
    PSs (cxOf CXn P w K mg base N q (defScope st) fa cdv A outer s H E) (defBody st) (tSeq (sFld K (tVar 0) (tVar 1) f1) (tSeq (sFld K (tVar 0) (tVar 2) f2) (sFld K (tVar 0) (tVar 3) f3)))
structure DefI (P : Program) (w : World) (K : PySem.W.Frag) (mg : Str → Option Value) (base : Heap) (c f1 f2 f3 : Str) : Prop where
  ex : ∃ fd ps, Binds K fd ps [] ∧ FnOk P w K mg base CXn 1 (He.ma K (He.ga K c) "__init__") fd ps (spI (He.ga K c) f1 f2 f3)
theorem defI_mk {c q f1 f2 f3 : Str} {st : Stmt} {N ps : List Str} (F : ∃ fd, FunD K "__init__" q (defArgs st) (defBody st) (defScope st) [] [] (He.ma K (He.ga K c) "__init__") fd) (S : FnScope N ps (defScope st)) (hp : ps.length = 4) (hN : N.length = 4)
    (hb : ∀ (kV doc pm : Value) (an : Option Addr) (cdv ct : Value) (us : List Value), us.length = ps.length → bindArgs (PySem.W.fnOf "__init__" q (defArgs st) (defBody st) (defScope st) .none kV doc pm an cdv ct) ⟨us, []⟩ = pure (ps.zip us))
    (hc : (He.Fa.cls c).ok K = true) (n1 : (He.Fa.noat c f1).ok K = true) (n2 : (He.Fa.noat c f2).ok K = true) (n3 : (He.Fa.noat c f3).ok K = true) (h12 : f1 ≠ f2 := by decide) (h13 : f1 ≠ f3 := by decide) (h23 : f2 ≠ f3 := by decide)
    (body : WalkI P w K mg base q st N f1 f2 f3) : DefI P w K mg base c f1 f2 f3 := by
  obtain ⟨fd, F⟩ := F
  refine ⟨fd, ps, F.bindsN hb, FunD.ok F S (fun vs H Q E ⟨a, dx, v1, v2, v3, e, _⟩ => by rw [e, hp]; rfl) fun cdv A outer s H vs Q E hr h => ⟨_, body _ cdv A outer s H E, ?_⟩⟩
  obtain ⟨a, dx, v1, v2, v3, rfl, ea, q⟩ := h
  have es : start N [V.ref a, v1, v2, v3] = [some (.ref a), some v1, some v2, some v3] := by
    unfold L2.start
    rw [hN]
    rfl
  rw [es]
  have e2 : putF f2 v2 [(f1, v1)] = [(f1, v1), (f2, v2)] := by
    unfold putF
    rw [if_neg h12]
    rfl
  have e3 : putF f3 v3 [(f1, v1), (f2, v2)] = [(f1, v1), (f2, v2), (f3, v3)] := by
    unfold putF
    rw [if_neg h13]
    unfold putF
    rw [if_neg h23]
    rfl
  have cl := He.cls_ok hc
  refine ⟨v1, rfl, .ref a, rfl, a, _, dx, [], rfl, ea, cl, He.noat_ok n1, by decide, ?_⟩
  refine ⟨v2, rfl, .ref a, rfl, a, _, dx, [(f1, v1)], rfl, upd_same, cl, He.noat_ok n2, by show 1 < 1000; decide, ?_⟩
  rw [e2, upd_upd]
  refine ⟨v3, rfl, .ref a, rfl, a, _, dx, [(f1, v1), (f2, v2)], rfl, upd_same, cl, He.noat_ok n3, by show 2 < 1000; decide, ?_⟩
  rw [e3, upd_upd]
  exact q
end
section
variable {X : Cx} {W : WX} {fx : List Nat} {k : Nat} {c f1 f2 f3 : Str} {e : Expr} {es : List Expr} {p pos : Pos} {fl : M (List D)}
theorem e_make (G : DefI X.prog X.w X.K X.mg X.base c f1 f2 f3) (hmg : X.mg c = some (.ref (He.fAd X.K (c, none)))) (hk : (He.Fa.mkr c).ok X.K = true) (hr : Room k X.A) (hg : Gl X c) (ha : LV X W fx (e :: es) fl) (hjk : 2 ≤ k := by decide)
    (hdb : (c == ("__debug__" : Str)) = false := by decide) (he : starEach (e :: es) X.env = (false, eval e X.env) :: starEach es X.env := by rfl) (hpl : (backTo pos (starEach es X.env)).any (·.1) = false := by rfl) :
    EV X W fx (.Call (.Name c p) (e :: es) [] pos) (mMk c [f1, f2, f3] fl) := by
  obtain ⟨fd, ps, hb, F⟩ := G.ex
  refine PE.imp (pe_make (E := fun _ _ _ => False) (He.mkr_ok hk) F (hr.mono hjk) hg hmg hb .nil passN ha hdb he hpl) fun σ H Q ⟨m₀, ρ, rr, w⟩ => ?_
  refine tL.first rr w fun ds ρ1 vs H1 _ r1 h1 s1 w1 => ?_
  intro x dx hx hdx hne
  by_cases hl : ds.length = [f1, f2, f3].length
  · rw [if_pos hl] at w1
    have hv : vs.length = 3 := by rw [h1.length]; exact hl
    match vs, hv with
    | [v1, v2, v3], _ =>
      refine ⟨x, dx, v1, v2, v3, rfl, upd_same, rfl, ?_⟩
      rw [upd_upd]
      have ra := (r1.add (o := HO.own x) hdx).drop
      have hx' : upd H1 dx (.own x) x = none := by rw [upd_ne (Ne.symm hne)]; exact hx
      have rb := (ra.add (o := HO.ins (He.ga X.K c) dx [(f1, v1), (f2, v2), (f3, v3)]) hx').drop
      refine w1 (.ref x) _ rb (.ins (fs := [(f1, v1), (f2, v2), (f3, v3)]) (ra.new_out hx') upd_same hmg (rpA_new (rpA_new h1 hdx) hx')) (s1.trans ((Stp.grown (keep_new hdx)).trans (.grown (keep_new hx'))))
  · rw [if_neg hl] at w1
    cases w1
end
end PV

/-! x = zip(a, b) of two tuples, a comprehension over x next to it -/
namespace PV
open PySem PySem.Spec PyProof.Rows L2
/-! ### several things tracked at once -/
section
variable {X : Cx} {pins : List (Addr × Obj)} {σ : L2.St} {H H' : Hp} {s : Shared} {h' : Heap}
theorem Inv.laidE {t' : Nat} (I : Inv X pins σ H s) (k : ∀ b u, s.heap.get? b = some u → h'.get? b = some u) (hlow : ∀ b, b < s.heap.objs.size → H' b = H b)
    (hnew : ∀ b u, s.heap.objs.size ≤ b → H' b = some u → ObjOk X.prog X.w H' h' b u) : Inv X pins σ H' { s with heap := h', toks := t' } := by
  have low : ∀ {b u}, H b = some u → H' b = some u := fun {b u} e => (hlow b (I.hok.lt e)).trans e
  refine I.un ⟨fun b o e _ _ _ => k b o e, fun b o e _ _ _ => ⟨o.slots, k b o e⟩, fun b o e n _ => (hlow b (Heap.lt_size e)).trans n, fun b o e _ => ⟨o, k b o e⟩, fun b xs e => low e, fun b o u e => low e, fun b ps e => ⟨#[], by rw [low e]; simp⟩⟩ fun b u e => ?_
  by_cases hb : b < s.heap.objs.size
  · rw [hlow b hb] at e
    exact (I.hok b u e).stay (fun c v _ q => k c v q) (fun c q => low q) fun c xs q => low q
  · exact hnew b u (Nat.not_lt.mp hb) e
theorem fp_of {H2 : Hp} {a : Addr} {u : HO} (I : Inv X pins σ H s) (h : H a = some u) (hn : X.s_0.heap.objs.size ≤ a) (h2 : H2 a = none) : FpOk X pins H2 a := by
  refine ⟨h2, fun z => ?_, fun z => ?_, .inr hn, fun x c e z => ?_, fun p hp z => ?_⟩
  · rw [z, I.free] at h
    cases h
  · obtain ⟨_, o, ho, _⟩ := I.ok.funs.mem z
    exact absurd (Nat.lt_of_lt_of_le (Heap.lt_size ho) hn) (Nat.lt_irrefl _)
  · have q := I.freeC x c e
    rw [z, h] at q
    cases q
  · have q := (I.pin p hp).2.1
    rw [z, h] at q
    cases q
end
/-! ### a zip that is tracked -/
def ZO (z TI TO : Addr) : HO := .ext fun h => IsZip h z TI TO .none
def QO (T : Addr) (u v : Value) : HO := .ext fun h => IsPair h T u v
def IO (i a : Addr) : HO := .ext fun h => h.get? i = some (itO true a)
def zipH (H : Hp) (z TI TO i1 i2 a b : Addr) : Hp := upd (upd (upd (upd (upd H i1 (IO i1 a)) i2 (IO i2 b)) TI (QO TI (.ref i1) (.ref i2))) TO (QO TO .none .none)) z (ZO z TI TO)
structure Five0 (H : Hp) (z TI TO i1 i2 : Addr) : Prop where
  z : H z = none
  ti : H TI = none
  to : H TO = none
  i1 : H i1 = none
  i2 : H i2 = none
structure FiveN (n : Nat) (z TI TO i1 i2 : Addr) : Prop where
  z : n ≤ z
  ti : n ≤ TI
  to : n ≤ TO
  i1 : n ≤ i1
  i2 : n ≤ i2
def tZipV (K : PySem.W.Frag) (n : Nat) (ta : TA) : TE := fun σ H Q => ta σ H fun vs H1 => ∃ a b xs ys, vs = [V.ref a, V.ref b] ∧ SqT K H1 a xs ∧ SqT K H1 b ys ∧ ∀ z TI TO i1 i2, ZipApart z TI TO i1 i2 a b → Five0 H1 z TI TO i1 i2 → FiveN n z TI TO i1 i2 → Q (.ref z) (zipH H1 z TI TO i1 i2 a b)
section
variable {H : Hp} {z TI TO i1 i2 a b : Addr}
theorem zipH_out {c : Addr} (h1 : c ≠ z) (h2 : c ≠ TO) (h3 : c ≠ TI) (h4 : c ≠ i2) (h5 : c ≠ i1) : zipH H z TI TO i1 i2 a b c = H c := by
  unfold zipH
  rw [upd_ne h1, upd_ne h2, upd_ne h3, upd_ne h4, upd_ne h5]
theorem zipH_z : zipH H z TI TO i1 i2 a b z = some (ZO z TI TO) := upd_same
theorem zipH_to (D : ZipApart z TI TO i1 i2 a b) : zipH H z TI TO i1 i2 a b TO = some (QO TO .none .none) := by
  unfold zipH
  rw [upd_ne D.TOz]
  exact upd_same
theorem zipH_ti (D : ZipApart z TI TO i1 i2 a b) : zipH H z TI TO i1 i2 a b TI = some (QO TI (.ref i1) (.ref i2)) := by
  unfold zipH
  rw [upd_ne D.TIz, upd_ne D.TITO]
  exact upd_same
theorem zipH_i2 (D : ZipApart z TI TO i1 i2 a b) : zipH H z TI TO i1 i2 a b i2 = some (IO i2 b) := by
  unfold zipH
  rw [upd_ne D.i2z, upd_ne (Ne.symm D.TOi2), upd_ne (Ne.symm D.TIi2)]
  exact upd_same
theorem zipH_i1 (D : ZipApart z TI TO i1 i2 a b) : zipH H z TI TO i1 i2 a b i1 = some (IO i1 a) := by
  unfold zipH
  rw [upd_ne D.i1z, upd_ne (Ne.symm D.TOi1), upd_ne (Ne.symm D.TIi1), upd_ne D.i12]
  exact upd_same
end
theorem pe_zipV {X : Cx} {e e2 : Expr} {ta : TA} {p pos : Pos} (hg : Gl X "zip") (hm : X.mg "zip" = none) (ha : PA X [e, e2] ta)
    (hs : starEach [e, e2] X.env = (false, eval e X.env) :: starEach [e2] X.env := by rfl) (hpl : (backTo pos (starEach [e2] X.env)).any (·.1) = false := by rfl) :
    PE X (.Call (.Name "zip" p) [e, e2] [] pos) (tZipV X.K X.s_0.heap.objs.size ta) := by
  refine ⟨fun pins s σ H Q I h => ?_⟩
  refine Call_ (ld_blt I hg hm PyProof.Rows.boot_zip (PyProof.Rows.callWith_type1 (thn (ha.run pos pins s σ H _ I h) fun us s1 ⟨vs, H1, I1, r1, q1⟩ => ?_) hs hpl))
  obtain ⟨a, b, xs, ys, ex, hqx, hqy, q⟩ := q1
  subst ex
  cases r1 with
  | cons r rr =>
    cases rr with
    | cons r' rr =>
      cases rr
      cases r
      cases r'
      obtain ⟨its, rv, p1, lt1⟩ := Inv.seqB (f := true) I1 hqx
      obtain ⟨its2, rv2, p2, lt2⟩ := Inv.seqB (f := true) I1 hqy
      refine zip_begins2 (begins_B true a its.toArray) (begins_B true b its2.toArray) p1 p2 fun h' hz hTI hTO h1 h2 hsz hk => ?_
      have D := PySem.W.ktu_apart s1.heap.objs.size a b lt1 lt2
      have fr : ∀ c, s1.heap.objs.size ≤ c → H1 c = none := fun c hc => I1.hok.fresh hc
      have F0 : Five0 H1 (s1.heap.objs.size + 4) (s1.heap.objs.size + 2) (s1.heap.objs.size + 3) s1.heap.objs.size (s1.heap.objs.size + 1) := ⟨fr _ (Nat.le_add_right _ _), fr _ (Nat.le_add_right _ _), fr _ (Nat.le_add_right _ _), fr _ (Nat.le_refl _), fr _ (Nat.le_add_right _ _)⟩
      have sz := I1.sz
      have FN : FiveN X.s_0.heap.objs.size (s1.heap.objs.size + 4) (s1.heap.objs.size + 2) (s1.heap.objs.size + 3) s1.heap.objs.size (s1.heap.objs.size + 1) := ⟨Nat.le_trans sz (Nat.le_add_right _ _), Nat.le_trans sz (Nat.le_add_right _ _), Nat.le_trans sz (Nat.le_add_right _ _), sz, Nat.le_trans sz (Nat.le_add_right _ _)⟩
      refine ⟨.ref _, _, Inv.laidE (t' := s1.toks) I1 hk (fun c hc => ?_) (fun c u hc e => ?_), rfl, q _ _ _ _ _ D F0 FN⟩
      · exact zipH_out (Nat.ne_of_lt (by omega)) (Nat.ne_of_lt (by omega)) (Nat.ne_of_lt (by omega)) (Nat.ne_of_lt (by omega)) (Nat.ne_of_lt hc)
      · by_cases c1 : c = s1.heap.objs.size + 4
        · subst c1
          rw [zipH_z] at e; cases e
          exact ⟨hz, ⟨_, hz⟩, fun g1 g2 x k => k _ x⟩
        by_cases c2 : c = s1.heap.objs.size + 3
        · subst c2
          rw [zipH_to D] at e; cases e
          exact ⟨hTO, ⟨_, hTO⟩, fun g1 g2 x k => k _ x⟩
        by_cases c3 : c = s1.heap.objs.size + 2
        · subst c3
          rw [zipH_ti D] at e; cases e
          exact ⟨hTI, ⟨_, hTI⟩, fun g1 g2 x k => k _ x⟩
        by_cases c4 : c = s1.heap.objs.size + 1
        · subst c4
          rw [zipH_i2 D] at e; cases e
          exact ⟨h2, ⟨_, h2⟩, fun g1 g2 x k => k _ x⟩
        by_cases c5 : c = s1.heap.objs.size
        · subst c5
          rw [zipH_i1 D] at e; cases e
          exact ⟨h1, ⟨_, h1⟩, fun g1 g2 x k => k _ x⟩
        · rw [zipH_out c1 c2 c3 c4 c5, fr c hc] at e; cases e
def iZipV (K : PySem.W.Frag) (n : Nat) (k : Nat) : TI := fun σ H R => ∃ (z TI TO i1 i2 a b : Addr) (H0 : Hp), σ[k]? = some (some (.ref z)) ∧ ZipApart z TI TO i1 i2 a b ∧ H = zipH H0 z TI TO i1 i2 a b ∧ Five0 H0 z TI TO i1 i2 ∧ FiveN n z TI TO i1 i2 ∧ R (ItzB true true K a b) H0
theorem inv_zip {X : Cx} {pins : List (Addr × Obj)} {σ : L2.St} {H : Hp} {s : Shared} {z TI TO i1 i2 a b : Addr} (D : ZipApart z TI TO i1 i2 a b) (F : Five0 H z TI TO i1 i2) (I : Inv X pins σ (zipH H z TI TO i1 i2 a b) s) : Inv X pins σ H s := by
  have e1 : upd (upd (upd (upd H i1 (IO i1 a)) i2 (IO i2 b)) TI (QO TI (.ref i1) (.ref i2))) TO (QO TO .none .none) z = none := by
    rw [upd_ne (Ne.symm D.TOz), upd_ne (Ne.symm D.TIz), upd_ne (Ne.symm D.i2z), upd_ne (Ne.symm D.i1z)]; exact F.z
  have e2 : upd (upd (upd H i1 (IO i1 a)) i2 (IO i2 b)) TI (QO TI (.ref i1) (.ref i2)) TO = none := by
    rw [upd_ne (Ne.symm D.TITO), upd_ne D.TOi2, upd_ne D.TOi1]; exact F.to
  have e3 : upd (upd H i1 (IO i1 a)) i2 (IO i2 b) TI = none := by
    rw [upd_ne D.TIi2, upd_ne D.TIi1]; exact F.ti
  have e4 : upd H i1 (IO i1 a) i2 = none := by
    rw [upd_ne (Ne.symm D.i12)]; exact F.i2
  have I1 := ItX.inv_drop I (show zipH H z TI TO i1 i2 a b z = some (.ext _) from upd_same)
  rw [show ItX.dropH (zipH H z TI TO i1 i2 a b) z = _ from ItX.dropH_upd e1] at I1
  have I2 := ItX.inv_drop (a := TO) I1 (show _ = some (HO.ext _) from upd_same)
  rw [ItX.dropH_upd e2] at I2
  have I3 := ItX.inv_drop (a := TI) I2 (show _ = some (HO.ext _) from upd_same)
  rw [ItX.dropH_upd e3] at I3
  have I4 := ItX.inv_drop (a := i2) I3 (show _ = some (HO.ext _) from upd_same)
  rw [ItX.dropH_upd e4] at I4
  have I5 := ItX.inv_drop (a := i1) I4 (show _ = some (HO.ext _) from upd_same)
  rw [ItX.dropH_upd F.i1] at I5
  exact I5
theorem pi_zipv {X : Cx} {k kk : Nat} {x : Str} {p tpos : Pos} {elts : List Expr} (hN : X.N[k]? = some x) (hv : Vis X.env.scope x) (hd : (x == ("__debug__" : Str)) = false := by decide) (hcd : (x == ("__classdict__" : Str)) = false := by decide) : PI X (.Tuple elts kk tpos) (.Name x p) (iZipV X.K X.s_0.heap.objs.size k) := by
  refine ⟨fun pins s σ H R I h => ?_⟩
  obtain ⟨z, TI, TO, i1, i2, a, b, H0, hs, D, eH, F, N, q⟩ := h
  refine thn ((pe_var (pos := p) (i := k) hN hv hd hcd).run pins s σ H (fun v H1 => v = .ref z ∧ H1 = H) I ⟨.ref z, hs, rfl, rfl⟩) fun u s1 ⟨v, H1, I1, r1, ev, eH1⟩ => ?_
  subst ev
  rw [eH1, eH] at I1
  cases r1
  have o1 : IsZip s1.heap z TI TO .none := (I1.hok z _ zipH_z).1
  have o2 : IsPair s1.heap TO .none .none := (I1.hok TO _ (zipH_to D)).1
  have o3 : IsPair s1.heap TI (.ref i1) (.ref i2) := (I1.hok TI _ (zipH_ti D)).1
  have o4 : s1.heap.get? i2 = some (itO true b) := (I1.hok i2 _ (zipH_i2 D)).1
  have o5 : s1.heap.get? i1 = some (itO true a) := (I1.hok i1 _ (zipH_i1 D)).1
  have T := turn_zipB (P := X.prog) (w := X.w) (K := X.K) (elts := elts) (kk := kk) (tpos := tpos) (f := true) (g := true) D
  have st : IsZip s1.heap z TI TO .none ∧ IsPair s1.heap TI (.ref i1) (.ref i2) ∧ (∃ x y, IsPair s1.heap TO x y) ∧ ItB true s1.heap i1 a 0 ∧ ItB true s1.heap i2 b 0 := ⟨o1, o3, ⟨_, _, o2⟩, itB_new o5, itB_new o4⟩
  refine T.self X.A 0 s1 _ _ st ?_
  refine ⟨z, [z, TI, TO, i1, i2], _, _, H0, rfl, inv_zip D F I1, T, st, fun c hc => ?_, q⟩
  have e' : c = z ∨ c = TI ∨ c = TO ∨ c = i1 ∨ c = i2 := by simpa using hc
  rcases e' with y | y | y | y | y
  · rw [y]; exact fp_of I1 zipH_z N.z F.z
  · rw [y]; exact fp_of I1 (zipH_ti D) N.ti F.ti
  · rw [y]; exact fp_of I1 (zipH_to D) N.to F.to
  · rw [y]; exact fp_of I1 (zipH_i1 D) N.i1 F.i1
  · rw [y]; exact fp_of I1 (zipH_i2 D) N.i2 F.i2
/-- a comprehension from where its walk begins -/
theorem lc_at {K : PySem.W.Frag} {mg : Str → Option Value} {W : WX} {fx fx' vs : List Nat} {n : Nat} {g : D → M Unit} {t : M Bool} {f : M D} {σ : L2.St} {H H1 : Hp} {Q : VK} {m₀ : Addr → Prop} {ρ ρ1 : En} {ds : List D} {J : L2.It}
    (hfx : ∀ j, j < n → j ∉ vs → j ∈ fx') (r1 : Rel m₀ K mg H1 σ ρ1) (src : Src K mg (mm m₀ σ ρ1) H1 J ds) (st1 : Stp σ ρ H σ ρ1 H1)
    (w1 : Want ⟨K, mg, W, fx⟩ m₀ σ ρ1 H1 (fun ds ρ' => ∀ p vs H', Rel (mp m₀ p) K mg H' σ ρ' → H p = none → H' p = some (.lst vs) → RpA (mm (mp m₀ p) σ ρ') K mg H' vs ds → Stp σ ρ H σ ρ' H' → Q (.ref p) H')
      ((noEr (M.bind (lenM n) fun _ => if ds.length ≤ 100000 then M.bind (lcL n vs g t f ds) fun ys => M.bind (lenM n) fun _ => M.bind (wipeM vs) fun _ => M.ret ys else fun _ => .no)) ρ1)) :
    tLc (fun _ H' R => R J H') (tG ⟨K, mg, W0, fx'⟩ g) (tT ⟨K, mg, W0, fx'⟩ t) (tE ⟨K, mg, W0, fx'⟩ f) vs σ H1 Q := by
  obtain ⟨S, s0, sm, si, se⟩ := src
  intro D0 hD
  obtain ⟨ys, ρe, e1, fin⟩ := noEr_inv w1
  obtain ⟨_, ρ1', e2, e3⟩ := bind_inv e1
  unfold lenM at e2
  split at e2
  · rename_i hn
    cases e2
    split at e3
    · rename_i hz
      obtain ⟨zs, ρ2, e4, e5⟩ := bind_inv e3
      obtain ⟨_, ρ3', e8, e9⟩ := bind_inv e5
      obtain ⟨hne, rfl⟩ := lenM_inv e8
      obtain ⟨_, ρ3, e6, e7⟩ := bind_inv e9
      cases e7
      unfold wipeM at e6
      split at e6
      · rename_i hw
        cases e6
        have nm : ¬ m₀ D0 := fun z => r1.dom D0 z hD
        -- the state between two turns
        refine ⟨fun i k H' => k = ds.length - i ∧ i ≤ ds.length ∧ ∃ σi ρi acc av, wipe σi vs = wipe σ vs ∧ Rel (mp m₀ D0) K mg H' σi ρi ∧ Stp σ ρ1 H1 σi ρi H' ∧ S (mm (mp m₀ D0) σi ρi) H' ∧ H' D0 = some (.lst av) ∧ RpA (mm (mp m₀ D0) σi ρi) K mg H' av acc ∧ acc.length ≤ i ∧
            ∃ rest, lcL n vs g t f (ds.drop i) ρi = .ok rest ρ2 ∧ acc ++ rest = ys, ⟨ds.length, by simp, Nat.zero_le _, σ, ρ1, [], [], rfl, r1.add hD, Stp.grown (keep_new hD), ?_, upd_same, .nil, Nat.le_refl _, ys, e4, rfl⟩, ?_⟩
        · exact sm _ _ _ _ s0 (fun a z => by
            rcases z with (z | z) | z
            · exact .inl (.inl z)
            · rw [z]; exact .inr hD
            · exact .inl (.inr z)) (fun a o m e => keep_new hD a o e)
        · rintro i k H2 ⟨rfl, hi, σi, ρi, acc, av, ws, r2, st2, s2, hav, ra, hal, rest, el, eacc⟩
          by_cases hlt : i < ds.length
          · right
            have ed : ds.drop i = ds[i] :: ds.drop (i + 1) := (List.drop_eq_getElem_cons hlt)
            rw [ed] at el
            obtain ⟨y0, ρ4, t1, t2⟩ := bind_inv el
            obtain ⟨z0, ρ5, t3, t4⟩ := bind_inv t2
            cases t4
            obtain ⟨_, ρ6', u0, t5⟩ := bind_inv t1
            obtain ⟨hn2, rfl⟩ := lenM_inv u0
            obtain ⟨_, ρ6, u1, u2⟩ := bind_inv t5
            unfold wipeM at u1
            split at u1
            · rename_i hw2
              cases u1
              obtain ⟨_, ρ7, u3, u4⟩ := bind_inv u2
              obtain ⟨_, ρ8, u5, u6⟩ := bind_inv u4
              unfold lenM at u5
              split at u5
              · rename_i hn3
                cases u5
                obtain ⟨b, ρ9, u7, u8⟩ := bind_inv u6
                have ei : ds[i]? = some ds[i] := List.getElem?_eq_getElem hlt
                obtain ⟨go, hy⟩ := si i _ H2 _ s2 (fun p hp => r2.new_out hp) ei
                refine ⟨go, fun H' => ∃ σi ρi acc av, wipe σi vs = wipe σ vs ∧ Rel (mp m₀ D0) K mg H' σi ρi ∧ Stp σ ρ1 H1 σi ρi H' ∧ S (mm (mp m₀ D0) σi ρi) H' ∧ H' D0 = some (.lst av) ∧ RpA (mm (mp m₀ D0) σi ρi) K mg H' av acc ∧ acc.length ≤ i + 1 ∧
                    ∃ rest, lcL n vs g t f (ds.drop (i + 1)) ρi = .ok rest ρ2 ∧ acc ++ rest = ys, fun H' h => ⟨ds.length - (i + 1), by omega, rfl, hlt, h⟩, fun x H3 yl => ?_⟩
                obtain ⟨k3, h3⟩ := hy x H3 yl
                obtain ⟨rw', ow⟩ := r2.wiped vs hw2
                rw [ws] at rw' ow
                have em : mm (mp m₀ D0) (wipe σ vs) (wipeE ρi vs) = mm (mp m₀ D0) σi ρi := mm_congr ow
                have r3 := rw'.grown k3
                refine ⟨mp m₀ D0, wipeE ρi vs, _, r3, by rw [em]; exact h3, ?_⟩
                rw [u3]
                intro σ4 H4 r4 st4 f4
                have hl4 : σ4.length = (wipe σ vs).length := by
                  rw [r4.len, hn3, rw'.len, wipeE_length, hn2]
                have wv : wipe σ4 vs = wipe σ vs := by
                  refine List.ext_getElem? fun j => ?_
                  by_cases hj : j ∈ vs
                  · have a1 : ∀ (τ : L2.St), τ.length = n → j < n → (wipe τ vs)[j]? = some none := fun τ hτ hjn => by
                      cases q : (wipe τ vs)[j]? with
                      | none => rw [List.getElem?_eq_none_iff, wipe_length, hτ] at q; omega
                      | some s =>
                        cases s with
                        | none => rfl
                        | some v => exact absurd hj (wipe_some q).2
                    have ln4 : σ4.length = n := by rw [r4.len]; exact hn3
                    have ln : σ.length = n := by rw [r1.len]; exact hn
                    by_cases hjn : j < n
                    · rw [a1 _ ln4 hjn, a1 _ ln hjn]
                    · rw [List.getElem?_eq_none (by rw [wipe_length, ln4]; omega), List.getElem?_eq_none (by rw [wipe_length, ln]; omega)]
                  · rw [wipe_out hj, wipe_out hj]
                    by_cases hjn : j < n
                    · rw [f4 j (hfx j hjn hj), wipe_out hj]
                    · have ln4 : σ4.length = n := by rw [r4.len]; exact hn3
                      have ln : σ.length = n := by rw [r1.len]; exact hn
                      rw [List.getElem?_eq_none (by omega), List.getElem?_eq_none (by omega)]
                refine ⟨wv, mp m₀ D0, ρ7, r4, ?_⟩
                rw [u7]
                intro H5 r5 st5
                -- the steps since the turn began
                have q1 : Stp σi ρi H2 (wipe σ vs) (wipeE ρi vs) H2 := Stp.same ow
                have q2 : Stp σi ρi H2 σ4 ρ9 H5 := q1.trans ((Stp.grown k3).trans (st4.trans st5))
                have nD : ∀ {τ : L2.St} {π : En} {G : Hp}, Rel (mp m₀ D0) K mg G τ π → ¬ Own τ π D0 := fun {τ π G} rl ⟨j, es, e1, e2⟩ => by
                  obtain ⟨p, _, h1, h2, _, _⟩ := rl.own j es e1
                  rw [e2] at h1; cases h1
                  exact h2 (.inr rfl)
                have ext : ∀ {ρ10 : En} {H6 : Hp} {G : Hp} {a2 : List D} {v2 : List V}, Rel (mp m₀ D0) K mg H6 σ4 ρ10 → Stp σi ρi H2 σ4 ρ10 H6 → (G = H6 ∧ v2 = av ∨ ∃ o, G = upd H6 D0 o ∧ o = .lst v2) → RpA (mm (mp m₀ D0) σ4 ρ10) K mg G v2 a2 → a2.length ≤ i + 1 →
                    (∃ rest, lcL n vs g t f (ds.drop (i + 1)) ρ10 = .ok rest ρ2 ∧ a2 ++ rest = ys) → ∃ σi ρi acc av, wipe σi vs = wipe σ vs ∧ Rel (mp m₀ D0) K mg G σi ρi ∧ Stp σ ρ1 H1 σi ρi G ∧ S (mm (mp m₀ D0) σi ρi) G ∧ G D0 = some (.lst av) ∧ RpA (mm (mp m₀ D0) σi ρi) K mg G av acc ∧ acc.length ≤ i + 1 ∧
                    ∃ rest, lcL n vs g t f (ds.drop (i + 1)) ρi = .ok rest ρ2 ∧ acc ++ rest = ys := fun {ρ10 H6 G a2 v2} r6 st6 hG rp6 hal6 hr6 => by
                  have s6 : S (mm (mp m₀ D0) σ4 ρ10) H6 := sm _ _ _ _ s2 (fun a z => by
                    rcases z with z | z
                    · exact .inl (.inl z)
                    · rcases st6.own a z with y | y
                      · exact .inl (.inr y)
                      · exact .inr y) (fun a o m e => st6.keep a o (fun z => m (.inr z)) e)
                  have t6 := st2.trans st6
                  have d6 : H6 D0 = some (.lst av) := st6.keep D0 _ (nD r2) hav
                  rcases hG with ⟨rfl, rfl⟩ | ⟨o, rfl, rfl⟩
                  · exact ⟨σ4, ρ10, a2, v2, wv, r6, t6, s6, d6, rp6, hal6, hr6⟩
                  · obtain ⟨r7, k7⟩ := r6.updOut (o := .lst v2) (D0 := D0) (.inr rfl)
                    exact ⟨σ4, ρ10, a2, v2, wv, r7, t6.updNew hD, sm _ _ _ _ s6 Sub'.refl k7, upd_same, rp6, hal6, hr6⟩
                have ra5 := q2.rpA r2 ra
                cases b with
                | false =>
                  rw [if_neg Bool.false_ne_true] at u8 ⊢
                  cases u8
                  exact ext r5 q2 (.inl ⟨rfl, rfl⟩) ra5 (by omega) ⟨z0, t3, eacc⟩
                | true =>
                  rw [if_pos rfl] at u8 ⊢
                  obtain ⟨yv, ρ10, u9, u10⟩ := bind_inv u8
                  cases u10
                  refine ⟨mp m₀ D0, ρ9, r5, ?_⟩
                  rw [u9]
                  intro y H6 r6 hy6 st6
                  have q3 : Stp _ _ H2 σ4 ρ4 H6 := q2.trans st6
                  have hD6 : H6 D0 = some (.lst av) := q3.keep D0 _ (nD r2) hav
                  have ra6 := q3.rpA r2 ra
                  obtain ⟨r7, k7⟩ := r6.updOut (o := .lst (av ++ [y])) (D0 := D0) (.inr rfl)
                  refine ⟨av, hD6, ?_, ext r6 q3 (.inr ⟨_, rfl, rfl⟩) (RpA.mono Sub'.refl k7 _ _ (ra6.append (.cons hy6 .nil))) (by simp; omega) ⟨z0, t3, by rw [List.append_assoc]; exact eacc⟩⟩
                  rw [ra.length]
                  exact Nat.lt_of_le_of_lt (by omega : acc.length ≤ 100000) (by decide)
              · cases u5
            · cases u1
          · left
            have e : i = ds.length := by omega
            subst e
            rw [List.drop_length] at el
            have el' : (R.ok [] ρi : R (List D)) = .ok rest ρ2 := el
            cases el'
            rw [List.append_nil] at eacc
            subst eacc
            refine ⟨se _ _ s2, ?_⟩
            obtain ⟨rw', ow⟩ := r2.wiped vs hw
            rw [ws] at rw' ow
            obtain ⟨r9, o9⟩ := Rel.cong (σ := σ) rw' (by rw [wipeE_length, hne, r1.len]; exact hn) fun j s q ns => by
              by_cases hj : j ∈ vs
              · exact absurd (wipeE_no hj q) ns
              · rw [wipe_out hj]
            have ot : ∀ a, Own σ (wipeE _ vs) a ↔ Own σi _ a := fun a => (o9 a).trans (ow a)
            refine fin D0 av H2 r9 (st1.back hD) hav ?_ (st1.trans (st2.trans (Stp.same ot)))
            rw [mm_congr ot]; exact ra
      · cases e6
    · cases e3
  · cases e2
section
variable {m₀ : Addr → Prop} {K : PySem.W.Frag} {g : Str → Option Value} {H : Hp} {σ : L2.St} {ρ : En} {j : Nat} {s : Option V}
theorem own_hide {a : Addr} (h : Own (σ.set j s) (ρ.set j .no) a) : Own σ ρ a := by
  obtain ⟨i, ds, e1, e2⟩ := h
  by_cases hi : i = j
  · subst hi
    by_cases hl : i < ρ.length
    · rw [List.getElem?_set_self hl] at e1; cases e1
    · rw [List.getElem?_eq_none (by rw [List.length_set]; omega)] at e1; cases e1
  · rw [List.getElem?_set_ne (Ne.symm hi)] at e1 e2
    exact ⟨i, ds, e1, e2⟩
theorem mm_hide {a : Addr} (h : mm m₀ (σ.set j s) (ρ.set j .no) a) : mm m₀ σ ρ a ∨ H a = none := by
  rcases h with h | h
  · exact .inl (.inl h)
  · exact .inl (.inr (own_hide h))
theorem Rel.hide (r : Rel m₀ K g H σ ρ) : Rel m₀ K g H (σ.set j s) (ρ.set j .no) := by
  have nj : ∀ {i : Nat} {x : Sl}, (ρ.set j .no)[i]? = some x → x ≠ .no → i ≠ j ∧ ρ[i]? = some x := fun {i x} e n => by
    by_cases hi : i = j
    · subst hi
      by_cases hl : i < ρ.length
      · rw [List.getElem?_set_self hl] at e; cases e; exact absurd rfl n
      · rw [List.getElem?_eq_none (by rw [List.length_set]; omega)] at e; cases e
    · rw [List.getElem?_set_ne (Ne.symm hi)] at e
      exact ⟨hi, e⟩
  refine ⟨by rw [List.length_set, List.length_set, r.len], r.dom, fun i d e => ?_, fun i ds e => ?_, fun i i' ds es p e1 e2 e3 e4 => ?_⟩
  · obtain ⟨hi, e'⟩ := nj e (by simp)
    obtain ⟨v, h1, h2⟩ := r.val i d e'
    exact ⟨v, by rw [List.getElem?_set_ne (Ne.symm hi)]; exact h1, Rp.mono (fun a z => mm_hide z) Kp.refl _ _ h2⟩
  · obtain ⟨hi, e'⟩ := nj e (by simp)
    obtain ⟨p, vs, h1, h2, h3, h4⟩ := r.own i ds e'
    exact ⟨p, vs, by rw [List.getElem?_set_ne (Ne.symm hi)]; exact h1, h2, h3, RpA.mono (fun a z => mm_hide z) Kp.refl _ _ h4⟩
  · obtain ⟨hi, e1'⟩ := nj e1 (by simp)
    obtain ⟨hi', e2'⟩ := nj e2 (by simp)
    rw [List.getElem?_set_ne (Ne.symm hi)] at e3
    rw [List.getElem?_set_ne (Ne.symm hi')] at e4
    exact r.inj i i' ds es p e1' e2' e3 e4
theorem Stp.hide : Stp σ ρ H (σ.set j s) (ρ.set j .no) H := ⟨Kp.refl, fun _ h => h, fun _ h => .inl (own_hide h)⟩
theorem src_zipTT {m : Addr → Prop} {a b : Addr} {xs ys : List V} {ds es : List D} (h : RT m K H a xs) (h2 : RpA m K g H xs ds) (h3 : RT m K H b ys) (h4 : RpA m K g H ys es) : Src K g m H (ItzB true true K a b) (pairs ds es) := by
  refine ⟨fun m H => (RT m K H a xs ∧ RpA m K g H xs ds) ∧ RT m K H b ys ∧ RpA m K g H ys es, ⟨⟨h, h2⟩, h3, h4⟩, fun m m' H H' ⟨⟨p, q⟩, p', q'⟩ s k => ⟨⟨p.mono s k, RpA.mono s k _ _ q⟩, p'.mono s k, RpA.mono s k _ _ q'⟩, fun i m H d ⟨⟨p, q⟩, p', q'⟩ hm e => ?_, fun m H ⟨⟨p, q⟩, p', q'⟩ => ⟨xs, ys, p.sq, p'.sq, ?_⟩⟩
  · obtain ⟨dx, dy, e1, e2, rfl⟩ := pairs_get e
    obtain ⟨v, f1, g1⟩ := q.get e1
    obtain ⟨w, f2, g2⟩ := q'.get e2
    refine ⟨⟨xs, ys, v, w, p.sq, p'.sq, f1, f2⟩, fun x H' y => ?_⟩
    obtain ⟨T, x1, y1, rfl, n, rfl, y2, y3⟩ := y
    have e3 := y2 xs p.sq
    have e4 := y3 ys p'.sq
    rw [f1] at e3; cases e3
    rw [f2] at e4; cases e4
    exact new_pair hm n g1 g2
  · rw [pairs_len, q.length, q'.length]; omega
end
end PV

/-! x = zip(a, b) of two tuples, a comprehension over x next to it: the statements -/
namespace PV
open PySem PySem.Spec PyProof.Rows L2
def zipT : List D → Option (List D)
  | [.tup xs, .tup ys] => some (pairs xs ys)
  | _ => none
def mZipLc (j i n : Nat) (vs : List Nat) (fl : M (List D)) (g : D → M Unit) (t : M Bool) (f : M D) : M Fl := M.bind fl fun ds => M.bind (lift (zipT ds)) fun ps => M.bind (put j .no) fun _ => mSet i (mLst (mLc n vs (M.ret ps) g t f))
section
variable {X : Cx} {W : WX} {fx fx' : List Nat} {n : Nat} {e e2 elt : Expr} {ifs elts : List Expr} {kk : Nat} {scope : Scope} {own : List (Str × Nat)} {p p2 px py cpos pos1 lpos spos tpos : Pos} {x y : Str} {rest : List Stmt} {fl : M (List D)} {g : D → M Unit} {t : M Bool} {f : M D} {fr : M Fl}
theorem s_zipLc (j i : Nat) (hc : X.calm = true) (hN : X.N.Nodup) (hg : Gl X "zip") (hm : X.mg "zip" = none) (ha : LV X W fx [e, e2] fl)
    (hsw : swapsWith (.ListComp elt [⟨.Tuple elts kk tpos, .Name x p2, ifs, 0⟩] scope lpos) (some (.Name y py)) spos.line X.env = pure true) (ok : BlkOk X.N X.env.scope scope own)
    (hgg : Blk X scope fun Y => GV Y W0 fx' (.Tuple elts kk tpos) g) (ht : Blk X scope fun Y => IfV Y W0 fx' ifs t) (he : Blk X scope fun Y => EV Y W0 fx' elt f) (hfx : ∀ j, j < n → j ∉ own.map (·.2) → j ∈ fx') (hr : BV X W fx rest fr)
    (hfj : j ∉ fx := by decide) (hfi : i ∉ fx := by decide) (hj : X.N[j]? = some x := by rfl) (hx : Loc X.env.scope x := by first | exact .inl rfl | exact .inr rfl) (hv : Vis X.env.scope x := by first | exact .inl rfl | exact .inr rfl)
    (hy : X.N[i]? = some y := by rfl) (hyl : X.env.scope.names.lookup y = some .local := by rfl) (hs : ∀ z, foldedSetIterable (.Name x p2) X.env z = pure z := by intro _; rfl)
    (hs1 : swapsWith (.Call (.Name "zip" p) [e, e2] [] cpos) (some (.Name x px)) pos1.line X.env = pure false := by rfl) (hf : X.fn x = true ∨ X.env.scope.names.lookup x = some .local := by first | exact .inl rfl | exact .inr rfl)
    (hst : starEach [e, e2] X.env = (false, eval e X.env) :: starEach [e2] X.env := by rfl) (hpl : (backTo cpos (starEach [e2] X.env)).any (·.1) = false := by rfl) (hd : (x == ("__debug__" : Str)) = false := by decide) (hcd : (x == ("__classdict__" : Str)) = false := by decide) :
    BV X W fx (.Assign [.Name x px] (.Call (.Name "zip" p) [e, e2] [] cpos) pos1 :: .Assign [.Name y py] (.ListComp elt [⟨.Tuple elts kk tpos, .Name x p2, ifs, 0⟩] scope lpos) spos :: rest) (mSeq (mZipLc j i n (own.map (·.2)) fl g t f) fr) := by
  have A := ps_set (pos := pos1) (pos' := px) (i := j) hN hj hx (pe_zipV (p := p) (pos := cpos) hg hm ha hst hpl) hs1 hf
  have B := pi_zipv (X := X) (k := j) (kk := kk) (x := x) (p := p2) (tpos := tpos) (elts := elts) hj hv hd hcd
  have C := ps_setLc (g := tG (ct X W0 fx') g) (tt := tT (ct X W0 fx') t) (te := tE (ct X W0 fx') f) hc hN hy hyl hsw B ok hgg ht he hs
  refine PSs.imp (pss_cons A (pss_cons C hr)) fun E σ H ⟨m₀, ρ, rr, w⟩ => ?_
  have wb := w.bind
  unfold mZipLc at wb
  show tL (ct X W fx) fl σ H (fun vs H1 => ∃ a b xs ys, vs = [V.ref a, V.ref b] ∧ SqT X.K H1 a xs ∧ SqT X.K H1 b ys ∧ ∀ z TI TO i1 i2, ZipApart z TI TO i1 i2 a b → Five0 H1 z TI TO i1 i2 → FiveN X.s_0.heap.objs.size z TI TO i1 i2 →
    tLc (iZipV X.K X.s_0.heap.objs.size j) (tG (ct X W0 fx') g) (tT (ct X W0 fx') t) (tE (ct X W0 fx') f) (own.map (·.2)) (σ.set j (some (V.ref z))) (zipH H1 z TI TO i1 i2 a b) fun v H2 => tS (ct X W fx) fr E ((σ.set j (some (V.ref z))).set i (some v)) H2)
  refine tL.first rr wb fun ds ρ1 vs H1 _ r1 h1 s1 w1 => ?_
  have w1' := w1.bind
  obtain ⟨ps, e2', w2⟩ := w1'.lift
  unfold zipT at e2'
  split at e2'
  · rename_i dxs dys e0
    cases e2'
    obtain ⟨v, v', rfl, h2, h3⟩ := rp2 h1
    cases h2 with
    | tup a1 a2 => cases h3 with
      | tup b1 b2 =>
        refine ⟨_, _, _, _, rfl, a1.sq, b1.sq, fun z TI TO i1 i2 D F N => ?_⟩
        obtain ⟨hj', w3⟩ := put_ok w2
        have r2 := r1.hide (j := j) (s := some (V.ref z))
        have st2 : Stp σ ρ1 H1 (σ.set j (some (V.ref z))) (ρ1.set j .no) H1 := Stp.hide
        have w4 := w3.later st2 (fx_set hfj)
        have sb : ∀ a, mm m₀ (σ.set j (some (V.ref z))) (ρ1.set j .no) a → mm m₀ σ ρ1 a ∨ H1 a = none := fun a q => mm_hide q
        refine ⟨z, TI, TO, i1, i2, _, _, H1, ?_, D, rfl, F, N, ?_⟩
        · rw [List.getElem?_set_self (by rw [r1.len]; exact hj')]
        have fx2 : Fx fx σ (σ.set j (some (V.ref z))) := fx_set hfj
        have st3 := s1.trans st2
        refine lc_at (g := g) (t := t) (f := f) (Q := fun v H2 => tS (ct X W fx) fr E ((σ.set j (some (V.ref z))).set i (some v)) H2) (W := W) (fx := fx) (m₀ := m₀) (H := H1) (ρ := ρ1.set j .no) hfx r2 (src_zipTT (a1.mono sb Kp.refl) (RpA.mono sb Kp.refl _ _ a2) (b1.mono sb Kp.refl) (RpA.mono sb Kp.refl _ _ b2)) .refl ?_
        have e : mSet i (mLst (mLc n (own.map (·.2)) (M.ret (pairs dxs dys)) g t f)) (ρ1.set j .no) = M.bind (mLc n (own.map (·.2)) (M.ret (pairs dxs dys)) g t f) (fun ds => M.bind (put i (.val (.lst ds))) fun _ => M.ret .nx) (ρ1.set j .no) := by
          unfold mSet mLst
          show R.andThen (R.andThen (mLc n (own.map (·.2)) (M.ret (pairs dxs dys)) g t f (ρ1.set j .no)) _) _ = R.andThen _ _
          cases mLc n (own.map (·.2)) (M.ret (pairs dxs dys)) g t f (ρ1.set j .no) <;> rfl
        rw [e] at w4
        have w5 := w4.bind
        refine Want.mono w5 fun ys ρ3 _ w6 => fun p us H' r3 n3 e3 h3 st4 => ?_
        obtain ⟨hil, w7⟩ := put_ok (w6.later st4 .refl)
        have nm : ¬ m₀ p := fun z => r2.dom p z n3
        have r4 := r3.drop.put hil (.lst ⟨r3.out nm, e3⟩ (rpA_drop h3))
        have st5 := (st3.trans st4).trans (Stp.set (i := i) (v := .ref p) (d := .lst ys))
        have fx3 : Fx fx σ ((σ.set j (some (V.ref z))).set i (some (V.ref p))) := fx2.trans (fx_set hfi)
        exact tS.of r4 st5 fx3 (Want.later w7 st5 fx3)
  · cases e2'
end
def clsBody : Stmt → List Stmt
  | .ClassDef _ _ _ body _ _ _ _ _ _ _ => body
  | _ => []
end PV

namespace PV
open PySem PySem.Spec PyProof.Rows L2
/-! ### the head of a text with classes: two steps from the top, the classes' dicts, their methods' codes -/
/-- what the dict of the class of a method names -/
def clsRefs (g : Addr → Option Obj) (K : PySem.W.Frag) (d : He.DefD) : List Addr := match d.at_.2 with
  | none => []
  | some _ => match g (He.ga K d.at_.1) with
    | some ⟨_, _, .cls cd, _⟩ => (match g cd.ns with
      | some o => He.refsD o
      | none => [])
    | _ => []
/-- what a method names -/
def mthRefs (g : Addr → Option Obj) (K : PySem.W.Frag) (d : He.DefD) : List Addr := match d.at_.2 with
  | none => []
  | some _ => match g (He.fAd K d.at_) with
    | some o => He.refsD o
    | none => []
def asM (g : Addr → Option Obj) (fn : List He.DefD) : List Addr :=
  let a2 := He.asD g 2
  let a3 := a2 ++ (fn.flatMap fun d => clsRefs g (He.frG g a2) d).eraseDups
  a3 ++ (fn.flatMap fun d => mthRefs g (He.frG g a3) d).eraseDups
def obsM (fa : List Fp) (fn : List He.DefD) (g : Addr → Option Obj) : AlP := obsP fa fn (He.frG g (asM g fn))
def hookM (fa : List Fp) (fn : List He.DefD) : PySem.W.Hook where
  α := AlP
  obs := fun s => obsM fa fn s.heap.get?
  val := fun _ => valP fn
  says := fun _ h => ∃ K : PySem.W.Frag, K.In h ∧ SaysP fa fn K
  of := fun _ _ e => ⟨_, He.frG_in, e⟩
  keeps := fun _ _ _ ⟨K, hK, c⟩ k => ⟨K, PySem.W.Frag.In.keeps hK k, c⟩
theorem obsM_eq {fa : List Fp} {fn : List He.DefD} {g : Addr → Option Obj} {s : Shared} (h : ∀ a, g a = s.heap.get? a) : obsM fa fn g = (hookM fa fn).obs s := by
  have e : g = s.heap.get? := funext h
  rw [e] <;> rfl
end PV

namespace PV
open PySem PySem.Spec PyProof.Rows L2
/-! ### x in xs, x not in xs: data of any depth in a list or a tuple -/
def rInT (K : PySem.W.Frag) (n : Bool) : R2 := fun x y H Q => ∃ d ds, Dp K H x d ∧ (Dp K H y (.list ds) ∨ Dp K H y (.tuple ds)) ∧ d.canLay0 = true ∧ d.depth ≤ 60 ∧ PyData.canLayAll0 ds = true ∧ Q (.bl (if n = true then !ds.any (fun z => PyData.eqv z d) else ds.any fun z => PyData.eqv z d)) H
section
variable {X : Cx}
theorem op_inT (hu : X.A.units + 64 < cLine) : OpR X (compareOp .In) (rInT X.K false) := by
  intro pins s σ H x y v u Q I rx ry h
  obtain ⟨d, ds, hd, he, sd, sp, se, q⟩ := h
  obtain ⟨as, r1⟩ := Dp.reads I d x v hd rx
  have room : X.A.units + 1 + min (PyData.depthAll ds) d.depth < cLine := by omega
  rcases he with he | he
  · obtain ⟨bs, r2⟩ := Dp.reads I (.list ds) y u he ry
    exact SeqAt.in_list_reads r2 r1 se sd room ⟨.bl _, H, I, rfl, q⟩
  · obtain ⟨bs, r2⟩ := Dp.reads I (.tuple ds) y u he ry
    exact SeqAt.in_tuple_reads r2 r1 se sd room ⟨.bl _, H, I, rfl, q⟩
theorem op_notInT (hu : X.A.units + 64 < cLine) : OpR X (compareOp .NotIn) (rInT X.K true) := by
  intro pins s σ H x y v u Q I rx ry h
  obtain ⟨d, ds, hd, he, sd, sp, se, q⟩ := h
  obtain ⟨as, r1⟩ := Dp.reads I d x v hd rx
  have room : X.A.units + 1 + min (PyData.depthAll ds) d.depth < cLine := by omega
  rcases he with he | he
  · obtain ⟨bs, r2⟩ := Dp.reads I (.list ds) y u he ry
    exact SeqAt.notIn_list_reads r2 r1 se sd room ⟨.bl _, H, I, rfl, q⟩
  · obtain ⟨bs, r2⟩ := Dp.reads I (.tuple ds) y u he ry
    exact SeqAt.notIn_tuple_reads r2 r1 se sd room ⟨.bl _, H, I, rfl, q⟩
def dInT (x y : D) : Option D := match y.items? with
  | some ds => if okq 60 x = true ∧ okq 60 y = true then some (.bl (ds.any fun z => eqD z x)) else none
  | none => none
def dNotInT (x y : D) : Option D := match y.items? with
  | some ds => if okq 60 x = true ∧ okq 60 y = true then some (.bl (!ds.any fun z => eqD z x)) else none
  | none => none
theorem any_pyA (x : D) : ∀ ds : List D, (D.pyA ds).any (fun z => PyData.eqv z x.py) = ds.any fun z => eqD z x
  | [] => rfl
  | d :: ds => by
    show (PyData.eqv d.py x.py || (D.pyA ds).any (fun z => PyData.eqv z x.py)) = (eqD d x || ds.any fun z => eqD z x)
    rw [any_pyA x ds]; rfl
theorem items_dp {K : PySem.W.Frag} {m : Addr → Prop} {g : Str → Option Value} {H : Hp} {y : V} {dy : D} {ds : List D} (h : Rp m K g H y dy) (e : dy.items? = some ds) (ok : okq 60 dy = true) : (Dp K H y (.list (D.pyA ds)) ∨ Dp K H y (.tuple (D.pyA ds))) ∧ PyData.canLayAll0 (D.pyA ds) = true := by
  obtain ⟨a, b, _⟩ := okq_dp dy 60 y h ok
  cases dy <;> simp [D.items?] at e <;> subst e
  · exact ⟨.inl a, by simpa only [D.py, PyData.canLay0] using b⟩
  · exact ⟨.inr a, by simpa only [D.py, PyData.canLay0] using b⟩
theorem inT_d : OpD X (rInT X.K false) dInT := by
  intro m H x y dx dy dz hx hy e hm Q q
  unfold dInT at e
  split at e
  · rename_i ds e1
    split at e
    · cases e
      rename_i hl
      obtain ⟨a, b, c⟩ := okq_dp dx 60 x hx hl.1
      obtain ⟨a', b'⟩ := items_dp hy e1 hl.2
      refine ⟨_, _, a, a', b, c, b', ?_⟩
      rw [if_neg (by decide), any_pyA]
      exact q _ H grown_refl (.bl _)
    · cases e
  · cases e
theorem notInT_d : OpD X (rInT X.K true) dNotInT := by
  intro m H x y dx dy dz hx hy e hm Q q
  unfold dNotInT at e
  split at e
  · rename_i ds e1
    split at e
    · cases e
      rename_i hl
      obtain ⟨a, b, c⟩ := okq_dp dx 60 x hx hl.1
      obtain ⟨a', b'⟩ := items_dp hy e1 hl.2
      refine ⟨_, _, a, a', b, c, b', ?_⟩
      rw [if_pos rfl, any_pyA]
      exact q _ H grown_refl (.bl _)
    · cases e
  · cases e
end
section
variable {P : D → Prop} {x : D} {xs : List D} {n m : Nat}
theorem dInT_tup [hx : Eqb n x] [hy : Eqb m (.tup xs)] (h1 : n ≤ 60) (h2 : m ≤ 60) : dInT x (.tup xs) = some (.bl (xs.any fun z => eqD z x)) := by
  show (if okq 60 x = true ∧ okq 60 (.tup xs) = true then _ else none) = _
  rw [if_pos ⟨okq_mono x hx.ok h1, okq_mono _ hy.ok h2⟩]
theorem dInT_lst [hx : Eqb n x] [hy : Eqb m (.lst xs)] (h1 : n ≤ 60) (h2 : m ≤ 60) : dInT x (.lst xs) = some (.bl (xs.any fun z => eqD z x)) := by
  show (if okq 60 x = true ∧ okq 60 (.lst xs) = true then _ else none) = _
  rw [if_pos ⟨okq_mono x hx.ok h1, okq_mono _ hy.ok h2⟩]
theorem dNotInT_tup [hx : Eqb n x] [hy : Eqb m (.tup xs)] (h1 : n ≤ 60) (h2 : m ≤ 60) : dNotInT x (.tup xs) = some (.bl (!xs.any fun z => eqD z x)) := by
  show (if okq 60 x = true ∧ okq 60 (.tup xs) = true then _ else none) = _
  rw [if_pos ⟨okq_mono x hx.ok h1, okq_mono _ hy.ok h2⟩]
theorem dNotInT_lst [hx : Eqb n x] [hy : Eqb m (.lst xs)] (h1 : n ≤ 60) (h2 : m ≤ 60) : dNotInT x (.lst xs) = some (.bl (!xs.any fun z => eqD z x)) := by
  show (if okq 60 x = true ∧ okq 60 (.lst xs) = true then _ else none) = _
  rw [if_pos ⟨okq_mono x hx.ok h1, okq_mono _ hy.ok h2⟩]
end
end PV

namespace PV
open PySem PySem.Spec PyProof.Rows L2
def top (i : Nat) : Stmt := PySem.Challenge.pw_ironships_k28_whole_a_heading_among_thos.main.body.getD i (.Pass ⟨0, 0, 0, 0⟩)
abbrev s__law_gcd : Stmt := top 84
abbrev N__law_gcd : List Str := ["_law_one", "_law_two"]
abbrev s__law_low : Stmt := top 85
abbrev N__law_low : List Str := ["_law_numbers", "_law_common", "_law_each"]
abbrev s__law_part : Stmt := top 86
abbrev N__law_part : List Str := ["_law_top", "_law_deep"]
abbrev s__law_mul : Stmt := top 89
abbrev N__law_mul : List Str := ["_law_one", "_law_two"]
abbrev s__law_add : Stmt := top 87
abbrev N__law_add : List Str := ["_law_one", "_law_two"]
abbrev s__law_div : Stmt := top 90
abbrev N__law_div : List Str := ["_law_one", "_law_two"]
abbrev s__law_gap : Stmt := top 88
abbrev N__law_gap : List Str := ["_law_one", "_law_two"]
abbrev s__law_heading : Stmt := top 94
abbrev N__law_heading : List Str := ["_law_half_here", "_law_square", "_law_whole"]
abbrev s__law_deal : Stmt := top 81
abbrev N__law_deal : List Str := ["_law_lode_here", "_law_many", "_law_factor", "_law_digit"]
abbrev s__law_some : Stmt := top 82
abbrev N__law_some : List Str := ["_law_lode_here", "_law_some_here"]
abbrev s__law_about : Stmt := top 83
abbrev N__law_about : List Str := ["_law_lode_here", "_law_wide", "_law_high"]
abbrev s__law_any_part : Stmt := top 92
abbrev N__law_any_part : List Str := ["_law_lode_here", "_law_wide"]
abbrev s__law_half : Stmt := top 95
abbrev N__law_half : List Str := ["_law_lode_here", "_law_wide"]
abbrev s__law_some_heading : Stmt := top 96
abbrev N__law_some_heading : List Str := ["_law_lode_here"]
abbrev s__law_turn : Stmt := top 97
abbrev N__law_turn : List Str := ["_law_one", "_law_two"]
abbrev s__law_flat_five : Stmt := top 104
abbrev N__law_flat_five : List Str := ["_law_lode_here", "_law_double", "_law_d", "_law_e", "_law_a", "_law_half_here", "_law_far"]
abbrev s__law_any_five : Stmt := top 99
abbrev N__law_any_five : List Str := ["_law_lode_here", "_law_wide", "_law_found", "_law_lap"]
abbrev s__law_total : Stmt := top 100
abbrev N__law_total : List Str := ["_law_parts", "_law_found", "_law_each"]
abbrev s__law_ship : Stmt := top 101
abbrev N__law_ship : List Str := ["_law_five", "_law_heading_here", "_law_ahead", "_law_aside", "_law_a", "_law_b", "_law_c", "_law_d", "_law_e", "_law_cosine", "_law_sine"]
abbrev s__law_back : Stmt := top 91
abbrev N__law_back : List Str := ["_law_one"]
abbrev s__law_dead_five : Stmt := top 103
abbrev N__law_dead_five : List Str := ["_law_lode_here", "_law_heading_here", "_law_found", "_law_x", "_law_y"]
abbrev s__law_over : Stmt := top 93
abbrev N__law_over : List Str := ["_law_lode_here", "_law_wide"]
abbrev s__law_kind_five : Stmt := top 105
abbrev N__law_kind_five : List Str := ["_law_lode_here", "_law_way", "_law_five", "_law_great", "_law_flat", "_law_each"]
abbrev s_divisor_of : Stmt := top 9
abbrev N_divisor_of : List Str := ["numbers", "found", "number"]
abbrev s_ratio : Stmt := top 17
abbrev N_ratio : List Str := ["number", "under", "part"]
abbrev s_ratio_sum : Stmt := top 18
abbrev N_ratio_sum : List Str := ["one", "two"]
abbrev s_ratio_product : Stmt := top 20
abbrev N_ratio_product : List Str := ["one", "two"]
abbrev s_square_length : Stmt := top 28
abbrev N_square_length : List Str := ["one"]
abbrev s_is_reduced : Stmt := top 11
abbrev N_is_reduced : List Str := ["numbers"]
abbrev s_is_whole : Stmt := top 7
abbrev N_is_whole : List Str := ["value"]
abbrev s_are_wholes : Stmt := top 8
abbrev N_are_wholes : List Str := ["value", "many", "number"]
abbrev s_is_ratio : Stmt := top 16
abbrev N_is_ratio : List Str := ["value"]
abbrev s_is_pair : Stmt := top 30
abbrev N_is_pair : List Str := ["value"]
abbrev s_is_unit : Stmt := top 31
abbrev N_is_unit : List Str := ["value"]
abbrev s_check_heading : Stmt := top 48
abbrev N_check_heading : List Str := ["value"]
abbrev s_ratio_less : Stmt := top 19
abbrev N_ratio_less : List Str := ["one", "two"]
abbrev s_gauss_product : Stmt := top 26
abbrev N_gauss_product : List Str := ["one", "two", "real"]
abbrev s_both_turned : Stmt := top 33
abbrev N_both_turned : List Str := ["one", "two"]
abbrev s_turned : Stmt := top 75
abbrev N_turned : List Str := ["heading", "other"]
abbrev s__law_as_surds : Stmt := top 106
abbrev N__law_as_surds : List Str := ["_law_heading_here"]
abbrev s_are_ratios : Stmt := top 37
abbrev N_are_ratios : List Str := ["value", "many", "number"]
abbrev s_is_fivefold : Stmt := top 38
abbrev N_is_fivefold : List Str := ["value"]
abbrev s_check_five : Stmt := top 50
abbrev N_check_five : List Str := ["value"]
abbrev s_check_needle : Stmt := top 77
abbrev N_check_needle : List Str := ["five", "heading"]
abbrev s_ship_rows : Stmt := top 52
abbrev N_ship_rows : List Str := ["five", "ahead", "a", "b", "c", "d", "e"]
abbrev s_row_value : Stmt := top 53
abbrev N_row_value : List Str := ["row", "heading"]
abbrev s_reduced : Stmt := top 10
abbrev N_reduced : List Str := ["numbers", "part", "number"]
abbrev s_way_along : Stmt := top 35
abbrev N_way_along : List Str := ["right", "up"]
abbrev s_ratio_back : Stmt := top 22
abbrev N_ratio_back : List Str := ["one"]
abbrev s_course_shown : Stmt := top 69
abbrev N_course_shown : List Str := ["five", "heading", "ahead", "aside", "row"]
abbrev s_course_at : Stmt := top 78
abbrev N_course_at : List Str := ["five", "heading"]
abbrev s__law_ray : Stmt := top 98
abbrev N__law_ray : List Str := ["_law_x", "_law_y"]
abbrev s__law_shown : Stmt := top 102
abbrev N__law_shown : List Str := ["_law_five", "_law_heading_here", "_law_x", "_law_y"]
abbrev s_gauss_less : Stmt := top 25
abbrev N_gauss_less : List Str := ["one", "two"]
abbrev s_conjugate : Stmt := top 27
abbrev N_conjugate : List Str := ["one"]
abbrev s_numbers_of : Stmt := top 56
abbrev N_numbers_of : List Str := ["five", "whole", "turn", "first", "middle", "last"]
abbrev s_is_straight : Stmt := top 57
abbrev N_is_straight : List Str := ["numbers"]
abbrev s_is_lower : Stmt := top 23
abbrev N_is_lower : List Str := ["one", "two"]
abbrev s_word_for : Stmt := top 58
abbrev N_word_for : List Str := ["five", "numbers", "reach", "square", "turn"]
abbrev s_is_nought_row : Stmt := top 64
abbrev N_is_nought_row : List Str := ["row"]
abbrev s_sign_of : Stmt := top 12
abbrev N_sign_of : List Str := ["number"]
abbrev s_square_root : Stmt := top 40
abbrev N_square_root : List Str := ["number", "top", "below"]
abbrev s_plain : Stmt := top 41
abbrev N_plain : List Str := ["number"]
abbrev s_surd_from : Stmt := top 42
abbrev N_surd_from : List Str := ["part", "factor", "square", "whole", "root", "way"]
abbrev s_Point_surds : Stmt := (clsBody (top 59)).getD 1 (.Pass ⟨0, 0, 0, 0⟩)
abbrev N_Point_surds : List Str := ["self", "part", "factor"]
abbrev s_quarter_by : Stmt := top 34
abbrev N_quarter_by : List Str := ["cosine", "sine"]
abbrev s_sign_of_one : Stmt := top 43
abbrev N_sign_of_one : List Str := ["p", "q", "r", "first", "second"]
abbrev s_sign_of_two : Stmt := top 44
abbrev N_sign_of_two : List Str := ["p", "q", "r", "s", "t", "first", "second"]
abbrev s_compared : Stmt := top 45
abbrev N_compared : List Str := ["one", "two", "e", "f", "p", "q", "r", "s", "k", "m", "u", "v"]
abbrev s_surd_sign : Stmt := top 46
abbrev N_surd_sign : List Str := ["surd"]
abbrev s_quarter_of_surds : Stmt := top 61
abbrev N_quarter_of_surds : List Str := ["pair"]
abbrev s_comes_first : Stmt := top 62
abbrev N_comes_first : List Str := ["one", "two", "side", "here", "there"]
abbrev s_in_order : Stmt := top 63
abbrev N_in_order : List Str := ["points", "found", "point"]
abbrev s_ratio_over : Stmt := top 21
abbrev N_ratio_over : List Str := ["one", "two"]
abbrev s_Point___init__ : Stmt := (clsBody (top 59)).getD 0 (.Pass ⟨0, 0, 0, 0⟩)
abbrev N_Point___init__ : List Str := ["self", "cosine", "sine", "square"]
abbrev s_points_on : Stmt := top 60
abbrev N_points_on : List Str := ["row", "many", "square", "middle", "found", "way", "k", "l", "m", "right", "up"]
abbrev s_Point_sign_of_row : Stmt := (clsBody (top 59)).getD 2 (.Pass ⟨0, 0, 0, 0⟩)
abbrev N_Point_sign_of_row : List Str := ["self", "row", "pairs", "ends", "cosine", "sine"]
abbrev s_forceless : Stmt := top 68
abbrev N_forceless : List Str := ["five", "rows", "one", "two", "point"]
abbrev s_dead_headings : Stmt := top 72
abbrev N_dead_headings : List Str := ["five"]
abbrev s_is_way : Stmt := top 32
abbrev N_is_way : List Str := ["value"]
abbrev s_check_course : Stmt := top 49
abbrev N_check_course : List Str := ["value"]
abbrev s_mixed_row : Stmt := top 66
abbrev N_mixed_row : List Str := ["one", "factor", "two", "number", "found", "here", "there"]
abbrev s_rises_somewhere : Stmt := top 65
abbrev N_rises_somewhere : List Str := ["row"]
abbrev s_showing : Stmt := top 67
abbrev N_showing : List Str := ["five", "course", "across", "along", "ahead", "aside", "point"]
abbrev s_headings_of : Stmt := top 71
abbrev N_headings_of : List Str := ["five", "course", "found"]
abbrev s_is_heading : Stmt := top 74
abbrev N_is_heading : List Str := ["value"]
abbrev s__law_right : Stmt := top 107
abbrev N__law_right : List Str := ["_law_lode_here", "_law_spot", "_law_five", "_law_heading_here", "_law_course", "_law_own", "_law_told", "_law_against", "_law_cosine", "_law_sine"]
abbrev s__law_lode : Stmt := top 80
abbrev N__law_lode : List Str := ["_law_script", "_law_lap", "_law_cell", "_law_stirred", "_law_each"]
abbrev s_law : Stmt := top 108
abbrev N_law : List Str := ["_law_script", "_law_lap"]
def dd__law_gcd : He.DefD := ⟨("_law_gcd", none), "_law_gcd", "_law_gcd", defArgs s__law_gcd, defBody s__law_gcd, defScope s__law_gcd, [], []⟩
def dd__law_low : He.DefD := ⟨("_law_low", none), "_law_low", "_law_low", defArgs s__law_low, defBody s__law_low, defScope s__law_low, [], []⟩
def dd__law_part : He.DefD := ⟨("_law_part", none), "_law_part", "_law_part", defArgs s__law_part, defBody s__law_part, defScope s__law_part, [], []⟩
def dd__law_mul : He.DefD := ⟨("_law_mul", none), "_law_mul", "_law_mul", defArgs s__law_mul, defBody s__law_mul, defScope s__law_mul, [], []⟩
def dd__law_add : He.DefD := ⟨("_law_add", none), "_law_add", "_law_add", defArgs s__law_add, defBody s__law_add, defScope s__law_add, [], []⟩
def dd__law_div : He.DefD := ⟨("_law_div", none), "_law_div", "_law_div", defArgs s__law_div, defBody s__law_div, defScope s__law_div, [], []⟩
def dd__law_gap : He.DefD := ⟨("_law_gap", none), "_law_gap", "_law_gap", defArgs s__law_gap, defBody s__law_gap, defScope s__law_gap, [], []⟩
def dd__law_heading : He.DefD := ⟨("_law_heading", none), "_law_heading", "_law_heading", defArgs s__law_heading, defBody s__law_heading, defScope s__law_heading, [], []⟩
def dd__law_deal : He.DefD := ⟨("_law_deal", none), "_law_deal", "_law_deal", defArgs s__law_deal, defBody s__law_deal, defScope s__law_deal, [], []⟩
def dd__law_some : He.DefD := ⟨("_law_some", none), "_law_some", "_law_some", defArgs s__law_some, defBody s__law_some, defScope s__law_some, [], []⟩
def dd__law_about : He.DefD := ⟨("_law_about", none), "_law_about", "_law_about", defArgs s__law_about, defBody s__law_about, defScope s__law_about, [], []⟩
def dd__law_any_part : He.DefD := ⟨("_law_any_part", none), "_law_any_part", "_law_any_part", defArgs s__law_any_part, defBody s__law_any_part, defScope s__law_any_part, [], []⟩
def dd__law_half : He.DefD := ⟨("_law_half", none), "_law_half", "_law_half", defArgs s__law_half, defBody s__law_half, defScope s__law_half, [], []⟩
def dd__law_some_heading : He.DefD := ⟨("_law_some_heading", none), "_law_some_heading", "_law_some_heading", defArgs s__law_some_heading, defBody s__law_some_heading, defScope s__law_some_heading, [], []⟩
def dd__law_turn : He.DefD := ⟨("_law_turn", none), "_law_turn", "_law_turn", defArgs s__law_turn, defBody s__law_turn, defScope s__law_turn, [], []⟩
def dd__law_flat_five : He.DefD := ⟨("_law_flat_five", none), "_law_flat_five", "_law_flat_five", defArgs s__law_flat_five, defBody s__law_flat_five, defScope s__law_flat_five, [], []⟩
def dd__law_any_five : He.DefD := ⟨("_law_any_five", none), "_law_any_five", "_law_any_five", defArgs s__law_any_five, defBody s__law_any_five, defScope s__law_any_five, [], []⟩
def dd__law_total : He.DefD := ⟨("_law_total", none), "_law_total", "_law_total", defArgs s__law_total, defBody s__law_total, defScope s__law_total, [], []⟩
def dd__law_ship : He.DefD := ⟨("_law_ship", none), "_law_ship", "_law_ship", defArgs s__law_ship, defBody s__law_ship, defScope s__law_ship, [], []⟩
def dd__law_back : He.DefD := ⟨("_law_back", none), "_law_back", "_law_back", defArgs s__law_back, defBody s__law_back, defScope s__law_back, [], []⟩
def dd__law_dead_five : He.DefD := ⟨("_law_dead_five", none), "_law_dead_five", "_law_dead_five", defArgs s__law_dead_five, defBody s__law_dead_five, defScope s__law_dead_five, [], []⟩
def dd__law_over : He.DefD := ⟨("_law_over", none), "_law_over", "_law_over", defArgs s__law_over, defBody s__law_over, defScope s__law_over, [], []⟩
def dd__law_kind_five : He.DefD := ⟨("_law_kind_five", none), "_law_kind_five", "_law_kind_five", defArgs s__law_kind_five, defBody s__law_kind_five, defScope s__law_kind_five, [], []⟩
def dd_divisor_of : He.DefD := ⟨("divisor_of", none), "divisor_of", "divisor_of", defArgs s_divisor_of, defBody s_divisor_of, defScope s_divisor_of, [], []⟩
def dd_ratio : He.DefD := ⟨("ratio", none), "ratio", "ratio", defArgs s_ratio, defBody s_ratio, defScope s_ratio, [], []⟩
def dd_ratio_sum : He.DefD := ⟨("ratio_sum", none), "ratio_sum", "ratio_sum", defArgs s_ratio_sum, defBody s_ratio_sum, defScope s_ratio_sum, [], []⟩
def dd_ratio_product : He.DefD := ⟨("ratio_product", none), "ratio_product", "ratio_product", defArgs s_ratio_product, defBody s_ratio_product, defScope s_ratio_product, [], []⟩
def dd_square_length : He.DefD := ⟨("square_length", none), "square_length", "square_length", defArgs s_square_length, defBody s_square_length, defScope s_square_length, [], []⟩
def dd_is_reduced : He.DefD := ⟨("is_reduced", none), "is_reduced", "is_reduced", defArgs s_is_reduced, defBody s_is_reduced, defScope s_is_reduced, [], []⟩
def dd_is_whole : He.DefD := ⟨("is_whole", none), "is_whole", "is_whole", defArgs s_is_whole, defBody s_is_whole, defScope s_is_whole, [], []⟩
def dd_are_wholes : He.DefD := ⟨("are_wholes", none), "are_wholes", "are_wholes", defArgs s_are_wholes, defBody s_are_wholes, defScope s_are_wholes, [], []⟩
def dd_is_ratio : He.DefD := ⟨("is_ratio", none), "is_ratio", "is_ratio", defArgs s_is_ratio, defBody s_is_ratio, defScope s_is_ratio, [], []⟩
def dd_is_pair : He.DefD := ⟨("is_pair", none), "is_pair", "is_pair", defArgs s_is_pair, defBody s_is_pair, defScope s_is_pair, [], []⟩
def dd_is_unit : He.DefD := ⟨("is_unit", none), "is_unit", "is_unit", defArgs s_is_unit, defBody s_is_unit, defScope s_is_unit, [], []⟩
def dd_check_heading : He.DefD := ⟨("check_heading", none), "check_heading", "check_heading", defArgs s_check_heading, defBody s_check_heading, defScope s_check_heading, [], []⟩
def dd_ratio_less : He.DefD := ⟨("ratio_less", none), "ratio_less", "ratio_less", defArgs s_ratio_less, defBody s_ratio_less, defScope s_ratio_less, [], []⟩
def dd_gauss_product : He.DefD := ⟨("gauss_product", none), "gauss_product", "gauss_product", defArgs s_gauss_product, defBody s_gauss_product, defScope s_gauss_product, [], []⟩
def dd_both_turned : He.DefD := ⟨("both_turned", none), "both_turned", "both_turned", defArgs s_both_turned, defBody s_both_turned, defScope s_both_turned, [], []⟩
def dd_turned : He.DefD := ⟨("turned", none), "turned", "turned", defArgs s_turned, defBody s_turned, defScope s_turned, [], []⟩
def dd__law_as_surds : He.DefD := ⟨("_law_as_surds", none), "_law_as_surds", "_law_as_surds", defArgs s__law_as_surds, defBody s__law_as_surds, defScope s__law_as_surds, [], []⟩
def dd_are_ratios : He.DefD := ⟨("are_ratios", none), "are_ratios", "are_ratios", defArgs s_are_ratios, defBody s_are_ratios, defScope s_are_ratios, [], []⟩
def dd_is_fivefold : He.DefD := ⟨("is_fivefold", none), "is_fivefold", "is_fivefold", defArgs s_is_fivefold, defBody s_is_fivefold, defScope s_is_fivefold, [], []⟩
def dd_check_five : He.DefD := ⟨("check_five", none), "check_five", "check_five", defArgs s_check_five, defBody s_check_five, defScope s_check_five, [], []⟩
def dd_check_needle : He.DefD := ⟨("check_needle", none), "check_needle", "check_needle", defArgs s_check_needle, defBody s_check_needle, defScope s_check_needle, [], []⟩
def dd_ship_rows : He.DefD := ⟨("ship_rows", none), "ship_rows", "ship_rows", defArgs s_ship_rows, defBody s_ship_rows, defScope s_ship_rows, [], []⟩
def dd_row_value : He.DefD := ⟨("row_value", none), "row_value", "row_value", defArgs s_row_value, defBody s_row_value, defScope s_row_value, [], []⟩
def dd_reduced : He.DefD := ⟨("reduced", none), "reduced", "reduced", defArgs s_reduced, defBody s_reduced, defScope s_reduced, [], []⟩
def dd_way_along : He.DefD := ⟨("way_along", none), "way_along", "way_along", defArgs s_way_along, defBody s_way_along, defScope s_way_along, [], []⟩
def dd_ratio_back : He.DefD := ⟨("ratio_back", none), "ratio_back", "ratio_back", defArgs s_ratio_back, defBody s_ratio_back, defScope s_ratio_back, [], []⟩
def dd_course_shown : He.DefD := ⟨("course_shown", none), "course_shown", "course_shown", defArgs s_course_shown, defBody s_course_shown, defScope s_course_shown, [], []⟩
def dd_course_at : He.DefD := ⟨("course_at", none), "course_at", "course_at", defArgs s_course_at, defBody s_course_at, defScope s_course_at, [], []⟩
def dd__law_ray : He.DefD := ⟨("_law_ray", none), "_law_ray", "_law_ray", defArgs s__law_ray, defBody s__law_ray, defScope s__law_ray, [], []⟩
def dd__law_shown : He.DefD := ⟨("_law_shown", none), "_law_shown", "_law_shown", defArgs s__law_shown, defBody s__law_shown, defScope s__law_shown, [], []⟩
def dd_gauss_less : He.DefD := ⟨("gauss_less", none), "gauss_less", "gauss_less", defArgs s_gauss_less, defBody s_gauss_less, defScope s_gauss_less, [], []⟩
def dd_conjugate : He.DefD := ⟨("conjugate", none), "conjugate", "conjugate", defArgs s_conjugate, defBody s_conjugate, defScope s_conjugate, [], []⟩
def dd_numbers_of : He.DefD := ⟨("numbers_of", none), "numbers_of", "numbers_of", defArgs s_numbers_of, defBody s_numbers_of, defScope s_numbers_of, [], []⟩
def dd_is_straight : He.DefD := ⟨("is_straight", none), "is_straight", "is_straight", defArgs s_is_straight, defBody s_is_straight, defScope s_is_straight, [], []⟩
def dd_is_lower : He.DefD := ⟨("is_lower", none), "is_lower", "is_lower", defArgs s_is_lower, defBody s_is_lower, defScope s_is_lower, [], []⟩
def dd_word_for : He.DefD := ⟨("word_for", none), "word_for", "word_for", defArgs s_word_for, defBody s_word_for, defScope s_word_for, [], []⟩
def dd_is_nought_row : He.DefD := ⟨("is_nought_row", none), "is_nought_row", "is_nought_row", defArgs s_is_nought_row, defBody s_is_nought_row, defScope s_is_nought_row, [], []⟩
def dd_sign_of : He.DefD := ⟨("sign_of", none), "sign_of", "sign_of", defArgs s_sign_of, defBody s_sign_of, defScope s_sign_of, [], []⟩
def dd_square_root : He.DefD := ⟨("square_root", none), "square_root", "square_root", defArgs s_square_root, defBody s_square_root, defScope s_square_root, [], []⟩
def dd_plain : He.DefD := ⟨("plain", none), "plain", "plain", defArgs s_plain, defBody s_plain, defScope s_plain, [], []⟩
def dd_surd_from : He.DefD := ⟨("surd_from", none), "surd_from", "surd_from", defArgs s_surd_from, defBody s_surd_from, defScope s_surd_from, [], []⟩
def dd_Point_surds : He.DefD := ⟨("Point", some "surds"), "surds", "Point.surds", defArgs s_Point_surds, defBody s_Point_surds, defScope s_Point_surds, [], []⟩
def dd_quarter_by : He.DefD := ⟨("quarter_by", none), "quarter_by", "quarter_by", defArgs s_quarter_by, defBody s_quarter_by, defScope s_quarter_by, [], []⟩
def dd_sign_of_one : He.DefD := ⟨("sign_of_one", none), "sign_of_one", "sign_of_one", defArgs s_sign_of_one, defBody s_sign_of_one, defScope s_sign_of_one, [], []⟩
def dd_sign_of_two : He.DefD := ⟨("sign_of_two", none), "sign_of_two", "sign_of_two", defArgs s_sign_of_two, defBody s_sign_of_two, defScope s_sign_of_two, [], []⟩
def dd_compared : He.DefD := ⟨("compared", none), "compared", "compared", defArgs s_compared, defBody s_compared, defScope s_compared, [], []⟩
def dd_surd_sign : He.DefD := ⟨("surd_sign", none), "surd_sign", "surd_sign", defArgs s_surd_sign, defBody s_surd_sign, defScope s_surd_sign, [], []⟩
def dd_quarter_of_surds : He.DefD := ⟨("quarter_of_surds", none), "quarter_of_surds", "quarter_of_surds", defArgs s_quarter_of_surds, defBody s_quarter_of_surds, defScope s_quarter_of_surds, [], []⟩
def dd_comes_first : He.DefD := ⟨("comes_first", none), "comes_first", "comes_first", defArgs s_comes_first, defBody s_comes_first, defScope s_comes_first, [], []⟩
def dd_in_order : He.DefD := ⟨("in_order", none), "in_order", "in_order", defArgs s_in_order, defBody s_in_order, defScope s_in_order, [], []⟩
def dd_ratio_over : He.DefD := ⟨("ratio_over", none), "ratio_over", "ratio_over", defArgs s_ratio_over, defBody s_ratio_over, defScope s_ratio_over, [], []⟩
def dd_Point___init__ : He.DefD := ⟨("Point", some "__init__"), "__init__", "Point.__init__", defArgs s_Point___init__, defBody s_Point___init__, defScope s_Point___init__, [], []⟩
def dd_points_on : He.DefD := ⟨("points_on", none), "points_on", "points_on", defArgs s_points_on, defBody s_points_on, defScope s_points_on, [], []⟩
def dd_Point_sign_of_row : He.DefD := ⟨("Point", some "sign_of_row"), "sign_of_row", "Point.sign_of_row", defArgs s_Point_sign_of_row, defBody s_Point_sign_of_row, defScope s_Point_sign_of_row, [], []⟩
def dd_forceless : He.DefD := ⟨("forceless", none), "forceless", "forceless", defArgs s_forceless, defBody s_forceless, defScope s_forceless, [], []⟩
def dd_dead_headings : He.DefD := ⟨("dead_headings", none), "dead_headings", "dead_headings", defArgs s_dead_headings, defBody s_dead_headings, defScope s_dead_headings, [], []⟩
def dd_is_way : He.DefD := ⟨("is_way", none), "is_way", "is_way", defArgs s_is_way, defBody s_is_way, defScope s_is_way, [], []⟩
def dd_check_course : He.DefD := ⟨("check_course", none), "check_course", "check_course", defArgs s_check_course, defBody s_check_course, defScope s_check_course, [], []⟩
def dd_mixed_row : He.DefD := ⟨("mixed_row", none), "mixed_row", "mixed_row", defArgs s_mixed_row, defBody s_mixed_row, defScope s_mixed_row, [], []⟩
def dd_rises_somewhere : He.DefD := ⟨("rises_somewhere", none), "rises_somewhere", "rises_somewhere", defArgs s_rises_somewhere, defBody s_rises_somewhere, defScope s_rises_somewhere, [], []⟩
def dd_showing : He.DefD := ⟨("showing", none), "showing", "showing", defArgs s_showing, defBody s_showing, defScope s_showing, [], []⟩
def dd_headings_of : He.DefD := ⟨("headings_of", none), "headings_of", "headings_of", defArgs s_headings_of, defBody s_headings_of, defScope s_headings_of, [], []⟩
def dd_is_heading : He.DefD := ⟨("is_heading", none), "is_heading", "is_heading", defArgs s_is_heading, defBody s_is_heading, defScope s_is_heading, [], []⟩
def dd__law_right : He.DefD := ⟨("_law_right", none), "_law_right", "_law_right", defArgs s__law_right, defBody s__law_right, defScope s__law_right, [], []⟩
def dd__law_lode : He.DefD := ⟨("_law_lode", none), "_law_lode", "_law_lode", defArgs s__law_lode, defBody s__law_lode, defScope s__law_lode, [], []⟩
def dd_law : He.DefD := ⟨("law", none), "law", "law", defArgs s_law, defBody s_law, defScope s_law, [], []⟩
def fs_0 : List Fp := [.free "len", .free "min", .free "max", .free "range", .free "abs", .free "int", .fn "_law_gcd", .free "tuple", .fn "_law_low", .fn "_law_part", .fn "_law_mul", .fn "_law_add", .fn "_law_div", .fn "_law_gap", .fn "_law_heading", .free "divmod", .fn "_law_deal", .fn "_law_some", .fn "_law_about", .fn "_law_any_part", .fn "_law_half", .fn "_law_some_heading", .fn "_law_turn", .fn "_law_flat_five", .fn "_law_any_five", .fn "_law_total", .fn "_law_ship", .fn "_law_back", .fn "_law_dead_five", .fn "_law_over"]
def fs_1 : List Fp := [.fn "_law_kind_five", .bi "gcd" "math.gcd", .fn "divisor_of", .fn "ratio", .fn "ratio_sum", .fn "ratio_product", .fn "square_length", .con "ONE" (.tup [(.int 1), (.int 1)]), .fn "is_reduced", .free "isinstance", .free "bool", .fn "is_whole", .free "all", .fn "are_wholes", .fn "is_ratio", .fn "is_pair", .fn "is_unit", .fn "check_heading", .fn "ratio_less", .fn "gauss_product", .fn "both_turned", .fn "turned", .fn "_law_as_surds", .fn "are_ratios", .fn "is_fivefold", .fn "check_five", .fn "check_needle", .fn "ship_rows", .fn "row_value", .con "ZERO" (.tup [(.int 0), (.int 1)])]
def fs_2 : List Fp := [.fn "reduced", .fn "way_along", .fn "ratio_back", .fn "course_shown", .fn "course_at", .free "repr", .fn "_law_ray", .fn "_law_shown", .fn "gauss_less", .fn "conjugate", .fn "numbers_of", .fn "is_straight", .con "FOUR" (.tup [(.int 4), (.int 1)]), .fn "is_lower", .fn "word_for", .fn "is_nought_row", .fn "Point", .fa (.cls "Point"), .fa (.noat "Point" "sine"), .fa (.noat "Point" "cosine"), .fn "sign_of", .bi "isqrt" "math.isqrt", .fn "square_root", .fn "plain", .fn "surd_from", .fa (.noat "Point" "square"), .fa (.meth "Point" "surds"), .fn "quarter_by", .fn "sign_of_one", .fn "sign_of_two"]
def fs_3 : List Fp := [.fn "compared", .fn "surd_sign", .fn "quarter_of_surds", .fn "comes_first", .fn "in_order", .fn "ratio_over", .fa (.mkr "Point"), .fn "points_on", .free "zip", .fa (.meth "Point" "sign_of_row"), .fn "forceless", .fn "dead_headings", .fn "is_way", .fn "check_course", .fn "mixed_row", .fn "rises_somewhere", .fn "showing", .fn "headings_of", .fn "is_heading", .fn "_law_right", .free "sum", .fn "_law_lode", .fn "law"]
def fs : List Fp := fs_0 ++ fs_1 ++ fs_2 ++ fs_3
def fn_0 : List He.DefD := [dd__law_gcd, dd__law_low, dd__law_part, dd__law_mul, dd__law_add, dd__law_div, dd__law_gap, dd__law_heading, dd__law_deal, dd__law_some, dd__law_about, dd__law_any_part, dd__law_half, dd__law_some_heading, dd__law_turn, dd__law_flat_five, dd__law_any_five, dd__law_total, dd__law_ship, dd__law_back, dd__law_dead_five, dd__law_over, dd__law_kind_five, dd_divisor_of, dd_ratio, dd_ratio_sum, dd_ratio_product, dd_square_length, dd_is_reduced, dd_is_whole]
def fn_1 : List He.DefD := [dd_are_wholes, dd_is_ratio, dd_is_pair, dd_is_unit, dd_check_heading, dd_ratio_less, dd_gauss_product, dd_both_turned, dd_turned, dd__law_as_surds, dd_are_ratios, dd_is_fivefold, dd_check_five, dd_check_needle, dd_ship_rows, dd_row_value, dd_reduced, dd_way_along, dd_ratio_back, dd_course_shown, dd_course_at, dd__law_ray, dd__law_shown, dd_gauss_less, dd_conjugate, dd_numbers_of, dd_is_straight, dd_is_lower, dd_word_for, dd_is_nought_row]
def fn_2 : List He.DefD := [dd_sign_of, dd_square_root, dd_plain, dd_surd_from, dd_Point_surds, dd_quarter_by, dd_sign_of_one, dd_sign_of_two, dd_compared, dd_surd_sign, dd_quarter_of_surds, dd_comes_first, dd_in_order, dd_ratio_over, dd_Point___init__, dd_points_on, dd_Point_sign_of_row, dd_forceless, dd_dead_headings, dd_is_way, dd_check_course, dd_mixed_row, dd_rises_somewhere, dd_showing, dd_headings_of, dd_is_heading, dd__law_right, dd__law_lode, dd_law]
def fn : List He.DefD := fn_0 ++ fn_1 ++ fn_2
abbrev Tp (K : PySem.W.Frag) (mg : Str → Option Value) : Prop := TopOk fs fn K mg
variable {P : Program} {w : World} {K : PySem.W.Frag} {mg : Str → Option Value} {base : Heap}
end PV
namespace HT
open PySem PySem.Spec PyProof.Rows L2
set_option maxHeartbeats 0
def names_0 : List PySem.Str := ["__name__", "CompassError", "InvalidHeading", "InvalidCourse", "InvalidFive", "is_whole", "are_wholes", "divisor_of", "reduced", "is_reduced", "sign_of", "ZERO", "ONE", "is_ratio", "ratio", "ratio_sum", "ratio_less", "ratio_product", "ratio_over", "ratio_back", "is_lower", "gauss_less", "gauss_product", "conjugate", "square_length", "is_pair", "is_unit", "is_way", "both_turned", "quarter_by"]
def names_1 : List PySem.Str := ["way_along", "are_ratios", "is_fivefold", "square_root", "plain", "surd_from", "sign_of_one", "sign_of_two", "compared", "surd_sign", "check_heading", "check_course", "check_five", "ship_rows", "row_value", "FOUR", "numbers_of", "is_straight", "word_for", "Point", "points_on", "quarter_of_surds", "comes_first", "in_order", "is_nought_row", "rises_somewhere", "mixed_row", "showing", "forceless", "course_shown"]
def names_2 : List PySem.Str := ["headings_of", "dead_headings", "is_heading", "turned", "check_needle", "course_at", "_law_lode", "_law_deal", "_law_some", "_law_about", "_law_gcd", "_law_low", "_law_part", "_law_add", "_law_gap", "_law_mul", "_law_div", "_law_back", "_law_any_part", "_law_over", "_law_heading", "_law_half", "_law_some_heading", "_law_turn", "_law_ray", "_law_any_five", "_law_total", "_law_ship", "_law_shown", "_law_dead_five"]
def names_3 : List PySem.Str := ["_law_flat_five", "_law_kind_five", "_law_as_surds", "_law_right"]
def names : List PySem.Str := names_0 ++ names_1 ++ names_2 ++ names_3
abbrev R : PySem.W.OpenRow := PySem.W.OpenLaw.row PySem.Challenge.rw_ironships_k28_whole_a_heading_among_thos
abbrev hk : PySem.W.Hook := PV.hookM PV.fs PV.fn
def ob (s : PySem.W.SharedT) : PV.AlP := PV.obsM PV.fs PV.fn (HandSHeadRun.getT s)
theorem ob_eq (s : PySem.W.SharedT) : ob s = hk.obs s.abs := PV.obsM_eq (HandSHeadRun.getT_eq s)
theorem run (w : World) : HandSHeadRun.RunEqI R (PySem.W.view R.prog [0, 108]) hk ob 20000 names w := by
  unfold HandSHeadRun.RunEqI
  kernel_rfl
end HT
namespace PV
open PySem PySem.Spec PyProof.Rows L2
noncomputable def m_law_gcdB : M Fl := mSeq (mPar 0 1 (dCons (mCB dAbs (dCons (dVar 0) (dNil))) (dCons (mCB dAbs (dCons (dVar 1) (dNil))) (dNil)))) (mSeq (mWhile (mTest (mOp dGt (dVar 1) (M.ret (.int 0)))) (mPar 0 1 (dCons (dVar 1) (dCons (mOp dMod (mCB dInt (dCons (dVar 0) (dNil))) (dVar 1)) (dNil))))) (mRet (dVar 0)))
noncomputable def m_law_gcd : M D := fnB [] 2 0 (asRet m_law_gcdB)
noncomputable def m_law_lowB : M Fl := mSeq (mSet 1 (M.ret (.int 0))) (mSeq (mFor (mIter (dVar 0)) (gN 2) (mSet 1 (M.bind (dCons (dVar 1) (dCons (dVar 2) (dNil))) (callV 2 m_law_gcd)))) (mRet (mCB dTuple (dCons (mLst (mLc 3 [2] (mIter (dVar 0)) (gN 2) (M.ret true) (mOp dDiv (dVar 2) (dVar 1)))) (dNil)))))
noncomputable def m_law_low : M D := fnB [] 1 2 (asRet m_law_lowB)
noncomputable def m_law_partB : M Fl := mRet (M.bind (dCons (mIf (mTest (mOp dGt (dVar 1) (M.ret (.int 0)))) (mTup (dCons (dVar 0) (dCons (dVar 1) (dNil)))) (mTup (dCons (mOp dSub (M.ret (.int 0)) (dVar 0)) (dCons (mOp dSub (M.ret (.int 0)) (dVar 1)) (dNil))))) (dNil)) (callV 1 m_law_low))
noncomputable def m_law_part : M D := fnB [] 2 0 (asRet m_law_partB)
noncomputable def m_law_mulB : M Fl := mRet (M.bind (dCons (mOp dMul (mOp dIx (dVar 0) (M.ret (.int 0))) (mOp dIx (dVar 1) (M.ret (.int 0)))) (dCons (mOp dMul (mOp dIx (dVar 0) (M.ret (.int 1))) (mOp dIx (dVar 1) (M.ret (.int 1)))) (dNil))) (callV 2 m_law_part))
noncomputable def m_law_mul : M D := fnB [] 2 0 (asRet m_law_mulB)
noncomputable def m_law_addB : M Fl := mRet (M.bind (dCons (mOp dAdd (mOp dMul (mOp dIx (dVar 0) (M.ret (.int 0))) (mOp dIx (dVar 1) (M.ret (.int 1)))) (mOp dMul (mOp dIx (dVar 1) (M.ret (.int 0))) (mOp dIx (dVar 0) (M.ret (.int 1))))) (dCons (mOp dMul (mOp dIx (dVar 0) (M.ret (.int 1))) (mOp dIx (dVar 1) (M.ret (.int 1)))) (dNil))) (callV 2 m_law_part))
noncomputable def m_law_add : M D := fnB [] 2 0 (asRet m_law_addB)
noncomputable def m_law_divB : M Fl := mRet (M.bind (dCons (mOp dMul (mOp dIx (dVar 0) (M.ret (.int 0))) (mOp dIx (dVar 1) (M.ret (.int 1)))) (dCons (mOp dMul (mOp dIx (dVar 0) (M.ret (.int 1))) (mOp dIx (dVar 1) (M.ret (.int 0)))) (dNil))) (callV 2 m_law_part))
noncomputable def m_law_div : M D := fnB [] 2 0 (asRet m_law_divB)
noncomputable def m_law_gapB : M Fl := mRet (M.bind (dCons (mOp dSub (mOp dMul (mOp dIx (dVar 0) (M.ret (.int 0))) (mOp dIx (dVar 1) (M.ret (.int 1)))) (mOp dMul (mOp dIx (dVar 1) (M.ret (.int 0))) (mOp dIx (dVar 0) (M.ret (.int 1))))) (dCons (mOp dMul (mOp dIx (dVar 0) (M.ret (.int 1))) (mOp dIx (dVar 1) (M.ret (.int 1)))) (dNil))) (callV 2 m_law_part))
noncomputable def m_law_gap : M D := fnB [] 2 0 (asRet m_law_gapB)
noncomputable def m_law_headingB : M Fl := mSeq (mIfS (mTest (mOp dIs (dVar 0) (M.ret .non))) (mRet (mTup (dCons (mTup (dCons (mUn dNeg (M.ret (.int 1))) (dCons (M.ret (.int 1)) (dNil)))) (dCons (mTup (dCons (M.ret (.int 0)) (dCons (M.ret (.int 1)) (dNil)))) (dNil))))) (M.ret .nx)) (mSeq (mSet 1 (M.bind (dCons (dVar 0) (dCons (dVar 0) (dNil))) (callV 2 m_law_mul))) (mSeq (mSet 2 (M.bind (dCons (mTup (dCons (M.ret (.int 1)) (dCons (M.ret (.int 1)) (dNil)))) (dCons (dVar 1) (dNil))) (callV 2 m_law_add))) (mRet (mTup (dCons (M.bind (dCons (M.bind (dCons (mTup (dCons (M.ret (.int 1)) (dCons (M.ret (.int 1)) (dNil)))) (dCons (dVar 1) (dNil))) (callV 2 m_law_gap)) (dCons (dVar 2) (dNil))) (callV 2 m_law_div)) (dCons (M.bind (dCons (M.bind (dCons (mTup (dCons (M.ret (.int 2)) (dCons (M.ret (.int 1)) (dNil)))) (dCons (dVar 0) (dNil))) (callV 2 m_law_mul)) (dCons (dVar 2) (dNil))) (callV 2 m_law_div)) (dNil)))))))
noncomputable def m_law_heading : M D := fnB [] 1 2 (asRet m_law_headingB)
noncomputable def m_law_dealB : M Fl := mSeq (mIfS (mTest (mOp dGt (mIxO 0 (M.ret (.int 0))) (M.ret (.int 0)))) (mSeq (mAsg (mCB dDivmod (dCons (mIxO 0 (M.ret (.int 0))) (dCons (dVar 1) (dNil)))) (gT (gsCons (gSub1 0 (M.ret (.int 0))) (gsCons (gN 3) (gsNil))))) (mRet (dVar 3))) (M.ret .nx)) (mSeq (mAsg (mOp dAdd (mIxO 0 (M.ret (.int 2))) (M.ret (.int 1))) (gSub1 0 (M.ret (.int 2)))) (mSeq (mSet 2 (mOp dAdd (mOp dMod (mCB dInt (dCons (mIxO 0 (M.ret (.int 1))) (dNil))) (M.ret (.int 17011))) (M.ret (.int 23003)))) (mSeq (mAsg (mOp dMod (mCB dInt (dCons (mOp dAdd (mOp dAdd (mOp dMul (mIxO 0 (M.ret (.int 1))) (dVar 2)) (mOp dMul (M.ret (.int 60013)) (mIxO 0 (M.ret (.int 2))))) (M.ret (.int 41))) (dNil))) (M.ret (.int 2147483477))) (gSub1 0 (M.ret (.int 1)))) (mRet (mOp dMod (mCB dInt (dCons (mOp dDiv (mIxO 0 (M.ret (.int 1))) (M.ret (.int 89))) (dNil))) (dVar 1))))))
noncomputable def m_law_deal : M D := fnB [0] 2 2 (asRet m_law_dealB)
noncomputable def m_law_someB : M Fl := mRet (mOp dIx (dVar 1) (mOwned 0 (M.bind (dCons (mCB dLen (dCons (dVar 1) (dNil))) (dNil)) (callO 2 m_law_deal 0))))
noncomputable def m_law_some : M D := fnB [0] 2 0 (asRet m_law_someB)
noncomputable def m_law_aboutB : M Fl := mSeq (mIfS (mTest (mOp dLt (dVar 1) (mOp dPow (M.ret (.int 10)) (M.ret (.int 5))))) (mRet (mOp dSub (mOwned 0 (M.bind (dCons (mOp dAdd (mOp dMul (M.ret (.int 2)) (dVar 1)) (M.ret (.int 1))) (dNil)) (callO 2 m_law_deal 0))) (dVar 1))) (M.ret .nx)) (mSeq (mSet 2 (mOwned 0 (M.bind (dCons (M.ret (.int 64007)) (dNil)) (callO 2 m_law_deal 0)))) (mRet (mOp dSub (mOp dMod (mCB dInt (dCons (mOp dAdd (mOp dMul (dVar 2) (M.ret (.int 64007))) (mOwned 0 (M.bind (dCons (M.ret (.int 64007)) (dNil)) (callO 2 m_law_deal 0)))) (dNil))) (mOp dAdd (mOp dMul (M.ret (.int 2)) (dVar 1)) (M.ret (.int 1)))) (dVar 1))))
noncomputable def m_law_about : M D := fnB [0] 2 1 (asRet m_law_aboutB)
noncomputable def m_law_any_partB : M Fl := mRet (M.bind (dCons (mOwned 0 (M.bind (dCons (dVar 1) (dNil)) (callO 2 m_law_about 0))) (dCons (mOp dAdd (M.ret (.int 1)) (mOwned 0 (M.bind (dCons (mOwned 0 (M.bind (dCons (mLst (dCons (M.ret (.int 1)) (dCons (M.ret (.int 1)) (dCons (M.ret (.int 2)) (dCons (M.ret (.int 3)) (dCons (M.ret (.int 7)) (dCons (mCB dMin (dCons (dVar 1) (dCons (mOp dPow (M.ret (.int 10)) (M.ret (.int 4))) (dNil)))) (dNil)))))))) (dNil)) (callO 2 m_law_some 0))) (dNil)) (callO 2 m_law_deal 0)))) (dNil))) (callV 2 m_law_part))
noncomputable def m_law_any_part : M D := fnB [0] 2 0 (asRet m_law_any_partB)
noncomputable def m_law_halfB : M Fl := mSeq (mSet 1 (mOwned 0 (M.bind (dCons (mLst (dCons (M.ret (.int 1)) (dCons (M.ret (.int 2)) (dCons (M.ret (.int 3)) (dCons (M.ret (.int 9)) (dCons (M.ret (.int 99)) (dNil))))))) (dNil)) (callO 2 m_law_some 0)))) (mRet (mIf (mTest (mOp dEq (mOwned 0 (M.bind (dCons (M.ret (.int 7)) (dNil)) (callO 2 m_law_deal 0))) (M.ret (.int 0)))) (mOwned 0 (M.bind (dCons (mLst (dCons (M.ret .non) (dCons (mTup (dCons (M.ret (.int 0)) (dCons (M.ret (.int 1)) (dNil)))) (dCons (mTup (dCons (M.ret (.int 1)) (dCons (M.ret (.int 1)) (dNil)))) (dCons (mTup (dCons (mUn dNeg (M.ret (.int 1))) (dCons (M.ret (.int 1)) (dNil)))) (dNil)))))) (dNil)) (callO 2 m_law_some 0))) (mOwned 0 (M.bind (dCons (dVar 1) (dNil)) (callO 2 m_law_any_part 0)))))
noncomputable def m_law_half : M D := fnB [0] 1 1 (asRet m_law_halfB)
noncomputable def m_law_some_headingB : M Fl := mRet (M.bind (dCons (mOwned 0 (M.bind (dNil) (callO 1 m_law_half 0))) (dNil)) (callV 1 m_law_heading))
noncomputable def m_law_some_heading : M D := fnB [0] 1 0 (asRet m_law_some_headingB)
noncomputable def m_law_turnB : M Fl := mRet (mTup (dCons (M.bind (dCons (M.bind (dCons (mOp dIx (dVar 0) (M.ret (.int 0))) (dCons (mOp dIx (dVar 1) (M.ret (.int 0))) (dNil))) (callV 2 m_law_mul)) (dCons (M.bind (dCons (mOp dIx (dVar 0) (M.ret (.int 1))) (dCons (mOp dIx (dVar 1) (M.ret (.int 1))) (dNil))) (callV 2 m_law_mul)) (dNil))) (callV 2 m_law_gap)) (dCons (M.bind (dCons (M.bind (dCons (mOp dIx (dVar 0) (M.ret (.int 1))) (dCons (mOp dIx (dVar 1) (M.ret (.int 0))) (dNil))) (callV 2 m_law_mul)) (dCons (M.bind (dCons (mOp dIx (dVar 0) (M.ret (.int 0))) (dCons (mOp dIx (dVar 1) (M.ret (.int 1))) (dNil))) (callV 2 m_law_mul)) (dNil))) (callV 2 m_law_add)) (dNil))))
noncomputable def m_law_turn : M D := fnB [] 2 0 (asRet m_law_turnB)
noncomputable def m_law_flat_fiveB : M Fl := mSeq (mPar3 4 5 6 (dCons (mOwned 0 (M.bind (dCons (M.ret (.int 2)) (dNil)) (callO 2 m_law_any_part 0))) (dCons (mOwned 0 (M.bind (dNil) (callO 1 m_law_some_heading 0))) (dCons (mOwned 0 (M.bind (dCons (mOwned 0 (M.bind (dCons (mLst (dCons (M.ret (.int 1)) (dCons (M.ret (.int 3)) (dCons (M.ret (.int 9)) (dNil))))) (dNil)) (callO 2 m_law_some 0))) (dNil)) (callO 2 m_law_any_part 0))) (dNil))))) (mSeq (mSet 1 (M.bind (dCons (dVar 5) (dCons (dVar 5) (dNil))) (callV 2 m_law_turn))) (mSeq (mIfS (mTest (mOp dEq (mOwned 0 (M.bind (dCons (M.ret (.int 4)) (dNil)) (callO 2 m_law_deal 0))) (M.ret (.int 0)))) (mPar 4 6 (dCons (mTup (dCons (M.ret (.int 0)) (dCons (M.ret (.int 1)) (dNil)))) (dCons (mOwned 0 (M.bind (dCons (mLst (dCons (mTup (dCons (M.ret (.int 2)) (dCons (M.ret (.int 1)) (dNil)))) (dCons (mTup (dCons (mUn dNeg (M.ret (.int 2))) (dCons (M.ret (.int 1)) (dNil)))) (dCons (mTup (dCons (M.ret (.int 0)) (dCons (M.ret (.int 1)) (dNil)))) (dNil))))) (dNil)) (callO 2 m_law_some 0))) (dNil)))) (M.ret .nx)) (mSeq (mSet 2 (M.bind (dCons (mOp dIx (dVar 1) (M.ret (.int 0))) (dCons (M.bind (dCons (dVar 4) (dCons (mOp dIx (dVar 1) (M.ret (.int 1))) (dNil))) (callV 2 m_law_mul)) (dNil))) (callV 2 m_law_add))) (mSeq (mSet 3 (M.bind (dCons (mOp dIx (dVar 1) (M.ret (.int 1))) (dCons (M.bind (dCons (dVar 4) (dCons (mOp dIx (dVar 1) (M.ret (.int 0))) (dNil))) (callV 2 m_law_mul)) (dNil))) (callV 2 m_law_gap))) (mRet (mTup (dCons (dVar 4) (dCons (M.bind (dCons (dVar 6) (dCons (mOp dIx (dVar 5) (M.ret (.int 0))) (dNil))) (callV 2 m_law_mul)) (dCons (M.bind (dCons (dVar 6) (dCons (mOp dIx (dVar 5) (M.ret (.int 1))) (dNil))) (callV 2 m_law_mul)) (dCons (dVar 2) (dCons (dVar 3) (dNil))))))))))))
noncomputable def m_law_flat_five : M D := fnB [0] 1 6 (asRet m_law_flat_fiveB)
noncomputable def m_law_any_fiveB : M Fl := mSeq (mOwn 2 (dNil)) (mSeq (mFor (mIter' rng1 (dCons (M.ret (.int 5)) (dNil))) (gN 3) (mExpr (mApp 2 (mIf (mTest (mOp dEq (mOwned 0 (M.bind (dCons (M.ret (.int 4)) (dNil)) (callO 2 m_law_deal 0))) (M.ret (.int 0)))) (mTup (dCons (M.ret (.int 0)) (dCons (M.ret (.int 1)) (dNil)))) (mOwned 0 (M.bind (dCons (dVar 1) (dNil)) (callO 2 m_law_any_part 0))))))) (mRet (mCB dTuple (dCons (dVar 2) (dNil)))))
noncomputable def m_law_any_five : M D := fnB [0] 2 2 (asRet m_law_any_fiveB)
noncomputable def m_law_totalB : M Fl := mSeq (mSet 1 (mTup (dCons (M.ret (.int 0)) (dCons (M.ret (.int 1)) (dNil))))) (mSeq (mFor (mIter (dVar 0)) (gN 2) (mSet 1 (M.bind (dCons (dVar 1) (dCons (dVar 2) (dNil))) (callV 2 m_law_add)))) (mRet (dVar 1)))
noncomputable def m_law_total : M D := fnB [] 1 2 (asRet m_law_totalB)
noncomputable def m_law_shipB : M Fl := mSeq (mAsg (mTup (dCons (dVar 0) (dCons (dVar 1) (dNil)))) (gT (gsCons (gT (gsCons (gN 4) (gsCons (gN 5) (gsCons (gN 6) (gsCons (gN 7) (gsCons (gN 8) (gsNil))))))) (gsCons (gT (gsCons (gN 9) (gsCons (gN 10) (gsNil)))) (gsNil))))) (mSeq (mSet 2 (mLst (dCons (dVar 5) (dCons (M.bind (dCons (M.bind (dCons (mTup (dCons (M.ret (.int 1)) (dCons (M.ret (.int 1)) (dNil)))) (dCons (dVar 7) (dNil))) (callV 2 m_law_add)) (dCons (dVar 9) (dNil))) (callV 2 m_law_mul)) (dCons (M.bind (dCons (M.bind (dCons (dVar 4) (dCons (dVar 8) (dNil))) (callV 2 m_law_gap)) (dCons (dVar 10) (dNil))) (callV 2 m_law_mul)) (dNil)))))) (mSeq (mSet 3 (mLst (dCons (dVar 6) (dCons (M.bind (dCons (M.bind (dCons (dVar 4) (dCons (dVar 8) (dNil))) (callV 2 m_law_add)) (dCons (dVar 9) (dNil))) (callV 2 m_law_mul)) (dCons (M.bind (dCons (M.bind (dCons (dVar 7) (dCons (mTup (dCons (M.ret (.int 1)) (dCons (M.ret (.int 1)) (dNil)))) (dNil))) (callV 2 m_law_gap)) (dCons (dVar 10) (dNil))) (callV 2 m_law_mul)) (dNil)))))) (mRet (mTup (dCons (M.bind (dCons (dVar 2) (dNil)) (callV 1 m_law_total)) (dCons (M.bind (dCons (dVar 3) (dNil)) (callV 1 m_law_total)) (dNil)))))))
noncomputable def m_law_ship : M D := fnB [] 2 9 (asRet m_law_shipB)
noncomputable def m_law_backB : M Fl := mRet (mTup (dCons (mOp dSub (M.ret (.int 0)) (mOp dIx (dVar 0) (M.ret (.int 0)))) (dCons (mOp dIx (dVar 0) (M.ret (.int 1))) (dNil))))
noncomputable def m_law_back : M D := fnB [] 1 0 (asRet m_law_backB)
noncomputable def m_law_dead_fiveB : M Fl := mSeq (mSet 2 (mOwned 0 (M.bind (dCons (M.ret (.int 3)) (dNil)) (callO 2 m_law_any_five 0)))) (mSeq (mAsg (M.bind (dCons (mTup (dCons (mOp dIx (dVar 2) (M.ret (.int 0))) (dCons (mTup (dCons (M.ret (.int 0)) (dCons (M.ret (.int 1)) (dNil)))) (dCons (mTup (dCons (M.ret (.int 0)) (dCons (M.ret (.int 1)) (dNil)))) (dCons (mOp dIx (dVar 2) (M.ret (.int 3))) (dCons (mOp dIx (dVar 2) (M.ret (.int 4))) (dNil))))))) (dCons (dVar 1) (dNil))) (callV 2 m_law_ship)) (gT (gsCons (gN 3) (gsCons (gN 4) (gsNil))))) (mRet (mTup (dCons (mOp dIx (dVar 2) (M.ret (.int 0))) (dCons (M.bind (dCons (dVar 3) (dNil)) (callV 1 m_law_back)) (dCons (M.bind (dCons (dVar 4) (dNil)) (callV 1 m_law_back)) (dCons (mOp dIx (dVar 2) (M.ret (.int 3))) (dCons (mOp dIx (dVar 2) (M.ret (.int 4))) (dNil)))))))))
noncomputable def m_law_dead_five : M D := fnB [0] 2 3 (asRet m_law_dead_fiveB)
noncomputable def m_law_overB : M Fl := mRet (M.bind (dCons (mOp dAdd (M.ret (.int 1)) (mCB dAbs (dCons (mOwned 0 (M.bind (dCons (dVar 1) (dNil)) (callO 2 m_law_about 0))) (dNil)))) (dCons (mOp dAdd (M.ret (.int 1)) (mOwned 0 (M.bind (dCons (mOwned 0 (M.bind (dCons (mLst (dCons (M.ret (.int 1)) (dCons (M.ret (.int 1)) (dCons (M.ret (.int 2)) (dCons (M.ret (.int 3)) (dCons (M.ret (.int 7)) (dNil))))))) (dNil)) (callO 2 m_law_some 0))) (dNil)) (callO 2 m_law_deal 0)))) (dNil))) (callV 2 m_law_part))
noncomputable def m_law_over : M D := fnB [0] 2 0 (asRet m_law_overB)
noncomputable def m_law_kind_fiveB : M Fl := mSeq (mSet 1 (mOwned 0 (M.bind (dCons (M.ret (.int 7)) (dNil)) (callO 2 m_law_deal 0)))) (mSeq (mIfS (mTest (mOp dEq (dVar 1) (M.ret (.int 0)))) (mRet (mOwned 0 (M.bind (dNil) (callO 1 m_law_flat_five 0)))) (M.ret .nx)) (mSeq (mIfS (mTest (mOp dEq (dVar 1) (M.ret (.int 1)))) (mRet (mOwned 0 (M.bind (dCons (mOwned 0 (M.bind (dNil) (callO 1 m_law_some_heading 0))) (dNil)) (callO 2 m_law_dead_five 0)))) (M.ret .nx)) (mSeq (mSet 2 (mOwned 0 (M.bind (dCons (mOwned 0 (M.bind (dCons (mLst (dCons (M.ret (.int 1)) (dCons (M.ret (.int 3)) (dCons (M.ret (.int 9)) (dNil))))) (dNil)) (callO 2 m_law_some 0))) (dNil)) (callO 2 m_law_any_five 0)))) (mSeq (mIfS (mTest (mOp dEq (dVar 1) (M.ret (.int 2)))) (mRet (dVar 2)) (M.ret .nx)) (mSeq (mIfS (mTest (mOp dEq (dVar 1) (M.ret (.int 3)))) (mSeq (mSet 4 (mOwned 0 (M.bind (dNil) (callO 1 m_law_flat_five 0)))) (mRet (mTup (dCons (mOp dIx (dVar 4) (M.ret (.int 0))) (dCons (mOp dIx (dVar 2) (M.ret (.int 1))) (dCons (mOp dIx (dVar 2) (M.ret (.int 2))) (dCons (mOp dIx (dVar 4) (M.ret (.int 3))) (dCons (mOp dIx (dVar 4) (M.ret (.int 4))) (dNil))))))))) (M.ret .nx)) (mSeq (mIfS (mTest (mOp dEq (dVar 1) (M.ret (.int 4)))) (mRet (mCB dTuple (dCons (mLst (mLc 6 [5] (mIter (dVar 2)) (gN 5) (M.ret true) (M.bind (dCons (dVar 5) (dCons (mTup (dCons (M.ret (.int 1)) (dCons (M.ret (.int 6)) (dNil)))) (dNil))) (callV 2 m_law_mul)))) (dNil)))) (M.ret .nx)) (mSeq (mSet 3 (M.bind (dCons (mTup (dCons (M.ret (.int 2)) (dCons (M.ret (.int 1)) (dNil)))) (dCons (mOwned 0 (M.bind (dCons (M.ret (.int 3)) (dNil)) (callO 2 m_law_over 0))) (dNil))) (callV 2 m_law_add))) (mSeq (mIfS (mTest (mOp dEq (dVar 1) (M.ret (.int 5)))) (mRet (mTup (dCons (M.bind (dCons (mOp dIx (dVar 2) (M.ret (.int 0))) (dCons (mTup (dCons (M.ret (.int 1)) (dCons (M.ret (.int 5)) (dNil)))) (dNil))) (callV 2 m_law_mul)) (dCons (M.bind (dCons (mOp dIx (dVar 2) (M.ret (.int 1))) (dCons (mTup (dCons (M.ret (.int 1)) (dCons (M.ret (.int 5)) (dNil)))) (dNil))) (callV 2 m_law_mul)) (dCons (mTup (dCons (M.ret (.int 0)) (dCons (M.ret (.int 1)) (dNil)))) (dCons (dVar 3) (dCons (M.bind (dCons (mOp dIx (dVar 2) (M.ret (.int 4))) (dCons (mTup (dCons (M.ret (.int 1)) (dCons (M.ret (.int 5)) (dNil)))) (dNil))) (callV 2 m_law_mul)) (dNil)))))))) (M.ret .nx)) (mRet (mTup (dCons (M.bind (dCons (mOp dIx (dVar 2) (M.ret (.int 0))) (dCons (mTup (dCons (M.ret (.int 1)) (dCons (M.ret (.int 5)) (dNil)))) (dNil))) (callV 2 m_law_mul)) (dCons (dVar 3) (dCons (mOp dIx (dVar 2) (M.ret (.int 2))) (dCons (M.bind (dCons (mOp dIx (dVar 2) (M.ret (.int 3))) (dCons (mTup (dCons (M.ret (.int 1)) (dCons (M.ret (.int 9)) (dNil)))) (dNil))) (callV 2 m_law_mul)) (dCons (M.bind (dCons (mOp dIx (dVar 2) (M.ret (.int 4))) (dCons (mTup (dCons (M.ret (.int 1)) (dCons (M.ret (.int 9)) (dNil)))) (dNil))) (callV 2 m_law_mul)) (dNil))))))))))))))))
noncomputable def m_law_kind_five : M D := fnB [0] 1 5 (asRet m_law_kind_fiveB)
noncomputable def m_divisor_ofB : M Fl := mSeq (mSet 1 (M.ret (.int 0))) (mSeq (mFor (mIter (dVar 0)) (gN 2) (mSet 1 (mCB dGcd (dCons (dVar 1) (dCons (dVar 2) (dNil)))))) (mRet (dVar 1)))
noncomputable def m_divisor_of : M D := fnB [] 1 2 (asRet m_divisor_ofB)
noncomputable def m_ratioB : M Fl := mSeq (mSet 2 (M.bind (dCons (mTup (dCons (dVar 0) (dCons (dVar 1) (dNil)))) (dNil)) (callV 1 m_divisor_of))) (mSeq (mSet 2 (mIf (mTest (mOp dGt (dVar 1) (M.ret (.int 0)))) (dVar 2) (mUn dNeg (dVar 2)))) (mRet (mTup (dCons (mOp dDiv (dVar 0) (dVar 2)) (dCons (mOp dDiv (dVar 1) (dVar 2)) (dNil))))))
noncomputable def m_ratio : M D := fnB [] 2 1 (asRet m_ratioB)
noncomputable def m_ratio_sumB : M Fl := mRet (M.bind (dCons (mOp dAdd (mOp dMul (mOp dIx (dVar 0) (M.ret (.int 0))) (mOp dIx (dVar 1) (M.ret (.int 1)))) (mOp dMul (mOp dIx (dVar 1) (M.ret (.int 0))) (mOp dIx (dVar 0) (M.ret (.int 1))))) (dCons (mOp dMul (mOp dIx (dVar 0) (M.ret (.int 1))) (mOp dIx (dVar 1) (M.ret (.int 1)))) (dNil))) (callV 2 m_ratio))
noncomputable def m_ratio_sum : M D := fnB [] 2 0 (asRet m_ratio_sumB)
noncomputable def m_ratio_productB : M Fl := mRet (M.bind (dCons (mOp dMul (mOp dIx (dVar 0) (M.ret (.int 0))) (mOp dIx (dVar 1) (M.ret (.int 0)))) (dCons (mOp dMul (mOp dIx (dVar 0) (M.ret (.int 1))) (mOp dIx (dVar 1) (M.ret (.int 1)))) (dNil))) (callV 2 m_ratio))
noncomputable def m_ratio_product : M D := fnB [] 2 0 (asRet m_ratio_productB)
noncomputable def m_square_lengthB : M Fl := mRet (M.bind (dCons (M.bind (dCons (mOp dIx (dVar 0) (M.ret (.int 0))) (dCons (mOp dIx (dVar 0) (M.ret (.int 0))) (dNil))) (callV 2 m_ratio_product)) (dCons (M.bind (dCons (mOp dIx (dVar 0) (M.ret (.int 1))) (dCons (mOp dIx (dVar 0) (M.ret (.int 1))) (dNil))) (callV 2 m_ratio_product)) (dNil))) (callV 2 m_ratio_sum))
noncomputable def m_square_length : M D := fnB [] 1 0 (asRet m_square_lengthB)
noncomputable def m_is_reducedB : M Fl := mRet (mOp dEq (M.bind (dCons (dVar 0) (dNil)) (callV 1 m_divisor_of)) (M.ret (.int 1)))
noncomputable def m_is_reduced : M D := fnB [] 1 0 (asRet m_is_reducedB)
noncomputable def m_is_wholeB : M Fl := mRet (mAnd (mUn (dIsi "int") (dVar 0)) (mNot (mUn (dIsi "bool") (dVar 0))))
noncomputable def m_is_whole : M D := fnB [] 1 0 (asRet m_is_wholeB)
noncomputable def m_are_wholesB : M Fl := mRet (mAnd (mUn (dIsi "tuple") (dVar 0)) (mAnd (mOp dEq (mCB dLen (dCons (dVar 0) (dNil))) (dVar 1)) (mCB dAll (dCons (mLst (mLc 3 [2] (mIter (dVar 0)) (gN 2) (M.ret true) (M.bind (dCons (dVar 2) (dNil)) (callV 1 m_is_whole)))) (dNil)))))
noncomputable def m_are_wholes : M D := fnB [] 2 1 (asRet m_are_wholesB)
noncomputable def m_is_ratioB : M Fl := mRet (mAnd (M.bind (dCons (dVar 0) (dCons (M.ret (.int 2)) (dNil))) (callV 2 m_are_wholes)) (mAnd (mOp dGt (mOp dIx (dVar 0) (M.ret (.int 1))) (M.ret (.int 0))) (M.bind (dCons (dVar 0) (dNil)) (callV 1 m_is_reduced))))
noncomputable def m_is_ratio : M D := fnB [] 1 0 (asRet m_is_ratioB)
noncomputable def m_is_pairB : M Fl := mRet (mAnd (mUn (dIsi "tuple") (dVar 0)) (mAnd (mOp dEq (mCB dLen (dCons (dVar 0) (dNil))) (M.ret (.int 2))) (mAnd (M.bind (dCons (mOp dIx (dVar 0) (M.ret (.int 0))) (dNil)) (callV 1 m_is_ratio)) (M.bind (dCons (mOp dIx (dVar 0) (M.ret (.int 1))) (dNil)) (callV 1 m_is_ratio)))))
noncomputable def m_is_pair : M D := fnB [] 1 0 (asRet m_is_pairB)
noncomputable def m_is_unitB : M Fl := mRet (mAnd (M.bind (dCons (dVar 0) (dNil)) (callV 1 m_is_pair)) (mOp dEq (M.bind (dCons (dVar 0) (dNil)) (callV 1 m_square_length)) (M.ret (.tup [(.int 1), (.int 1)]))))
noncomputable def m_is_unit : M D := fnB [] 1 0 (asRet m_is_unitB)
noncomputable def m_check_headingB : M Fl := mIfS (mNotT (mTest (M.bind (dCons (dVar 0) (dNil)) (callV 1 m_is_unit)))) (mNo) (M.ret .nx)
noncomputable def m_check_heading : M D := fnB [] 1 0 (asRet m_check_headingB)
noncomputable def m_ratio_lessB : M Fl := mRet (M.bind (dCons (mOp dSub (mOp dMul (mOp dIx (dVar 0) (M.ret (.int 0))) (mOp dIx (dVar 1) (M.ret (.int 1)))) (mOp dMul (mOp dIx (dVar 1) (M.ret (.int 0))) (mOp dIx (dVar 0) (M.ret (.int 1))))) (dCons (mOp dMul (mOp dIx (dVar 0) (M.ret (.int 1))) (mOp dIx (dVar 1) (M.ret (.int 1)))) (dNil))) (callV 2 m_ratio))
noncomputable def m_ratio_less : M D := fnB [] 2 0 (asRet m_ratio_lessB)
noncomputable def m_gauss_productB : M Fl := mSeq (mSet 2 (M.bind (dCons (M.bind (dCons (mOp dIx (dVar 0) (M.ret (.int 0))) (dCons (mOp dIx (dVar 1) (M.ret (.int 0))) (dNil))) (callV 2 m_ratio_product)) (dCons (M.bind (dCons (mOp dIx (dVar 0) (M.ret (.int 1))) (dCons (mOp dIx (dVar 1) (M.ret (.int 1))) (dNil))) (callV 2 m_ratio_product)) (dNil))) (callV 2 m_ratio_less))) (mRet (mTup (dCons (dVar 2) (dCons (M.bind (dCons (M.bind (dCons (mOp dIx (dVar 0) (M.ret (.int 0))) (dCons (mOp dIx (dVar 1) (M.ret (.int 1))) (dNil))) (callV 2 m_ratio_product)) (dCons (M.bind (dCons (mOp dIx (dVar 0) (M.ret (.int 1))) (dCons (mOp dIx (dVar 1) (M.ret (.int 0))) (dNil))) (callV 2 m_ratio_product)) (dNil))) (callV 2 m_ratio_sum)) (dNil)))))
noncomputable def m_gauss_product : M D := fnB [] 2 1 (asRet m_gauss_productB)
noncomputable def m_both_turnedB : M Fl := mRet (M.bind (dCons (dVar 0) (dCons (dVar 1) (dNil))) (callV 2 m_gauss_product))
noncomputable def m_both_turned : M D := fnB [] 2 0 (asRet m_both_turnedB)
noncomputable def m_turnedB : M Fl := mSeq (mExpr (M.bind (dCons (dVar 0) (dNil)) (callV 1 m_check_heading))) (mSeq (mExpr (M.bind (dCons (dVar 1) (dNil)) (callV 1 m_check_heading))) (mRet (M.bind (dCons (dVar 0) (dCons (dVar 1) (dNil))) (callV 2 m_both_turned))))
noncomputable def m_turned : M D := fnB [] 2 0 (asRet m_turnedB)
noncomputable def m_law_as_surdsB : M Fl := mRet (mTup (dCons (mTup (dCons (mOp dIx (dVar 0) (M.ret (.int 0))) (dCons (M.ret (.int 0)) (dCons (mTup (dCons (M.ret (.int 0)) (dCons (M.ret (.int 1)) (dNil)))) (dNil))))) (dCons (mTup (dCons (mOp dIx (dVar 0) (M.ret (.int 1))) (dCons (M.ret (.int 0)) (dCons (mTup (dCons (M.ret (.int 0)) (dCons (M.ret (.int 1)) (dNil)))) (dNil))))) (dNil))))
noncomputable def m_law_as_surds : M D := fnB [] 1 0 (asRet m_law_as_surdsB)
noncomputable def m_are_ratiosB : M Fl := mRet (mAnd (mUn (dIsi "tuple") (dVar 0)) (mAnd (mOp dEq (mCB dLen (dCons (dVar 0) (dNil))) (dVar 1)) (mCB dAll (dCons (mLst (mLc 3 [2] (mIter (dVar 0)) (gN 2) (M.ret true) (M.bind (dCons (dVar 2) (dNil)) (callV 1 m_is_ratio)))) (dNil)))))
noncomputable def m_are_ratios : M D := fnB [] 2 1 (asRet m_are_ratiosB)
noncomputable def m_is_fivefoldB : M Fl := mRet (M.bind (dCons (dVar 0) (dCons (M.ret (.int 5)) (dNil))) (callV 2 m_are_ratios))
noncomputable def m_is_fivefold : M D := fnB [] 1 0 (asRet m_is_fivefoldB)
noncomputable def m_check_fiveB : M Fl := mIfS (mNotT (mTest (M.bind (dCons (dVar 0) (dNil)) (callV 1 m_is_fivefold)))) (mNo) (M.ret .nx)
noncomputable def m_check_five : M D := fnB [] 1 0 (asRet m_check_fiveB)
noncomputable def m_check_needleB : M Fl := mSeq (mExpr (M.bind (dCons (dVar 0) (dNil)) (callV 1 m_check_five))) (mExpr (M.bind (dCons (dVar 1) (dNil)) (callV 1 m_check_heading)))
noncomputable def m_check_needle : M D := fnB [] 2 0 (asRet m_check_needleB)
noncomputable def m_ship_rowsB : M Fl := mSeq (mAsg (dVar 0) (gT (gsCons (gN 2) (gsCons (gN 3) (gsCons (gN 4) (gsCons (gN 5) (gsCons (gN 6) (gsNil)))))))) (mSeq (mSet 1 (mTup (dCons (dVar 3) (dCons (M.bind (dCons (M.ret (.tup [(.int 1), (.int 1)])) (dCons (dVar 5) (dNil))) (callV 2 m_ratio_sum)) (dCons (M.bind (dCons (dVar 2) (dCons (dVar 6) (dNil))) (callV 2 m_ratio_less)) (dNil)))))) (mRet (mTup (dCons (dVar 1) (dCons (mTup (dCons (dVar 4) (dCons (M.bind (dCons (dVar 2) (dCons (dVar 6) (dNil))) (callV 2 m_ratio_sum)) (dCons (M.bind (dCons (dVar 5) (dCons (M.ret (.tup [(.int 1), (.int 1)])) (dNil))) (callV 2 m_ratio_less)) (dNil))))) (dNil))))))
noncomputable def m_ship_rows : M D := fnB [] 1 6 (asRet m_ship_rowsB)
noncomputable def m_row_valueB : M Fl := mRet (M.bind (dCons (mOp dIx (dVar 0) (M.ret (.int 0))) (dCons (M.bind (dCons (M.bind (dCons (mOp dIx (dVar 0) (M.ret (.int 1))) (dCons (mOp dIx (dVar 1) (M.ret (.int 0))) (dNil))) (callV 2 m_ratio_product)) (dCons (M.bind (dCons (mOp dIx (dVar 0) (M.ret (.int 2))) (dCons (mOp dIx (dVar 1) (M.ret (.int 1))) (dNil))) (callV 2 m_ratio_product)) (dNil))) (callV 2 m_ratio_sum)) (dNil))) (callV 2 m_ratio_sum))
noncomputable def m_row_value : M D := fnB [] 2 0 (asRet m_row_valueB)
noncomputable def m_reducedB : M Fl := mSeq (mSet 1 (M.bind (dCons (dVar 0) (dNil)) (callV 1 m_divisor_of))) (mRet (mIf (mTest (mOp dGt (dVar 1) (M.ret (.int 1)))) (mCB dTuple (dCons (mLst (mLc 3 [2] (mIter (dVar 0)) (gN 2) (M.ret true) (mOp dDiv (dVar 2) (dVar 1)))) (dNil))) (mCB dTuple (dCons (dVar 0) (dNil)))))
noncomputable def m_reduced : M D := fnB [] 1 2 (asRet m_reducedB)
noncomputable def m_way_alongB : M Fl := mRet (M.bind (dCons (mTup (dCons (mOp dMul (mOp dIx (dVar 0) (M.ret (.int 0))) (mOp dIx (dVar 1) (M.ret (.int 1)))) (dCons (mOp dMul (mOp dIx (dVar 1) (M.ret (.int 0))) (mOp dIx (dVar 0) (M.ret (.int 1)))) (dNil)))) (dNil)) (callV 1 m_reduced))
noncomputable def m_way_along : M D := fnB [] 2 0 (asRet m_way_alongB)
noncomputable def m_ratio_backB : M Fl := mRet (mTup (dCons (mUn dNeg (mOp dIx (dVar 0) (M.ret (.int 0)))) (dCons (mOp dIx (dVar 0) (M.ret (.int 1))) (dNil))))
noncomputable def m_ratio_back : M D := fnB [] 1 0 (asRet m_ratio_backB)
noncomputable def m_course_shownB : M Fl := mSeq (mAsg (mLst (mLc 5 [4] (mIter (M.bind (dCons (dVar 0) (dNil)) (callV 1 m_ship_rows))) (gN 4) (M.ret true) (M.bind (dCons (dVar 4) (dCons (dVar 1) (dNil))) (callV 2 m_row_value)))) (gT (gsCons (gN 2) (gsCons (gN 3) (gsNil))))) (mRet (mIf (mAndT (mTest (mOp dEq (dVar 2) (M.ret (.tup [(.int 0), (.int 1)])))) (mTest (mOp dEq (dVar 3) (M.ret (.tup [(.int 0), (.int 1)]))))) (M.ret .non) (M.bind (dCons (dVar 2) (dCons (M.bind (dCons (dVar 3) (dNil)) (callV 1 m_ratio_back)) (dNil))) (callV 2 m_way_along))))
noncomputable def m_course_shown : M D := fnB [] 2 3 (asRet m_course_shownB)
noncomputable def m_course_atB : M Fl := mSeq (mExpr (M.bind (dCons (dVar 0) (dCons (dVar 1) (dNil))) (callV 2 m_check_needle))) (mRet (M.bind (dCons (dVar 0) (dCons (dVar 1) (dNil))) (callV 2 m_course_shown)))
noncomputable def m_course_at : M D := fnB [] 2 0 (asRet m_course_atB)
noncomputable def m_law_rayB : M Fl := mRet (M.bind (dCons (mTup (dCons (mOp dMul (mOp dIx (dVar 0) (M.ret (.int 0))) (mOp dIx (dVar 1) (M.ret (.int 1)))) (dCons (mOp dMul (mOp dIx (dVar 1) (M.ret (.int 0))) (mOp dIx (dVar 0) (M.ret (.int 1)))) (dNil)))) (dNil)) (callV 1 m_law_low))
noncomputable def m_law_ray : M D := fnB [] 2 0 (asRet m_law_rayB)
noncomputable def m_law_shownB : M Fl := mSeq (mAsg (M.bind (dCons (dVar 0) (dCons (dVar 1) (dNil))) (callV 2 m_law_ship)) (gT (gsCons (gN 2) (gsCons (gN 3) (gsNil))))) (mRet (mIf (mOrT (mTest (mOp dNe (mOp dIx (dVar 2) (M.ret (.int 0))) (M.ret (.int 0)))) (mTest (mOp dNe (mOp dIx (dVar 3) (M.ret (.int 0))) (M.ret (.int 0))))) (M.bind (dCons (dVar 2) (dCons (M.bind (dCons (dVar 3) (dNil)) (callV 1 m_law_back)) (dNil))) (callV 2 m_law_ray)) (M.ret .non)))
noncomputable def m_law_shown : M D := fnB [] 2 2 (asRet m_law_shownB)
noncomputable def m_gauss_lessB : M Fl := mRet (mTup (dCons (M.bind (dCons (mOp dIx (dVar 0) (M.ret (.int 0))) (dCons (mOp dIx (dVar 1) (M.ret (.int 0))) (dNil))) (callV 2 m_ratio_less)) (dCons (M.bind (dCons (mOp dIx (dVar 0) (M.ret (.int 1))) (dCons (mOp dIx (dVar 1) (M.ret (.int 1))) (dNil))) (callV 2 m_ratio_less)) (dNil))))
noncomputable def m_gauss_less : M D := fnB [] 2 0 (asRet m_gauss_lessB)
noncomputable def m_conjugateB : M Fl := mRet (mTup (dCons (mOp dIx (dVar 0) (M.ret (.int 0))) (dCons (M.bind (dCons (mOp dIx (dVar 0) (M.ret (.int 1))) (dNil)) (callV 1 m_ratio_back)) (dNil))))
noncomputable def m_conjugate : M D := fnB [] 1 0 (asRet m_conjugateB)
noncomputable def m_numbers_ofB : M Fl := mSeq (mPar3 3 4 5 (dCons (mTup (dCons (M.ret (.tup [(.int 1), (.int 1)])) (dCons (mOp dIx (dVar 0) (M.ret (.int 0))) (dNil)))) (dCons (mTup (dCons (mOp dIx (dVar 0) (M.ret (.int 1))) (dCons (mOp dIx (dVar 0) (M.ret (.int 2))) (dNil)))) (dCons (mTup (dCons (mOp dIx (dVar 0) (M.ret (.int 3))) (dCons (mOp dIx (dVar 0) (M.ret (.int 4))) (dNil)))) (dNil))))) (mSeq (mSet 1 (M.bind (dCons (M.bind (dCons (dVar 3) (dNil)) (callV 1 m_square_length)) (dCons (M.bind (dCons (dVar 5) (dNil)) (callV 1 m_square_length)) (dNil))) (callV 2 m_ratio_less))) (mSeq (mSet 2 (M.bind (dCons (M.bind (dCons (M.bind (dCons (dVar 3) (dNil)) (callV 1 m_conjugate)) (dCons (dVar 4) (dNil))) (callV 2 m_gauss_product)) (dCons (M.bind (dCons (dVar 5) (dCons (M.bind (dCons (dVar 4) (dNil)) (callV 1 m_conjugate)) (dNil))) (callV 2 m_gauss_product)) (dNil))) (callV 2 m_gauss_less))) (mRet (mTup (dCons (dVar 1) (dCons (mOp dIx (dVar 2) (M.ret (.int 0))) (dCons (mOp dIx (dVar 2) (M.ret (.int 1))) (dNil))))))))
noncomputable def m_numbers_of : M D := fnB [] 1 5 (asRet m_numbers_ofB)
noncomputable def m_is_straightB : M Fl := mRet (mOp dEq (dVar 0) (mTup (dCons (M.ret (.tup [(.int 0), (.int 1)])) (dCons (M.ret (.tup [(.int 0), (.int 1)])) (dCons (M.ret (.tup [(.int 0), (.int 1)])) (dNil))))))
noncomputable def m_is_straight : M D := fnB [] 1 0 (asRet m_is_straightB)
noncomputable def m_is_lowerB : M Fl := mRet (mOp dLt (mOp dMul (mOp dIx (dVar 0) (M.ret (.int 0))) (mOp dIx (dVar 1) (M.ret (.int 1)))) (mOp dMul (mOp dIx (dVar 1) (M.ret (.int 0))) (mOp dIx (dVar 0) (M.ret (.int 1)))))
noncomputable def m_is_lower : M D := fnB [] 2 0 (asRet m_is_lowerB)
noncomputable def m_word_forB : M Fl := mSeq (mSet 1 (M.bind (dCons (dVar 0) (dNil)) (callV 1 m_numbers_of))) (mSeq (mIfS (mTest (M.bind (dCons (dVar 1) (dNil)) (callV 1 m_is_straight))) (mSeq (mSet 2 (M.bind (dCons (M.ret (.tup [(.int 4), (.int 1)])) (dCons (M.bind (dCons (mTup (dCons (M.ret (.tup [(.int 1), (.int 1)])) (dCons (mOp dIx (dVar 0) (M.ret (.int 0))) (dNil)))) (dNil)) (callV 1 m_square_length)) (dNil))) (callV 2 m_ratio_product))) (mRet (mIf (mTest (M.bind (dCons (dVar 2) (dCons (M.bind (dCons (mTup (dCons (mOp dIx (dVar 0) (M.ret (.int 1))) (dCons (mOp dIx (dVar 0) (M.ret (.int 2))) (dNil)))) (dNil)) (callV 1 m_square_length)) (dNil))) (callV 2 m_is_lower))) (M.ret (.str "stuck")) (M.ret (.str "dead"))))) (M.ret .nx)) (mSeq (mPar 3 4 (dCons (M.bind (dCons (mOp dIx (dVar 1) (M.ret (.int 0))) (dCons (mOp dIx (dVar 1) (M.ret (.int 0))) (dNil))) (callV 2 m_ratio_product)) (dCons (M.bind (dCons (mSl (dVar 1) (oSome (M.ret (.int 1))) (oNone)) (dNil)) (callV 1 m_square_length)) (dNil)))) (mSeq (mIfS (mTest (M.bind (dCons (dVar 3) (dCons (dVar 4) (dNil))) (callV 2 m_is_lower))) (mRet (M.ret (.str "swings"))) (M.ret .nx)) (mSeq (mIfS (mTest (mOp dEq (dVar 3) (dVar 4))) (mRet (M.ret (.str "dead"))) (M.ret .nx)) (mRet (mIf (mTest (mOp dGt (mOp dIx (mOp dIx (dVar 1) (M.ret (.int 0))) (M.ret (.int 0))) (M.ret (.int 0)))) (M.ret (.str "round")) (M.ret (.str "backward"))))))))
noncomputable def m_word_for : M D := fnB [] 1 4 (asRet m_word_forB)
noncomputable def m_is_nought_rowB : M Fl := mRet (mAnd (mOp dEq (mOp dIx (dVar 0) (M.ret (.int 1))) (M.ret (.tup [(.int 0), (.int 1)]))) (mOp dEq (mOp dIx (dVar 0) (M.ret (.int 2))) (M.ret (.tup [(.int 0), (.int 1)]))))
noncomputable def m_is_nought_row : M D := fnB [] 1 0 (asRet m_is_nought_rowB)
noncomputable def m_sign_ofB : M Fl := mRet (mIf (mTest (mOp dGt (dVar 0) (M.ret (.int 0)))) (M.ret (.int 1)) (mIf (mTest (mOp dLt (dVar 0) (M.ret (.int 0)))) (mUn dNeg (M.ret (.int 1))) (M.ret (.int 0))))
noncomputable def m_sign_of : M D := fnB [] 1 0 (asRet m_sign_ofB)
noncomputable def m_square_rootB : M Fl := mSeq (mPar 1 2 (dCons (mCB dIsqrt (dCons (mOp dIx (dVar 0) (M.ret (.int 0))) (dNil))) (dCons (mCB dIsqrt (dCons (mOp dIx (dVar 0) (M.ret (.int 1))) (dNil))) (dNil)))) (mRet (mIf (mAndT (mTest (mOp dEq (mOp dMul (dVar 1) (dVar 1)) (mOp dIx (dVar 0) (M.ret (.int 0))))) (mTest (mOp dEq (mOp dMul (dVar 2) (dVar 2)) (mOp dIx (dVar 0) (M.ret (.int 1)))))) (mTup (dCons (dVar 1) (dCons (dVar 2) (dNil)))) (M.ret .non)))
noncomputable def m_square_root : M D := fnB [] 1 2 (asRet m_square_rootB)
noncomputable def m_plainB : M Fl := mRet (mTup (dCons (dVar 0) (dCons (M.ret (.int 0)) (dCons (M.ret (.tup [(.int 0), (.int 1)])) (dNil)))))
noncomputable def m_plain : M D := fnB [] 1 0 (asRet m_plainB)
noncomputable def m_surd_fromB : M Fl := mSeq (mSet 3 (M.bind (dCons (M.bind (dCons (dVar 1) (dCons (dVar 1) (dNil))) (callV 2 m_ratio_product)) (dCons (dVar 2) (dNil))) (callV 2 m_ratio_product))) (mSeq (mPar 4 5 (dCons (M.bind (dCons (dVar 3) (dNil)) (callV 1 m_square_root)) (dCons (M.bind (dCons (mOp dIx (dVar 1) (M.ret (.int 0))) (dNil)) (callV 1 m_sign_of)) (dNil)))) (mSeq (mIfS (mTest (mOp dIs (dVar 4) (M.ret .non))) (mRet (mTup (dCons (dVar 0) (dCons (dVar 5) (dCons (dVar 3) (dNil)))))) (M.ret .nx)) (mRet (M.bind (dCons (M.bind (dCons (dVar 0) (dCons (mTup (dCons (mOp dMul (dVar 5) (mOp dIx (dVar 4) (M.ret (.int 0)))) (dCons (mOp dIx (dVar 4) (M.ret (.int 1))) (dNil)))) (dNil))) (callV 2 m_ratio_sum)) (dNil)) (callV 1 m_plain)))))
noncomputable def m_surd_from : M D := fnB [] 3 3 (asRet m_surd_fromB)
noncomputable def m_Point_surdsB : M Fl := mRet (mCB dTuple (dCons (mLst (mLc 3 [1, 2] (mIter (mTup (dCons (mUn (dFld "Point" "cosine") (dVar 0)) (dCons (mUn (dFld "Point" "sine") (dVar 0)) (dNil))))) (gT (gsCons (gN 1) (gsCons (gN 2) (gsNil)))) (M.ret true) (M.bind (dCons (dVar 1) (dCons (dVar 2) (dCons (mUn (dFld "Point" "square") (dVar 0)) (dNil)))) (callV 3 m_surd_from)))) (dNil)))
noncomputable def m_Point_surds : M D := fnB [] 1 2 (asRet m_Point_surdsB)
noncomputable def m_quarter_byB : M Fl := mSeq (mIfS (mAndT (mTest (mOp dGt (dVar 0) (M.ret (.int 0)))) (mTest (mOp dGe (dVar 1) (M.ret (.int 0))))) (mRet (M.ret (.int 0))) (M.ret .nx)) (mSeq (mIfS (mTest (mOp dGt (dVar 1) (M.ret (.int 0)))) (mRet (M.ret (.int 1))) (M.ret .nx)) (mRet (mIf (mTest (mOp dLt (dVar 0) (M.ret (.int 0)))) (M.ret (.int 2)) (M.ret (.int 3)))))
noncomputable def m_quarter_by : M D := fnB [] 2 0 (asRet m_quarter_byB)
noncomputable def m_sign_of_oneB : M Fl := mSeq (mPar 3 4 (dCons (M.bind (dCons (dVar 0) (dNil)) (callV 1 m_sign_of)) (dCons (mIf (mTest (mOp dGt (dVar 2) (M.ret (.int 0)))) (M.bind (dCons (dVar 1) (dNil)) (callV 1 m_sign_of)) (M.ret (.int 0))) (dNil)))) (mSeq (mIfS (mOrT (mTest (mOp dEq (dVar 3) (M.ret (.int 0)))) (mOrT (mTest (mOp dEq (dVar 4) (M.ret (.int 0)))) (mTest (mOp dEq (dVar 3) (dVar 4))))) (mRet (mIf (mTest (mOp dNe (dVar 3) (M.ret (.int 0)))) (dVar 3) (dVar 4))) (M.ret .nx)) (mRet (mOp dMul (dVar 3) (M.bind (dCons (mOp dSub (mOp dMul (dVar 0) (dVar 0)) (mOp dMul (mOp dMul (dVar 1) (dVar 1)) (dVar 2))) (dNil)) (callV 1 m_sign_of)))))
noncomputable def m_sign_of_one : M D := fnB [] 3 2 (asRet m_sign_of_oneB)
noncomputable def m_sign_of_twoB : M Fl := mSeq (mPar 5 6 (dCons (M.bind (dCons (dVar 0) (dCons (dVar 1) (dCons (dVar 2) (dNil)))) (callV 3 m_sign_of_one)) (dCons (mIf (mTest (mOp dGt (dVar 4) (M.ret (.int 0)))) (M.bind (dCons (dVar 3) (dNil)) (callV 1 m_sign_of)) (M.ret (.int 0))) (dNil)))) (mSeq (mIfS (mOrT (mTest (mOp dEq (dVar 5) (M.ret (.int 0)))) (mOrT (mTest (mOp dEq (dVar 6) (M.ret (.int 0)))) (mTest (mOp dEq (dVar 5) (dVar 6))))) (mRet (mIf (mTest (mOp dNe (dVar 5) (M.ret (.int 0)))) (dVar 5) (dVar 6))) (M.ret .nx)) (mRet (mOp dMul (dVar 5) (M.bind (dCons (mOp dSub (mOp dAdd (mOp dMul (dVar 0) (dVar 0)) (mOp dMul (mOp dMul (dVar 1) (dVar 1)) (dVar 2))) (mOp dMul (mOp dMul (dVar 3) (dVar 3)) (dVar 4))) (dCons (mOp dMul (mOp dMul (M.ret (.int 2)) (dVar 0)) (dVar 1)) (dCons (dVar 2) (dNil)))) (callV 3 m_sign_of_one)))))
noncomputable def m_sign_of_two : M D := fnB [] 5 2 (asRet m_sign_of_twoB)
noncomputable def m_comparedB : M Fl := mSeq (mAsg (dVar 0) (gT (gsCons (gT (gsCons (gN 4) (gsCons (gN 5) (gsNil)))) (gsCons (gN 2) (gsCons (gT (gsCons (gN 6) (gsCons (gN 7) (gsNil)))) (gsNil)))))) (mSeq (mAsg (dVar 1) (gT (gsCons (gT (gsCons (gN 8) (gsCons (gN 9) (gsNil)))) (gsCons (gN 3) (gsCons (gT (gsCons (gN 10) (gsCons (gN 11) (gsNil)))) (gsNil)))))) (mSeq (mIfS (mAndT (mTest (mOp dEq (dVar 2) (M.ret (.int 0)))) (mTest (mOp dEq (dVar 3) (M.ret (.int 0))))) (mRet (M.bind (dCons (mOp dSub (mOp dMul (dVar 4) (dVar 9)) (mOp dMul (dVar 8) (dVar 5))) (dNil)) (callV 1 m_sign_of))) (M.ret .nx)) (mRet (M.bind (dCons (mOp dMul (mOp dMul (mOp dSub (mOp dMul (dVar 4) (dVar 9)) (mOp dMul (dVar 8) (dVar 5))) (dVar 7)) (dVar 11)) (dCons (mOp dMul (mOp dMul (mOp dMul (dVar 2) (dVar 5)) (dVar 9)) (dVar 11)) (dCons (mOp dMul (dVar 6) (dVar 7)) (dCons (mOp dMul (mOp dMul (mOp dMul (mUn dNeg (dVar 3)) (dVar 5)) (dVar 9)) (dVar 7)) (dCons (mOp dMul (dVar 10) (dVar 11)) (dNil)))))) (callV 5 m_sign_of_two)))))
noncomputable def m_compared : M D := fnB [] 2 10 (asRet m_comparedB)
noncomputable def m_surd_signB : M Fl := mRet (M.bind (dCons (dVar 0) (dCons (M.bind (dCons (M.ret (.tup [(.int 0), (.int 1)])) (dNil)) (callV 1 m_plain)) (dNil))) (callV 2 m_compared))
noncomputable def m_surd_sign : M D := fnB [] 1 0 (asRet m_surd_signB)
noncomputable def m_quarter_of_surdsB : M Fl := mRet (M.bind (dCons (M.bind (dCons (mOp dIx (dVar 0) (M.ret (.int 0))) (dNil)) (callV 1 m_surd_sign)) (dCons (M.bind (dCons (mOp dIx (dVar 0) (M.ret (.int 1))) (dNil)) (callV 1 m_surd_sign)) (dNil))) (callV 2 m_quarter_by))
noncomputable def m_quarter_of_surds : M D := fnB [] 1 0 (asRet m_quarter_of_surdsB)
noncomputable def m_comes_firstB : M Fl := mSeq (mPar 3 4 (dCons (M.bind (dCons (dVar 0) (dNil)) (callV 1 m_quarter_of_surds)) (dCons (M.bind (dCons (dVar 1) (dNil)) (callV 1 m_quarter_of_surds)) (dNil)))) (mSeq (mIfS (mTest (mOp dNe (dVar 3) (dVar 4))) (mRet (mOp dLt (dVar 3) (dVar 4))) (M.ret .nx)) (mSeq (mSet 2 (mIf (mTest (mOp dIn (dVar 3) (mTup (dCons (M.ret (.int 0)) (dCons (M.ret (.int 3)) (dNil)))))) (M.bind (dCons (mOp dIx (dVar 0) (M.ret (.int 1))) (dCons (mOp dIx (dVar 1) (M.ret (.int 1))) (dNil))) (callV 2 m_compared)) (M.bind (dCons (mOp dIx (dVar 1) (M.ret (.int 1))) (dCons (mOp dIx (dVar 0) (M.ret (.int 1))) (dNil))) (callV 2 m_compared)))) (mRet (mOp dLt (dVar 2) (M.ret (.int 0))))))
noncomputable def m_comes_first : M D := fnB [] 2 3 (asRet m_comes_firstB)
noncomputable def m_in_orderB : M Fl := mSeq (mSet 1 (mLst (mLc 3 [2] (mIter (dVar 0)) (gN 2) (M.ret true) (mMeth "Point" "surds" (dVar 2) dNil 1 m_Point_surds)))) (mRet (mIf (mAndT (mTest (mOp dEq (mCB dLen (dCons (dVar 1) (dNil))) (M.ret (.int 2)))) (mTest (M.bind (dCons (mOp dIx (dVar 1) (M.ret (.int 1))) (dCons (mOp dIx (dVar 1) (M.ret (.int 0))) (dNil))) (callV 2 m_comes_first)))) (mUn dRev (dVar 1)) (dVar 1)))
noncomputable def m_in_order : M D := fnB [] 1 2 (asRet m_in_orderB)
noncomputable def m_ratio_overB : M Fl := mRet (M.bind (dCons (mOp dMul (mOp dIx (dVar 0) (M.ret (.int 0))) (mOp dIx (dVar 1) (M.ret (.int 1)))) (dCons (mOp dMul (mOp dIx (dVar 0) (M.ret (.int 1))) (mOp dIx (dVar 1) (M.ret (.int 0)))) (dNil))) (callV 2 m_ratio))
noncomputable def m_ratio_over : M D := fnB [] 2 0 (asRet m_ratio_overB)
noncomputable def m_points_onB : M Fl := mSeq (mAsg (dVar 0) (gT (gsCons (gN 6) (gsCons (gN 7) (gsCons (gN 8) (gsNil)))))) (mSeq (mSet 1 (M.bind (dCons (mTup (dCons (dVar 7) (dCons (dVar 8) (dNil)))) (dNil)) (callV 1 m_square_length))) (mSeq (mSet 2 (M.bind (dCons (dVar 1) (dCons (M.bind (dCons (dVar 6) (dCons (dVar 6) (dNil))) (callV 2 m_ratio_product)) (dNil))) (callV 2 m_ratio_less))) (mSeq (mIfS (mTest (mOp dLt (mOp dIx (dVar 2) (M.ret (.int 0))) (M.ret (.int 0)))) (mRet (mLst (dNil))) (M.ret .nx)) (mSeq (mSet 3 (mTup (dCons (M.bind (dCons (M.bind (dCons (M.bind (dCons (dVar 7) (dCons (dVar 6) (dNil))) (callV 2 m_ratio_product)) (dCons (dVar 1) (dNil))) (callV 2 m_ratio_over)) (dNil)) (callV 1 m_ratio_back)) (dCons (M.bind (dCons (M.bind (dCons (M.bind (dCons (dVar 8) (dCons (dVar 6) (dNil))) (callV 2 m_ratio_product)) (dCons (dVar 1) (dNil))) (callV 2 m_ratio_over)) (dNil)) (callV 1 m_ratio_back)) (dNil))))) (mSeq (mOwn 4 (dNil)) (mSeq (mFor (mIter (mIf (mTest (mOp dGt (mOp dIx (dVar 2) (M.ret (.int 0))) (M.ret (.int 0)))) (mTup (dCons (M.ret (.int 1)) (dCons (mUn dNeg (M.ret (.int 1))) (dNil)))) (mTup (dCons (M.ret (.int 1)) (dNil))))) (gN 5) (mSeq (mSet 9 (M.bind (dCons (M.bind (dCons (mTup (dCons (dVar 5) (dCons (M.ret (.int 1)) (dNil)))) (dCons (dVar 8) (dNil))) (callV 2 m_ratio_product)) (dCons (dVar 1) (dNil))) (callV 2 m_ratio_over))) (mSeq (mSet 10 (M.bind (dCons (M.bind (dCons (mTup (dCons (mUn dNeg (dVar 5)) (dCons (M.ret (.int 1)) (dNil)))) (dCons (dVar 7) (dNil))) (callV 2 m_ratio_product)) (dCons (dVar 1) (dNil))) (callV 2 m_ratio_over))) (mExpr (mApp 4 (mMk "Point" ["cosine", "sine", "square"] (dCons (mTup (dCons (mOp dIx (dVar 3) (M.ret (.int 0))) (dCons (dVar 9) (dNil)))) (dCons (mTup (dCons (mOp dIx (dVar 3) (M.ret (.int 1))) (dCons (dVar 10) (dNil)))) (dCons (dVar 2) (dNil)))))))))) (mRet (dVar 4))))))))
noncomputable def m_points_on : M D := fnB [] 1 10 (asRet m_points_onB)
noncomputable def m_Point_sign_of_rowB : M Fl := mSeq (mZipLc 2 3 6 [4, 5] (dCons (mUn (dFld "Point" "cosine") (dVar 0)) (dCons (mUn (dFld "Point" "sine") (dVar 0)) (dNil))) (gT (gsCons (gN 4) (gsCons (gN 5) (gsNil)))) (M.ret true) (M.bind (dCons (M.bind (dCons (mOp dIx (dVar 1) (M.ret (.int 1))) (dCons (dVar 4) (dNil))) (callV 2 m_ratio_product)) (dCons (M.bind (dCons (mOp dIx (dVar 1) (M.ret (.int 2))) (dCons (dVar 5) (dNil))) (callV 2 m_ratio_product)) (dNil))) (callV 2 m_ratio_sum))) (mRet (M.bind (dCons (M.bind (dCons (M.bind (dCons (mOp dIx (dVar 1) (M.ret (.int 0))) (dCons (mOp dIx (dVar 3) (M.ret (.int 0))) (dNil))) (callV 2 m_ratio_sum)) (dCons (mOp dIx (dVar 3) (M.ret (.int 1))) (dCons (mUn (dFld "Point" "square") (dVar 0)) (dNil)))) (callV 3 m_surd_from)) (dNil)) (callV 1 m_surd_sign)))
noncomputable def m_Point_sign_of_row : M D := fnB [] 2 4 (asRet m_Point_sign_of_rowB)
noncomputable def m_forcelessB : M Fl := mSeq (mIfS (mTest (mOp dNe (M.bind (dCons (dVar 0) (dNil)) (callV 1 m_word_for)) (M.ret (.str "dead")))) (mRet (mLst (dNil))) (M.ret .nx)) (mSeq (mSet 1 (M.bind (dCons (dVar 0) (dNil)) (callV 1 m_ship_rows))) (mSeq (mAsg (mIf (mNotT (mTest (M.bind (dCons (mOp dIx (dVar 1) (M.ret (.int 0))) (dNil)) (callV 1 m_is_nought_row)))) (dVar 1) (mUn dRev (dVar 1))) (gT (gsCons (gN 2) (gsCons (gN 3) (gsNil))))) (mRet (M.bind (dCons (mLst (mLc 5 [4] (mIter (M.bind (dCons (dVar 2) (dNil)) (callV 1 m_points_on))) (gN 4) (mTest (mOp dEq (mMeth "Point" "sign_of_row" (dVar 4) (dCons (dVar 3) (dNil)) 2 m_Point_sign_of_row) (M.ret (.int 0)))) (dVar 4))) (dNil)) (callV 1 m_in_order)))))
noncomputable def m_forceless : M D := fnB [] 1 4 (asRet m_forcelessB)
noncomputable def m_dead_headingsB : M Fl := mSeq (mExpr (M.bind (dCons (dVar 0) (dNil)) (callV 1 m_check_five))) (mRet (mCB dTuple (dCons (M.bind (dCons (dVar 0) (dNil)) (callV 1 m_forceless)) (dNil))))
noncomputable def m_dead_headings : M D := fnB [] 1 0 (asRet m_dead_headingsB)
noncomputable def m_is_wayB : M Fl := mRet (mAnd (M.bind (dCons (dVar 0) (dCons (M.ret (.int 2)) (dNil))) (callV 2 m_are_wholes)) (M.bind (dCons (dVar 0) (dNil)) (callV 1 m_is_reduced)))
noncomputable def m_is_way : M D := fnB [] 1 0 (asRet m_is_wayB)
noncomputable def m_check_courseB : M Fl := mIfS (mNotT (mTest (M.bind (dCons (dVar 0) (dNil)) (callV 1 m_is_way)))) (mNo) (M.ret .nx)
noncomputable def m_check_course : M D := fnB [] 1 0 (asRet m_check_courseB)
noncomputable def m_mixed_rowB : M Fl := mSeq (mOwn 4 (dNil)) (mSeq (mFor (mIter' zip2 (dCons (dVar 0) (dCons (dVar 2) (dNil)))) (gT (gsCons (gN 5) (gsCons (gN 6) (gsNil)))) (mExpr (mApp 4 (M.bind (dCons (M.bind (dCons (mTup (dCons (dVar 1) (dCons (M.ret (.int 1)) (dNil)))) (dCons (dVar 5) (dNil))) (callV 2 m_ratio_product)) (dCons (M.bind (dCons (mTup (dCons (dVar 3) (dCons (M.ret (.int 1)) (dNil)))) (dCons (dVar 6) (dNil))) (callV 2 m_ratio_product)) (dNil))) (callV 2 m_ratio_sum))))) (mRet (mCB dTuple (dCons (dVar 4) (dNil)))))
noncomputable def m_mixed_row : M D := fnB [] 4 3 (asRet m_mixed_rowB)
noncomputable def m_rises_somewhereB : M Fl := mRet (mOp dGt (M.bind (dCons (M.bind (dCons (mOp dIx (dVar 0) (M.ret (.int 0))) (dCons (M.ret (.tup [(.int 1), (.int 1)])) (dCons (M.bind (dCons (mSl (dVar 0) (oSome (M.ret (.int 1))) (oNone)) (dNil)) (callV 1 m_square_length)) (dNil)))) (callV 3 m_surd_from)) (dNil)) (callV 1 m_surd_sign)) (M.ret (.int 0)))
noncomputable def m_rises_somewhere : M D := fnB [] 1 0 (asRet m_rises_somewhereB)
noncomputable def m_showingB : M Fl := mSeq (mAsg (M.bind (dCons (dVar 0) (dNil)) (callV 1 m_ship_rows)) (gT (gsCons (gN 4) (gsCons (gN 5) (gsNil))))) (mSeq (mSet 2 (M.bind (dCons (dVar 4) (dCons (mOp dIx (dVar 1) (M.ret (.int 1))) (dCons (dVar 5) (dCons (mOp dIx (dVar 1) (M.ret (.int 0))) (dNil))))) (callV 4 m_mixed_row))) (mSeq (mSet 3 (M.bind (dCons (dVar 4) (dCons (mOp dIx (dVar 1) (M.ret (.int 0))) (dCons (dVar 5) (dCons (mUn dNeg (mOp dIx (dVar 1) (M.ret (.int 1)))) (dNil))))) (callV 4 m_mixed_row))) (mSeq (mIfS (mTest (M.bind (dCons (dVar 2) (dNil)) (callV 1 m_is_nought_row))) (mRet (mIf (mAndT (mTest (mOp dEq (mOp dIx (dVar 2) (M.ret (.int 0))) (M.ret (.tup [(.int 0), (.int 1)])))) (mTest (M.bind (dCons (dVar 3) (dNil)) (callV 1 m_rises_somewhere)))) (M.ret .non) (mLst (dNil)))) (M.ret .nx)) (mRet (M.bind (dCons (mLst (mLc 7 [6] (mIter (M.bind (dCons (dVar 2) (dNil)) (callV 1 m_points_on))) (gN 6) (mTest (mOp dGt (mMeth "Point" "sign_of_row" (dVar 6) (dCons (dVar 3) (dNil)) 2 m_Point_sign_of_row) (M.ret (.int 0)))) (dVar 6))) (dNil)) (callV 1 m_in_order))))))
noncomputable def m_showing : M D := fnB [] 2 5 (asRet m_showingB)
noncomputable def m_headings_ofB : M Fl := mSeq (mExpr (M.bind (dCons (dVar 0) (dNil)) (callV 1 m_check_five))) (mSeq (mExpr (M.bind (dCons (dVar 1) (dNil)) (callV 1 m_check_course))) (mSeq (mSet 2 (M.bind (dCons (dVar 0) (dCons (dVar 1) (dNil))) (callV 2 m_showing))) (mRet (mIf (mTest (mOp dIs (dVar 2) (M.ret .non))) (M.ret .non) (mCB dTuple (dCons (dVar 2) (dNil)))))))
noncomputable def m_headings_of : M D := fnB [] 2 1 (asRet m_headings_ofB)
noncomputable def m_is_headingB : M Fl := mRet (M.bind (dCons (dVar 0) (dNil)) (callV 1 m_is_unit))
noncomputable def m_is_heading : M D := fnB [] 1 0 (asRet m_is_headingB)
noncomputable def m_law_right_v49B : M Fl := mSeq (mPar 2 3 (dCons (mOwned 0 (M.bind (dNil) (callO 1 m_law_kind_five 0))) (dCons (mOwned 0 (M.bind (dNil) (callO 1 m_law_some_heading 0))) (dNil)))) (mSeq (mFor (mIter (mLst (dCons (dVar 3) (dCons (M.bind (dCons (dVar 3) (dCons (mTup (dCons (mTup (dCons (M.ret (.int 0)) (dCons (M.ret (.int 1)) (dNil)))) (dCons (mTup (dCons (M.ret (.int 1)) (dCons (M.ret (.int 1)) (dNil)))) (dNil)))) (dNil))) (callV 2 m_turned)) (dCons (M.bind (dCons (dVar 3) (dCons (mTup (dCons (mTup (dCons (mUn dNeg (M.ret (.int 3))) (dCons (M.ret (.int 5)) (dNil)))) (dCons (mTup (dCons (M.ret (.int 4)) (dCons (M.ret (.int 5)) (dNil)))) (dNil)))) (dNil))) (callV 2 m_turned)) (dNil)))))) (gN 1) (mSeq (mPar 4 5 (dCons (M.bind (dCons (dVar 1) (dCons (dVar 2) (dNil))) fun es => callK 2 0 2 [1, 0] m_course_at [] es) (dCons (M.bind (dCons (dVar 1) (dNil)) (callV 1 m_law_as_surds)) (dNil)))) (mSeq (mIfS (mTest (mOp dNe (mCB dRepr (dCons (dVar 4) (dNil))) (mCB dRepr (dCons (M.bind (dCons (dVar 2) (dCons (dVar 1) (dNil))) (callV 2 m_law_shown)) (dNil))))) (mRet (M.ret (.bl false))) (M.ret .nx)) (mIfS (mTest (mOp dIs (dVar 4) (M.ret .non))) (mIfS (mTest (mOp dNotInT (dVar 5) (M.bind (dCons (dVar 2) (dNil)) fun es => callK 1 0 1 [0] m_dead_headings [] es))) (mRet (M.ret (.bl false))) (M.ret .nx)) (mSeq (mSet 6 (M.bind (dCons (dVar 4) (dCons (dVar 2) (dNil))) fun es => callK 2 0 2 [1, 0] m_headings_of [] es)) (mSeq (mSet 7 (M.bind (dCons (dVar 2) (dCons (mTup (dCons (mOp dSub (M.ret (.int 0)) (mOp dIx (dVar 4) (M.ret (.int 0)))) (dCons (mOp dSub (M.ret (.int 0)) (mOp dIx (dVar 4) (M.ret (.int 1)))) (dNil)))) (dNil))) (callV 2 m_headings_of))) (mSeq (mIfS (mOrT (mAndT (mTest (mOp dIsNot (dVar 6) (M.ret .non))) (mTest (mOp dNotInT (dVar 5) (dVar 6)))) (mAndT (mTest (mOp dIsNot (dVar 7) (M.ret .non))) (mTest (mOp dInT (dVar 5) (dVar 7))))) (mRet (M.ret (.bl false))) (M.ret .nx)) (mFor (mIter (mIf (mTest (mOp dIsNot (dVar 6) (M.ret .non))) (dVar 6) (mTup (dNil)))) (gT (gsCons (gN 8) (gsCons (gN 9) (gsNil)))) (mIfS (mAndT (mTest (mOp dEq (mOp dIx (dVar 8) (M.ret (.int 1))) (M.ret (.int 0)))) (mTest (mOp dEq (mOp dIx (dVar 9) (M.ret (.int 1))) (M.ret (.int 0))))) (mIfS (mOrT (mTest (mOp dIsNot (M.bind (dCons (mTup (dCons (mOp dIx (dVar 8) (M.ret (.int 0))) (dCons (mOp dIx (dVar 9) (M.ret (.int 0))) (dNil)))) (dNil)) (callV 1 m_is_heading)) (M.ret (.bl true)))) (mTest (mOp dNe (M.bind (dCons (dVar 2) (dCons (mTup (dCons (mOp dIx (dVar 8) (M.ret (.int 0))) (dCons (mOp dIx (dVar 9) (M.ret (.int 0))) (dNil)))) (dNil))) (callV 2 m_course_at)) (dVar 4)))) (mRet (M.ret (.bl false))) (M.ret .nx)) (M.ret .nx)))))))))) (mRet (M.ret (.bl true))))
noncomputable def m_law_right_v49 : M D := fnB [0] 1 9 (asRet m_law_right_v49B)
noncomputable def mN_law_lodeB : M Fl := mSeq (mSet 2 (mIf (mTest (mOp dLt (dVar 1) (mCB dLen (dCons (dVar 0) (dNil))))) (mCB dInt (dCons (mOp dIx (dVar 0) (dVar 1)) (dNil))) (mOp dAdd (mOp dAdd (mOp dMul (M.ret (.int 6113)) (dVar 1)) (M.ret (.int 41))) (mOp dMod (mCB dInt (dCons (mCB dSum (dCons (mSl (dVar 0) (oNone) (oSome (M.ret (.int 5)))) (dNil))) (dNil))) (M.ret (.int 1000133)))))) (mSeq (mSet 3 (mOp dAdd (M.ret (.int 27191)) (mOp dMul (M.ret (.int 1409)) (dVar 1)))) (mSeq (mFor (mIter (mOp dAdd (mSl (dVar 0) (oNone) (oSome (M.ret (.int 11)))) (mLst (dCons (dVar 2) (dNil))))) (gN 4) (mSet 3 (mOp dMod (mCB dInt (dCons (mOp dAdd (mOp dAdd (mOp dMul (dVar 3) (M.ret (.int 39373))) (mOp dMod (mCB dInt (dCons (dVar 4) (dNil))) (M.ret (.int 2147483477)))) (M.ret (.int 17))) (dNil))) (M.ret (.int 2147483477))))) (mRetO (dCons (mIf (mOrT (mTest (mOp dLt (dVar 2) (M.ret (.int 0)))) (mTest (mOp dGe (dVar 2) (mOp dPow (M.ret (.int 10)) (M.ret (.int 18)))))) (mCB dAbs (dCons (dVar 2) (dNil))) (M.ret (.int 0))) (dCons (dVar 3) (dCons (M.ret (.int 0)) (dNil)))))))
noncomputable def mN_law_lode : M (List D) := fnB [] 2 3 (asRetO mN_law_lodeB)
noncomputable def m_law_v49B : M Fl := mRet (mCB dAll (dCons (mLst (mLc 2 [1] (mIter' rng1 (dCons (mCB dMax (dCons (M.ret (.int 2)) (dCons (mCB dMin (dCons (mCB dLen (dCons (dVar 0) (dNil))) (dCons (M.ret (.int 3)) (dNil)))) (dNil)))) (dNil))) (gN 1) (M.ret true) (M.bind (M.bind (dCons (dVar 0) (dCons (dVar 1) (dNil))) (callL 2 mN_law_lode)) (callN 1 m_law_right_v49)))) (dNil)))
noncomputable def m_law_v49 : M D := fnB [] 1 1 (asRet m_law_v49B)
end PV
namespace PB
open PV PySem PySem.Spec L2
local macro_rules | `(tactic| simp! [$as,*]) => `(tactic| try simp (maxSteps := 2000000) (disch := first | decide +kernel | assumption | omega) only [↓stuck_O, ↓stuck_W, ↓wp_ret, ↓wp_bind, ↓wp_lift, ↓wp_op, ↓wp_un, ↓wp_cb, ↓wp_test, ↓ow_asB, ↓wp_if, ↓wp_and, ↓wp_or, ↓wp_not, ↓wp_andT, ↓wp_orT,
  ↓wp_notT, ↓wp_chain, ↓wp_nil, ↓wp_cons, ↓wp_tup, ↓wp_lst, ↓wp_oNone, ↓wp_oSome, ↓wp_sl, ↓wp_seq, ↓flw_nx, ↓flw_bk, ↓flw_ct, ↓flw_rt,
  ↓flw_ro, ↓hp_set, ↓hp_own, ↓wp_rett, ↓wp_retO, ↓wp_expr, ↓wp_ifS, ↓wp_asg, ↓l2w_mk, ↓l3w_mk, ↓hp_iNil, ↓hp_ei, ↓eiw_own, ↓eiw_val, ↓hp_iD, ↓hp_iN, ↓i2w_mk, ↓i3w_mk, ↓hp_j2, ↓hp_j3, ↓setw_d, ↓setw_n, ↓hp_listN, ↓ow_bits, ↓ow_repT5, ↓hp_par, ↓hp_par3, ↓hp_gN, ↓wp_gsNil,
  ↓wp_gsCons, ↓wp_gT, ↓wp_gTl, ↓hp_owned, ↓hp_at, ↓hp_ixO, ↓hp_lenO, ↓hp_gSub, ↓hp_app, ↓wp_iter, ↓wp_iter', ↓wp_for, ↓turnw_nx, ↓turnw_ct, ↓turnw_bk,
  ↓turnw_rt, ↓turnw_ro, ↓wp_callK, ↓retw_rt, ↓retw_nx, ↓retOw_ro, ↓ohn_mk, ↓hv0, ↓ho0, ↓hs0, ↓hr0, ↓hv1, ↓ho1, ↓hs1,
  ↓hr1, ↓hv2, ↓ho2, ↓hs2, ↓hr2, ↓hv3, ↓ho3, ↓hs3, ↓hr3, ↓hv4, ↓ho4, ↓hs4, ↓hr4, ↓hv5,
  ↓ho5, ↓hs5, ↓hr5, ↓hv6, ↓ho6, ↓hs6, ↓hr6, ↓hv7, ↓ho7, ↓hs7, ↓hr7, ↓hv8, ↓ho8, ↓hs8,
  ↓hr8, ↓hv9, ↓ho9, ↓hs9, ↓hr9, ↓hv10, ↓ho10, ↓hs10, ↓hr10, ↓hv11, ↓ho11, ↓hs11, ↓hr11, ↓hv12,
  ↓ho12, ↓hs12, ↓hr12, ↓hv13, ↓ho13, ↓hs13, ↓hr13, ↓hv14, ↓ho14, ↓hs14, ↓hr14, ↓hv15, ↓ho15, ↓hs15,
  ↓hr15, ↓hv16, ↓ho16, ↓hs16, ↓hr16, ↓hv17, ↓ho17, ↓hs17, ↓hr17, ↓hv18, ↓ho18, ↓hs18, ↓hr18, ↓hv19,
  ↓ho19, ↓hs19, ↓hr19, ↓hv20, ↓ho20, ↓hs20, ↓hr20, ↓hv21, ↓ho21, ↓hs21, ↓hr21, ↓hv22, ↓ho22, ↓hs22,
  ↓hr22, ↓hv23, ↓ho23, ↓hs23, ↓hr23, ↓hv24, ↓ho24, ↓hs24, ↓hr24, ↓hv25, ↓ho25, ↓hs25, ↓hr25, ↓hv26,
  ↓ho26, ↓hs26, ↓hr26, ↓hv27, ↓ho27, ↓hs27, ↓hr27, ↓ow_zip_tup, ↓ow_zip_lst, ↓ow_pow', ↓ow_add, ↓ow_sub, ↓ow_neg, ↓ow_mul, ↓ow_div, ↓ow_mod, ↓ow_lt,
  ↓ow_le, ↓ow_gt, ↓ow_ge, ↓ow_isNon, ↓ow_isNotNon, ↓ow_isBl, ↓ow_isNotBl, ↓ow_items_tup, ↓ow_items_lst, ↓ow_items_R, ↓ow_len_tup, ↓ow_len_lst, ↓ow_len_fz, ↓ow_len_R,
  ↓ow_abs, ↓ow_min, ↓ow_max, ↓ow_int, ↓ow_divmod, ↓ow_gcd, ↓ow_tuple_lst, ↓ow_tuple_tup, ↓ow_list_lst, ↓ow_list_tup, ↓ow_all, ↓ow_all0, ↓ow_all1, ↓ow_all2,
  ↓ow_all3, ↓ow_all4, ↓ow_all5, ↓ow_any0, ↓ow_any1, ↓ow_any2, ↓ow_any3, ↓ow_eq_str, ↓ow_ne_str, ↓ow_some, ↓ow_sum, ↓ow_setAt0, ↓ow_setAt1, ↓ow_setAt2, ↓ow_setAt3, ↓ow_setAt4, ↓ow_setAt5, ↓ow_R0, ↓ow_R1, ↓ow_ix_tup0,
  ↓ow_ix_tup1, ↓ow_ix_tup2, ↓ow_ix_tup3, ↓ow_ix_tup4, ↓ow_ix_tup5, ↓ow_ix_lst0, ↓ow_ix_lst1, ↓ow_ix_lst2, ↓ow_ix_lst3, ↓ow_ix_lst4, ↓ow_ix_lst5, ↓isi_tt, ↓isi_it, ↓isi_bt,
  ↓isi_ti, ↓isi_ii, ↓isi_bi, ↓isi_tn, ↓isi_in, ↓isi_bn, ↓isi_tl, ↓isi_il, ↓isi_bl, ↓isi_tb, ↓isi_ib, ↓isi_bb, ↓isi_ts, ↓isi_is,
  ↓isi_bs, ↓isi_tR, ↓isi_iR, ↓isi_bR, ↓ex_int, wp_var, slw_val, slw_own, wp_put, ownw_mk, isNon_non, isNon_int, isNon_bl, isNon_tup,
  isNon_lst, isNon_str, isNon_R, pairs_cons, pairs_nil, pk_some, pick_nil, pick_cons, kwOf_eq, eqD_int, eqD_bl, eqD_non, eqD_str, eqD_non_tup, eqD_tup_non, eqD_non_int,
  eqD_int_non, eqD_int_tup, eqD_tup_int, eqD_tup0, eqD_tup01, eqD_tup10, eqD_tup1, eqD_lst0, eqD_lst01, eqD_lst10, eqD_lst1, eqD_R, eqD_R_non, eqD_non_R,
  List.getElem?_cons_zero, List.getElem?_cons_succ, List.getElem?_nil, List.set_cons_zero, List.set_cons_succ, List.length_cons, List.length_nil, List.map_cons, List.map_nil, List.cons_append, List.nil_append, List.append_nil, List.replicate_succ, List.replicate_zero,
  List.length_set, Nat.reduceAdd, Nat.reduceLeDiff, Nat.reduceEqDiff, Nat.zero_lt_succ, Nat.reduceSub, Nat.le_refl, Nat.zero_add, Nat.lt_add_one, Nat.zero_le, Nat.le_add_left, Nat.reduceLT, Int.reducePow, Int.reduceNeg, Int.reduceLE,
  Int.reduceLT, Int.reduceToNat, List.flatten_cons, List.flatten_nil, Int.cast_ofNat_Int, Bool.true_eq_false, reduceCtorEq, true_and, and_true, if_true, if_false, decide_true, decide_false, decide_eq_true_eq,
  Bool.true_and, Bool.and_true, Bool.false_and, Bool.and_false, Bool.not_true, Bool.not_false, Bool.false_eq_true, ↓reduceIte, and_self, Bool.not_eq_true', decide_eq_false_iff_not, $as,*])

theorem _root_.PV.Bd.d' {b : Nat} {q : Rat} (h : Bd b q) : ((q.den : Int)).natAbs < 2 ^ b := by rw [Int.natAbs_natCast]; exact h.d
theorem den_ne (q : Rat) : (q.den : Int) ≠ 0 := by have := q.den_pos; omega
theorem den_gt (q : Rat) : (0 : Int) < q.den := by have := q.den_pos; omega
theorem dens_ne (p q : Rat) : (p.den : Int) * q.den ≠ 0 := Int.mul_ne_zero (den_ne p) (den_ne q)
theorem mul_ab {i j : Int} {a b : Nat} (h1 : i.natAbs < 2 ^ a) (h2 : j.natAbs < 2 ^ b) : (i * j).natAbs < 2 ^ (a + b) := by rw [Int.natAbs_mul]; exact mul_lt2 h1 h2
theorem gcd_le_right' {n m : Int} {b : Nat} (hm : m ≠ 0) (h : m.natAbs < 2 ^ b) : Int.gcd n m < 2 ^ b := Nat.lt_of_le_of_lt (Nat.le_of_dvd (by omega) (Nat.gcd_dvd_right ..)) h
theorem sp_divisor_of2 {n m : Int} {ρ : En} {Q : D → En → Prop} : wp (callV 1 m_divisor_of [.tup [.int n, .int m]]) ρ Q ↔ Q (.int (Int.gcd n m : Int)) ρ := by
  unfold m_divisor_of m_divisor_ofB
  rw [wp_V]
  simp! [↓wp_loop1, ↓wp_loop0, Int.natAbs_zero, Nat.gcd_zero_left, Int.natAbs_natCast]
  rfl
theorem sp_divisor_of2R {q : Rat} {ρ : En} {Q : D → En → Prop} : wp (callV 1 m_divisor_of [Fr q]) ρ Q ↔ Q (.int 1) ρ := by
  have h : Int.gcd q.num q.den = 1 := by
    have := q.reduced
    unfold Nat.Coprime at this
    rw [Int.gcd_eq_natAbs_gcd_natAbs, Int.natAbs_natCast]; exact this
  have e := sp_divisor_of2 (n := q.num) (m := q.den) (ρ := ρ) (Q := Q)
  rw [h] at e
  exact e
theorem sp_ratio {n m : Int} {b : Nat} {ρ : En} {Q : D → En → Prop} (hm : m ≠ 0) (h2 : m.natAbs < 2 ^ b) (hb : b ≤ 9000) : wp (callV 2 m_ratio [.int n, .int m]) ρ Q ↔ Q (Fr (Rat.divInt n m)) ρ := by
  apply wp_eq
  unfold m_ratio m_ratioB
  rw [wp_V]
  simp! [↓sp_divisor_of2]
  have hg : Int.gcd n m < 2 ^ b := gcd_le_right' hm h2
  have hg0 : 0 < Int.gcd n m := Int.gcd_pos_of_ne_zero_right n hm
  have e := divInt_R (n := n) hm
  split
  · rename_i hp
    rw [if_pos hp] at e
    have k : divOk (Int.gcd n m : Int) = true := divOk_of (by omega) (by rw [Int.natAbs_natCast]; exact hg) hb
    exact ⟨k, k, e⟩
  · rename_i hp
    rw [if_neg hp] at e
    have k : divOk (-(Int.gcd n m : Int)) = true := divOk_of (by omega) (by rw [Int.natAbs_neg, Int.natAbs_natCast]; exact hg) hb
    exact ⟨k, k, e⟩
theorem sp_ratio_sum {p q : Rat} {a b : Nat} {ρ : En} {Q : D → En → Prop} [h1 : Bd a p] [h2 : Bd b q] (h : a + b ≤ 8000) : wp (callV 2 m_ratio_sum [Fr p, Fr q]) ρ Q ↔ Q (Fr (p + q)) ρ := by
  apply wp_eq
  unfold m_ratio_sum m_ratio_sumB
  rw [wp_V]
  simp! []
  refine ⟨mulOk_of h1.n h2.d' (by omega), mulOk_of h2.n h1.d' (by omega), mulOk_of h1.d' h2.d' (by omega), ?_⟩
  rw [sp_ratio (dens_ne p q) (mul_ab h1.d' h2.d') (by omega), add_divInt]
  try simp! []
theorem sp_ratio_less {p q : Rat} {a b : Nat} {ρ : En} {Q : D → En → Prop} [h1 : Bd a p] [h2 : Bd b q] (h : a + b ≤ 8000) : wp (callV 2 m_ratio_less [Fr p, Fr q]) ρ Q ↔ Q (Fr (p - q)) ρ := by
  apply wp_eq
  unfold m_ratio_less m_ratio_lessB
  rw [wp_V]
  simp! []
  refine ⟨mulOk_of h1.n h2.d' (by omega), mulOk_of h2.n h1.d' (by omega), mulOk_of h1.d' h2.d' (by omega), ?_⟩
  rw [sp_ratio (dens_ne p q) (mul_ab h1.d' h2.d') (by omega), sub_divInt]
  simp! []
theorem sp_ratio_product {p q : Rat} {a b : Nat} {ρ : En} {Q : D → En → Prop} [h1 : Bd a p] [h2 : Bd b q] (h : a + b ≤ 8000) : wp (callV 2 m_ratio_product [Fr p, Fr q]) ρ Q ↔ Q (Fr (p * q)) ρ := by
  apply wp_eq
  unfold m_ratio_product m_ratio_productB
  rw [wp_V]
  simp! []
  refine ⟨mulOk_of h1.n h2.n (by omega), mulOk_of h1.d' h2.d' (by omega), ?_⟩
  rw [sp_ratio (dens_ne p q) (mul_ab h1.d' h2.d') (by omega), mul_divInt]
  simp! []
theorem sp_ratio_over {p q : Rat} {a b : Nat} {ρ : En} {Q : D → En → Prop} [h1 : Bd a p] [h2 : Bd b q] (hq : q ≠ 0) (h : a + b ≤ 8000) : wp (callV 2 m_ratio_over [Fr p, Fr q]) ρ Q ↔ Q (Fr (p / q)) ρ := by
  apply wp_eq
  unfold m_ratio_over m_ratio_overB
  rw [wp_V]
  simp! []
  refine ⟨mulOk_of h1.n h2.d' (by omega), mulOk_of h1.d' h2.n (by omega), ?_⟩
  rw [sp_ratio (Int.mul_ne_zero (den_ne p) (num_ne hq)) (mul_ab h1.d' h2.n) (by omega), div_divInt]
  simp! []
theorem sp_ratio_back {p : Rat} {ρ : En} {Q : D → En → Prop} : wp (callV 1 m_ratio_back [Fr p]) ρ Q ↔ Q (Fr (-p)) ρ := by
  apply wp_eq
  unfold m_ratio_back m_ratio_backB
  rw [wp_V]
  simp! []
  rfl
theorem sp_is_whole_int {n : Int} {ρ : En} {Q : D → En → Prop} : wp (callV 1 m_is_whole [.int n]) ρ Q ↔ Q (.bl true) ρ := by
  apply wp_eq
  unfold m_is_whole m_is_wholeB
  rw [wp_V]
  simp! []
theorem sp_are_wholesR {q : Rat} {ρ : En} {Q : D → En → Prop} : wp (callV 2 m_are_wholes [Fr q, .int 2]) ρ Q ↔ Q (.bl true) ρ := by
  apply wp_eq
  unfold m_are_wholes m_are_wholesB
  rw [wp_V]
  simp! [↓ow_eq, ↓wp_lc, ↓wp_lc1, ↓wp_lc0, wipeE, isOwn, List.all_cons, List.all_nil, ↓sp_is_whole_int, Nat.reduceLeDiff]
theorem sp_is_reducedR {q : Rat} {ρ : En} {Q : D → En → Prop} : wp (callV 1 m_is_reduced [Fr q]) ρ Q ↔ Q (.bl true) ρ := by
  apply wp_eq
  unfold m_is_reduced m_is_reducedB
  rw [wp_V]
  simp! [↓ow_eq, ↓sp_divisor_of2R]
theorem sp_is_ratioR {q : Rat} {ρ : En} {Q : D → En → Prop} : wp (callV 1 m_is_ratio [Fr q]) ρ Q ↔ Q (.bl true) ρ := by
  apply wp_eq
  unfold m_is_ratio m_is_ratioB
  rw [wp_V]
  simp! [↓sp_are_wholesR, ↓sp_is_reducedR, den_gt]
theorem sp_gauss_product {a1 a2 b1 b2 : Rat} {k1 k2 k3 k4 : Nat} {ρ : En} {Q : D → En → Prop} [Bd k1 a1] [Bd k2 a2] [Bd k3 b1] [Bd k4 b2] (h : k1 + k2 + k3 + k4 ≤ 4000) :
    wp (callV 2 m_gauss_product [.tup [Fr a1, Fr a2], .tup [Fr b1, Fr b2]]) ρ Q ↔ Q (.tup [Fr (a1 * b1 - a2 * b2), Fr (a1 * b2 + a2 * b1)]) ρ := by
  apply wp_eq
  unfold m_gauss_product m_gauss_productB
  rw [wp_V]
  try simp! []
  rw [sp_ratio_product (by omega)]
  try simp! []
  rw [sp_ratio_product (by omega)]
  try simp! []
  rw [sp_ratio_less (by omega)]
  try simp! []
  rw [sp_ratio_product (by omega)]
  try simp! []
  rw [sp_ratio_product (by omega)]
  try simp! []
  rw [sp_ratio_sum (by omega)]
  try simp! []
theorem sp_square_length {a1 a2 : Rat} {k1 k2 : Nat} {ρ : En} {Q : D → En → Prop} [Bd k1 a1] [Bd k2 a2] (h : k1 + k2 ≤ 2000) :
    wp (callV 1 m_square_length [.tup [Fr a1, Fr a2]]) ρ Q ↔ Q (Fr (a1 * a1 + a2 * a2)) ρ := by
  apply wp_eq
  unfold m_square_length m_square_lengthB
  rw [wp_V]
  try simp! []
  rw [sp_ratio_product (by omega)]
  try simp! []
  rw [sp_ratio_product (by omega)]
  try simp! []
  rw [sp_ratio_sum (by omega)]
  try simp! []
theorem sp_is_pair {a1 a2 : Rat} {ρ : En} {Q : D → En → Prop} : wp (callV 1 m_is_pair [.tup [Fr a1, Fr a2]]) ρ Q ↔ Q (.bl true) ρ := by
  apply wp_eq
  unfold m_is_pair m_is_pairB
  rw [wp_V]
  simp! [↓ow_eq, ↓sp_is_ratioR]
theorem sp_is_unit {a1 a2 : Rat} {k1 k2 : Nat} {ρ : En} {Q : D → En → Prop} [Bd k1 a1] [Bd k2 a2] (h : k1 + k2 ≤ 2000) : wp (callV 1 m_is_unit [.tup [Fr a1, Fr a2]]) ρ Q ↔ Q (.bl (decide (a1 * a1 + a2 * a2 = 1))) ρ := by
  apply wp_eq
  unfold m_is_unit m_is_unitB
  rw [wp_V]
  simp! [↓sp_is_pair, ↓sp_square_length h, R_one, ↓ow_eq]
theorem sp_check_heading {a1 a2 : Rat} {k1 k2 : Nat} {ρ : En} {Q : D → En → Prop} [Bd k1 a1] [Bd k2 a2] (h : k1 + k2 ≤ 2000) (h1 : a1 * a1 + a2 * a2 = 1) : wp (callV 1 m_check_heading [.tup [Fr a1, Fr a2]]) ρ Q ↔ Q .non ρ := by
  apply wp_eq
  unfold m_check_heading m_check_headingB
  rw [wp_V]
  simp! [↓sp_is_unit h, h1]
theorem sq_pos (u : Rat) : 1 + u * u ≠ 0 := by
  have h : (0 : Rat) ≤ u * u := by
    rcases Rat.nonneg_total u with h | h
    · exact Rat.mul_nonneg h h
    · have := Rat.mul_nonneg h h
      rwa [Rat.neg_mul, Rat.mul_neg, Rat.neg_neg] at this
  grind
theorem sp_both_turned {a1 a2 b1 b2 : Rat} {k1 k2 k3 k4 : Nat} {ρ : En} {Q : D → En → Prop} [Bd k1 a1] [Bd k2 a2] [Bd k3 b1] [Bd k4 b2] (h : k1 + k2 + k3 + k4 ≤ 4000) :
    wp (callV 2 m_both_turned [.tup [Fr a1, Fr a2], .tup [Fr b1, Fr b2]]) ρ Q ↔ Q (.tup [Fr (a1 * b1 - a2 * b2), Fr (a1 * b2 + a2 * b1)]) ρ := by
  apply wp_eq
  unfold m_both_turned m_both_turnedB
  rw [wp_V]
  simp! [↓sp_gauss_product h]
theorem sp_turned {a1 a2 b1 b2 : Rat} {k1 k2 k3 k4 : Nat} {ρ : En} {Q : D → En → Prop} [Bd k1 a1] [Bd k2 a2] [Bd k3 b1] [Bd k4 b2] (h : k1 + k2 + k3 + k4 ≤ 2000) (ha : a1 * a1 + a2 * a2 = 1) (hb : b1 * b1 + b2 * b2 = 1) :
    wp (callV 2 m_turned [.tup [Fr a1, Fr a2], .tup [Fr b1, Fr b2]]) ρ Q ↔ Q (.tup [Fr (a1 * b1 - a2 * b2), Fr (a1 * b2 + a2 * b1)]) ρ := by
  apply wp_eq
  unfold m_turned m_turnedB
  rw [wp_V]
  simp! [↓sp_check_heading (show k1 + k2 ≤ 2000 by omega) ha, ↓sp_check_heading (show k3 + k4 ≤ 2000 by omega) hb, ↓sp_both_turned (show k1 + k2 + k3 + k4 ≤ 4000 by omega)]
theorem gcd_turn (a b : Nat) (h : 0 < b) : Nat.gcd b (a % b) = Nat.gcd a b := by
  rw [Nat.gcd_comm b, ← Nat.gcd_rec, Nat.gcd_comm]
theorem sp_law_gcd {n m : Int} {ρ : En} {Q : D → En → Prop} : wp (callV 2 m_law_gcd [.int n, .int m]) ρ Q ↔ Q (.int (Int.gcd n m : Int)) ρ := by
  apply wp_eq
  unfold m_law_gcd m_law_gcdB
  rw [wp_V]
  simp! []
  refine wp_while (fun k r => ∃ a b : Nat, r = [.val (.int a), .val (.int b)] ∧ Nat.gcd a b = Int.gcd n m ∧ k = b) ?_ (n := m.natAbs) ⟨_, _, rfl, rfl, rfl⟩
  rintro k r ⟨a, b, rfl, hg, rfl⟩
  simp! []
  split
  · rename_i hb
    have hb' : 0 < k := by omega
    refine ⟨by omega, a % k, Nat.mod_lt _ hb', k, a % k, ?_, ?_, rfl⟩
    · rw [Int.fmod_eq_emod_of_nonneg _ (by omega)]
      rfl
    · rw [gcd_turn a k hb']; exact hg
  · rename_i hb
    have hb' : k = 0 := by omega
    subst hb'
    rw [Nat.gcd_zero_right] at hg
    simp! [hg]
theorem sp_law_low2 {n m : Int} {b : Nat} {ρ : En} {Q : D → En → Prop} (hm : m ≠ 0) (h2 : m.natAbs < 2 ^ b) (hb : b ≤ 9000) : wp (callV 1 m_law_low [.tup [.int n, .int m]]) ρ Q ↔ Q (.tup [.int (n.fdiv (Int.gcd n m : Int)), .int (m.fdiv (Int.gcd n m : Int))]) ρ := by
  apply wp_eq
  unfold m_law_low m_law_lowB
  rw [wp_V]
  have hg : Int.gcd n m < 2 ^ b := gcd_le_right' hm h2
  have hg0 : 0 < Int.gcd n m := Int.gcd_pos_of_ne_zero_right n hm
  have k : divOk (Int.gcd n m : Int) = true := divOk_of (by omega) (by rw [Int.natAbs_natCast]; exact hg) hb
  have e : Int.gcd (Int.gcd 0 n : Int) m = Int.gcd n m := by simp [Int.gcd]
  simp! [↓wp_loop1, ↓wp_loop0, ↓sp_law_gcd, ↓wp_lc, ↓wp_lc1, ↓wp_lc0, wipeE, isOwn, List.all_cons, List.all_nil, e, k, Nat.reduceLeDiff]
theorem sp_law_part {n m : Int} {b : Nat} {ρ : En} {Q : D → En → Prop} (hm : m ≠ 0) (h2 : m.natAbs < 2 ^ b) (hb : b ≤ 9000) : wp (callV 2 m_law_part [.int n, .int m]) ρ Q ↔ Q (Fr (Rat.divInt n m)) ρ := by
  apply wp_eq
  unfold m_law_part m_law_partB
  rw [wp_V]
  simp! []
  have e := divInt_R (n := n) hm
  split
  · rename_i hp
    rw [if_pos hp] at e
    rw [sp_law_low2 hm h2 hb, e]
    simp! []
  · rename_i hp
    rw [if_neg hp] at e
    have s1 : (0 : Int) - n = -n := Int.zero_sub n
    have s2 : (0 : Int) - m = -m := Int.zero_sub m
    rw [s1, s2, sp_law_low2 (b := b) (by omega) (by rw [Int.natAbs_neg]; exact h2) hb]
    have g : Int.gcd (-n) (-m) = Int.gcd n m := by rw [Int.neg_gcd, Int.gcd_neg]
    have f : ∀ x y : Int, (-x).fdiv y = x.fdiv (-y) := fun x y => by rw [← Int.neg_fdiv_neg x (-y), Int.neg_neg]
    rw [g, f, f, e]
    simp! []
theorem sp_law_add {p q : Rat} {a b : Nat} {ρ : En} {Q : D → En → Prop} [h1 : Bd a p] [h2 : Bd b q] (h : a + b ≤ 8000) : wp (callV 2 m_law_add [Fr p, Fr q]) ρ Q ↔ Q (Fr (p + q)) ρ := by
  apply wp_eq
  unfold m_law_add m_law_addB
  rw [wp_V]
  simp! []
  refine ⟨mulOk_of h1.n h2.d' (by omega), mulOk_of h2.n h1.d' (by omega), mulOk_of h1.d' h2.d' (by omega), ?_⟩
  rw [sp_law_part (dens_ne p q) (mul_ab h1.d' h2.d') (by omega), add_divInt]
  try simp! []
theorem sp_law_gap {p q : Rat} {a b : Nat} {ρ : En} {Q : D → En → Prop} [h1 : Bd a p] [h2 : Bd b q] (h : a + b ≤ 8000) : wp (callV 2 m_law_gap [Fr p, Fr q]) ρ Q ↔ Q (Fr (p - q)) ρ := by
  apply wp_eq
  unfold m_law_gap m_law_gapB
  rw [wp_V]
  simp! []
  refine ⟨mulOk_of h1.n h2.d' (by omega), mulOk_of h2.n h1.d' (by omega), mulOk_of h1.d' h2.d' (by omega), ?_⟩
  rw [sp_law_part (dens_ne p q) (mul_ab h1.d' h2.d') (by omega), sub_divInt]
  try simp! []
theorem sp_law_mul {p q : Rat} {a b : Nat} {ρ : En} {Q : D → En → Prop} [h1 : Bd a p] [h2 : Bd b q] (h : a + b ≤ 8000) : wp (callV 2 m_law_mul [Fr p, Fr q]) ρ Q ↔ Q (Fr (p * q)) ρ := by
  apply wp_eq
  unfold m_law_mul m_law_mulB
  rw [wp_V]
  simp! []
  refine ⟨mulOk_of h1.n h2.n (by omega), mulOk_of h1.d' h2.d' (by omega), ?_⟩
  rw [sp_law_part (dens_ne p q) (mul_ab h1.d' h2.d') (by omega), mul_divInt]
  try simp! []
theorem sp_law_div {p q : Rat} {a b : Nat} {ρ : En} {Q : D → En → Prop} [h1 : Bd a p] [h2 : Bd b q] (hq : q ≠ 0) (h : a + b ≤ 8000) : wp (callV 2 m_law_div [Fr p, Fr q]) ρ Q ↔ Q (Fr (p / q)) ρ := by
  apply wp_eq
  unfold m_law_div m_law_divB
  rw [wp_V]
  simp! []
  refine ⟨mulOk_of h1.n h2.d' (by omega), mulOk_of h1.d' h2.n (by omega), ?_⟩
  rw [sp_law_part (Int.mul_ne_zero (den_ne p) (num_ne hq)) (mul_ab h1.d' h2.n) (by omega), div_divInt]
  try simp! []
theorem sp_law_back {p : Rat} {ρ : En} {Q : D → En → Prop} : wp (callV 1 m_law_back [Fr p]) ρ Q ↔ Q (Fr (-p)) ρ := by
  apply wp_eq
  unfold m_law_back m_law_backB
  rw [wp_V]
  simp! [Int.zero_sub]
  rfl
def Lode (n : Nat) (L : List D) : Prop := ∃ c s k : Int, L = [.int c, .int s, .int k] ∧ 0 ≤ c ∧ 0 ≤ s ∧ s < 2147483477 ∧ 0 ≤ k ∧ k + n ≤ 18446744073709551616
theorem Lode.mono {n m : Nat} {L : List D} (h : Lode n L) (l : m ≤ n) : Lode m L := by
  obtain ⟨c, s, k, e, h1, h2, h3, h4, h5⟩ := h
  exact ⟨c, s, k, e, h1, h2, h3, h4, by omega⟩
theorem natAbs_lt_pow {x : Int} {b : Nat} (h1 : -(2 ^ b : Int) < x) (h2 : x < 2 ^ b) : x.natAbs < 2 ^ b := by
  have : ((2 ^ b : Nat) : Int) = (2 : Int) ^ b := by rw [Int.natCast_pow]; rfl
  omega
theorem divOk_lit {j : Int} (h0 : 0 < j) (h : j < 18446744073709551616) : divOk j = true := divOk_of (a := 64) (by omega) (natAbs_lt_pow (by omega) (by omega)) (by decide)
theorem mulOk_lit {i j : Int} (h1 : -18446744073709551617 < i) (h2 : i < 18446744073709551617) (h3 : -18446744073709551617 < j) (h4 : j < 18446744073709551617) : mulOk i j = true := mulOk_of (a := 65) (b := 65) (natAbs_lt_pow (by omega) (by omega)) (natAbs_lt_pow (by omega) (by omega)) (by decide)
theorem log2_lit {j : Int} (h0 : 0 < j) (h : j < 18446744073709551616) : j.natAbs.log2 < 9000 := by
  have h1 : j.natAbs < 2 ^ 64 := by omega
  have := (Nat.log2_lt (n := j.natAbs) (by omega)).mpr h1
  omega
theorem sp_law_deal {i n : Nat} {L : List D} {m : Int} {ρ : En} {Q : D → En → Prop} (e : ρ[i]? = some (.own L)) (hL : Lode (n + 1) L) (hm : 1 ≤ m) (hm2 : m < 18446744073709551616)
    (hQ : ∀ (d : Int) (L' : List D), 0 ≤ d → d < m → Lode n L' → Q (.int d) (ρ.set i (.own L'))) : wp (callO 2 m_law_deal i [.int m]) ρ Q := by
  obtain ⟨c, s, k, rfl, h1, h2, h3, h4, h5⟩ := hL
  unfold m_law_deal m_law_dealB
  rw [wp_O, e]
  simp! []
  split
  · rename_i hc
    refine ⟨⟨by omega, log2_lit (by omega) hm2⟩, ?_⟩
    try simp! []
    exact hQ (c % m) [.int (c / m), .int s, .int k] (Int.emod_nonneg _ (by omega)) (Int.emod_lt_of_pos _ (by omega)) ⟨_, _, _, rfl, Int.ediv_nonneg h1 (by omega), h2, h3, h4, by omega⟩
  · rename_i hc
    have f1 : s.fmod 17011 = s % 17011 := Int.fmod_eq_emod_of_nonneg _ (by decide)
    simp! [f1]
    have g1 : 0 ≤ s % 17011 := Int.emod_nonneg _ (by decide)
    have g2 : s % 17011 < 17011 := Int.emod_lt_of_pos _ (by decide)
    refine ⟨by decide, mulOk_lit (by omega) (by omega) (by omega) (by omega), mulOk_lit (by omega) (by omega) (by omega) (by omega), by decide, divOk_lit (by decide) (by decide), by omega, ?_⟩
    generalize (s * (s % 17011 + 23003) + 60013 * (k + 1) + 41) = z
    rw [Int.fmod_eq_emod_of_nonneg z (by decide), Int.fmod_eq_emod_of_nonneg _ (by omega)]
    have z1 : 0 ≤ z % 2147483477 := Int.emod_nonneg _ (by decide)
    have z2 : z % 2147483477 < 2147483477 := Int.emod_lt_of_pos _ (by decide)
    exact hQ (_ % m) [.int c, .int (z % 2147483477), .int (k + 1)] (Int.emod_nonneg _ (by omega)) (Int.emod_lt_of_pos _ (by omega)) ⟨_, _, _, rfl, h1, z1, z2, by omega, by omega⟩
theorem sp_law_some {i n : Nat} {L ds : List D} {ρ : En} {Q : D → En → Prop} (e : ρ[i]? = some (.own L)) (hL : Lode (n + 1) L) (h0 : 0 < ds.length) (h1 : ds.length < 1000000)
    (hQ : ∀ d L', d ∈ ds → Lode n L' → Q d (ρ.set i (.own L'))) : wp (callO 2 m_law_some i [.lst ds]) ρ Q := by
  unfold m_law_some m_law_someB
  rw [wp_O, e]
  simp! []
  refine sp_law_deal rfl hL (by omega) (by omega) fun d L' d0 d1 hL' => ?_
  simp! []
  obtain ⟨k, rfl⟩ : ∃ k : Nat, d = k := ⟨d.toNat, by omega⟩
  have hk : k < ds.length := by omega
  rw [ow_of (show dIx (.lst ds) (.int (k : Int)) = some ds[k] from PV.atI_nat (List.getElem?_eq_getElem hk))]
  simp! []
  exact hQ _ _ (List.getElem_mem hk) hL'
theorem sp_law_about {i n : Nat} {L : List D} {w : Int} {ρ : En} {Q : D → En → Prop} (e : ρ[i]? = some (.own L)) (hL : Lode (n + 2) L) (h0 : 0 ≤ w) (h1 : w < 1000000000000)
    (hQ : ∀ (d : Int) L', -w ≤ d → d ≤ w → Lode n L' → Q (.int d) (ρ.set i (.own L'))) : wp (callO 2 m_law_about i [.int w]) ρ Q := by
  unfold m_law_about m_law_aboutB
  rw [wp_O, e]
  simp! []
  split
  · refine ⟨mulOk_lit (by omega) (by omega) (by omega) (by omega), ?_⟩
    refine sp_law_deal rfl (hL.mono (by omega : n + 1 ≤ n + 2)) (by omega) (by omega) fun d L' d0 d1 hL' => ?_
    simp! []
    exact hQ _ _ (by omega) (by omega) hL'
  · refine sp_law_deal rfl hL (by omega) (by omega) fun d L' d0 d1 hL' => ?_
    simp! []
    refine ⟨mulOk_lit (by omega) (by omega) (by omega) (by omega), ?_⟩
    refine sp_law_deal rfl hL' (by omega) (by omega) fun d2 L2 d20 d21 hL2 => ?_
    simp! []
    refine ⟨mulOk_lit (by omega) (by omega) (by omega) (by omega), by omega, ?_⟩
    rw [Int.fmod_eq_emod_of_nonneg _ (by omega)]
    have z1 := Int.emod_nonneg (d * 64007 + d2) (b := 2 * w + 1) (by omega)
    have z2 := Int.emod_lt_of_pos (d * 64007 + d2) (b := 2 * w + 1) (by omega)
    exact hQ _ _ (by omega) (by omega) hL2
theorem _root_.PV.Bd.divInt {n m : Int} {b : Nat} (hm : m ≠ 0) (h1 : n.natAbs < 2 ^ b) (h2 : m.natAbs < 2 ^ b) : Bd b (Rat.divInt n m) := by
  refine ⟨?_, ?_⟩
  · rw [Rat.num_divInt]
    refine Nat.lt_of_le_of_lt (natAbs_ediv_le _ _) ?_
    rw [Int.natAbs_mul]
    have h3 : m.sign.natAbs ≤ 1 := by
      rcases Int.lt_trichotomy m 0 with z | z | z
      · rw [Int.sign_eq_neg_one_of_neg z]; decide
      · rw [z]; decide
      · rw [Int.sign_eq_one_of_pos z]; decide
    have h4 := Nat.mul_le_mul_right n.natAbs h3
    omega
  · rw [Rat.den_divInt, if_neg hm]
    exact Nat.lt_of_le_of_lt (Nat.div_le_self _ _) h2
theorem sp_law_any_part {i n k : Nat} {L : List D} {w : Int} {ρ : En} {Q : D → En → Prop} (e : ρ[i]? = some (.own L)) (hL : Lode (n + 4) L) (h0 : 1 ≤ w) (h1 : w < 2 ^ k) (hk : 3 ≤ k) (hk2 : k ≤ 39)
    (hQ : ∀ (q : Rat) L', Bd k q → Lode n L' → Q (Fr q) (ρ.set i (.own L'))) : wp (callO 2 m_law_any_part i [.int w]) ρ Q := by
  have p1 : (2 : Int) ^ k ≤ 2 ^ 39 := by
    have : (2 : Nat) ^ k ≤ 2 ^ 39 := Nat.pow_le_pow_right (by decide) hk2
    exact_mod_cast this
  have p2 : (2 : Int) ^ 3 ≤ 2 ^ k := by
    have : (2 : Nat) ^ 3 ≤ 2 ^ k := Nat.pow_le_pow_right (by decide) hk
    exact_mod_cast this
  unfold m_law_any_part m_law_any_partB
  rw [wp_O, e]
  simp! []
  refine sp_law_about (n := n + 2) rfl hL (by omega) (by omega) fun a L1 a0 a1 hL1 => ?_
  simp! []
  refine sp_law_some (n := n + 1) rfl hL1 (by simp) (by simp) fun d L2 hd hL2 => ?_
  simp! []
  obtain ⟨m, rfl, m1, m2⟩ : ∃ m : Int, d = .int m ∧ 1 ≤ m ∧ m < 2 ^ k := by
    simp only [List.mem_cons, List.not_mem_nil, or_false] at hd
    rcases hd with rfl | rfl | rfl | rfl | rfl | rfl
    · exact ⟨1, rfl, by decide, by omega⟩
    · exact ⟨1, rfl, by decide, by omega⟩
    · exact ⟨2, rfl, by decide, by omega⟩
    · exact ⟨3, rfl, by decide, by omega⟩
    · exact ⟨7, rfl, by decide, by omega⟩
    · exact ⟨_, rfl, by omega, by omega⟩
  refine sp_law_deal rfl hL2 (by omega) (by omega) fun b L3 b0 b1 hL3 => ?_
  simp! []
  have hb : (1 + b).natAbs < 2 ^ k := natAbs_lt_pow (by omega) (by omega)
  rw [sp_law_part (b := k) (by omega) hb (by omega)]
  simp! []
  exact hQ _ _ (Bd.divInt (by omega) (natAbs_lt_pow (by omega) (by omega)) hb) hL3
theorem sp_law_half {i n : Nat} {L : List D} {ρ : En} {Q : D → En → Prop} (e : ρ[i]? = some (.own L)) (hL : Lode (n + 6) L) (h1 : ∀ L', Lode n L' → Q .non (ρ.set i (.own L')))
    (h2 : ∀ (q : Rat) L', Bd 7 q → Lode n L' → Q (Fr q) (ρ.set i (.own L'))) : wp (callO 1 m_law_half i []) ρ Q := by
  unfold m_law_half m_law_halfB
  rw [wp_O, e]
  simp! []
  refine sp_law_some (n := n + 5) rfl hL (by decide) (by decide) fun d L1 hd hL1 => ?_
  simp! []
  obtain ⟨w, rfl, w1, w2⟩ : ∃ m : Int, d = .int m ∧ 1 ≤ m ∧ m < 2 ^ 7 := by
    simp only [List.mem_cons, List.not_mem_nil, or_false] at hd
    rcases hd with rfl | rfl | rfl | rfl | rfl <;> exact ⟨_, rfl, by decide, by decide⟩
  refine sp_law_deal rfl hL1 (by omega) (by omega) fun b L2 b0 b1 hL2 => ?_
  simp! [↓ow_eq]
  split
  · refine sp_law_some (n := n + 3) rfl hL2 (by decide) (by decide) fun d L3 hd hL3 => ?_
    simp! []
    simp only [List.mem_cons, List.not_mem_nil, or_false] at hd
    rcases hd with rfl | rfl | rfl | rfl
    · exact h1 _ (hL3.mono (by omega))
    · exact h2 0 _ (Bd.mono (inferInstance : Bd _ (0 : Rat)) (by decide)) (hL3.mono (by omega))
    · exact h2 1 _ (Bd.mono (inferInstance : Bd _ (1 : Rat)) (by decide)) (hL3.mono (by omega))
    · exact h2 (-1) _ (Bd.mono (inferInstance : Bd _ ((-1) : Rat)) (by decide)) (hL3.mono (by omega))
  · refine sp_law_any_part (k := 7) rfl hL2 w1 w2 (by decide) (by decide) fun q L3 hq hL3 => ?_
    simp! []
    exact h2 q _ hq hL3
theorem sp_law_heading_non {ρ : En} {Q : D → En → Prop} : wp (callV 1 m_law_heading [.non]) ρ Q ↔ Q (.tup [Fr (-1), Fr 0]) ρ := by
  apply wp_eq
  unfold m_law_heading m_law_headingB
  rw [wp_V]
  simp! [R_neg_one, R_zero]
theorem sp_law_heading {u : Rat} {k : Nat} {ρ : En} {Q : D → En → Prop} [Bd k u] (h : k ≤ 500) : wp (callV 1 m_law_heading [Fr u]) ρ Q ↔ Q (.tup [Fr ((1 - u * u) / (1 + u * u)), Fr (2 * u / (1 + u * u))]) ρ := by
  apply wp_eq
  unfold m_law_heading m_law_headingB
  rw [wp_V]
  simp! [R_one, R_two]
  rw [sp_law_mul (by omega)]
  simp! [R_one, R_two]
  rw [sp_law_add (by omega)]
  simp! [R_one, R_two]
  rw [sp_law_gap (by omega)]
  simp! [R_one, R_two]
  rw [sp_law_div (sq_pos u) (by omega)]
  simp! [R_one, R_two]
  rw [sp_law_mul (by omega)]
  simp! [R_one, R_two]
  rw [sp_law_div (sq_pos u) (by omega)]
  simp! [R_one, R_two]
theorem div_eq_of2 {x y z : Rat} (hy : y ≠ 0) (h : x = z * y) : x / y = z := by
  rw [h, Rat.mul_div_cancel hy]
theorem div_mul_self2 {x y : Rat} (hy : y ≠ 0) : x / y * y = x := Rat.div_mul_cancel hy
theorem unit_half (u : Rat) : ((1 - u * u) / (1 + u * u)) * ((1 - u * u) / (1 + u * u)) + (2 * u / (1 + u * u)) * (2 * u / (1 + u * u)) = 1 := by
  have h := sq_pos u
  have h2 := Rat.mul_inv_cancel _ h
  simp only [Rat.div_def]
  grind
theorem half_divInt (u : Rat) : (1 - u * u) / (1 + u * u) = Rat.divInt (u.den * u.den - u.num * u.num) (u.den * u.den + u.num * u.num) ∧ 2 * u / (1 + u * u) = Rat.divInt (2 * (u.num * u.den)) (u.den * u.den + u.num * u.num) := by
  have hd : (u.den : Rat) ≠ 0 := by
    have := u.den_pos
    intro z
    have z' : ((u.den : Int) : Rat) = ((0 : Int) : Rat) := z
    rw [Rat.intCast_inj] at z'
    omega
  have e0 : u * (u.den : Rat) = (u.num : Rat) := by
    have h := Rat.num_divInt_den u
    rw [Rat.divInt_eq_div] at h
    have k := div_mul_self2 (x := (u.num : Rat)) hd
    have h' : (u.num : Rat) / (u.den : Rat) = u := h
    rw [h'] at k
    exact k
  have k1 := sq_pos u
  have h2 : ((u.den * u.den + u.num * u.num : Int) : Rat) = (1 + u * u) * ((u.den : Rat) * u.den) := by
    rw [Rat.intCast_add, Rat.intCast_mul, Rat.intCast_mul, ← e0]
    show (u.den : Rat) * u.den + _ = _
    grind
  have hd2 : (u.den : Rat) * u.den ≠ 0 := fun z => by rcases Rat.mul_eq_zero.mp z with z | z <;> exact hd z
  have k2 : (1 + u * u) * ((u.den : Rat) * u.den) ≠ 0 := fun z => by
    rcases Rat.mul_eq_zero.mp z with z | z
    · exact k1 z
    · exact hd2 z
  constructor
  · rw [Rat.divInt_eq_div, h2, Rat.intCast_sub, Rat.intCast_mul, Rat.intCast_mul, ← e0]
    show _ = ((u.den : Rat) * u.den - _) / _
    refine (div_eq_of2 k1 ?_)
    have := div_mul_self2 (x := (u.den : Rat) * u.den - u * u.den * (u * u.den)) k2
    generalize ((u.den : Rat) * u.den - u * u.den * (u * u.den)) / ((1 + u * u) * ((u.den : Rat) * u.den)) = z at *
    have : (1 - u * u - z * (1 + u * u)) * ((u.den : Rat) * u.den) = 0 := by grind
    rcases Rat.mul_eq_zero.mp this with y | y
    · grind
    · exact absurd y hd2
  · rw [Rat.divInt_eq_div, h2, Rat.intCast_mul, Rat.intCast_mul, ← e0]
    show _ = ((2 : Rat) * (u * u.den * u.den)) / _
    refine (div_eq_of2 k1 ?_)
    have := div_mul_self2 (x := (2 : Rat) * (u * u.den * u.den)) k2
    generalize ((2 : Rat) * (u * u.den * u.den)) / ((1 + u * u) * ((u.den : Rat) * u.den)) = z at *
    have : (2 * u - z * (1 + u * u)) * ((u.den : Rat) * u.den) = 0 := by grind
    rcases Rat.mul_eq_zero.mp this with y | y
    · grind
    · exact absurd y hd2
theorem _root_.PV.Bd.half {u : Rat} {k : Nat} (h : Bd k u) : Bd (2 * k + 1) ((1 - u * u) / (1 + u * u)) ∧ Bd (2 * k + 1) (2 * u / (1 + u * u)) := by
  have a1 := h.n
  have a2 := h.d
  have p := u.den_pos
  have b1 : u.num.natAbs * u.num.natAbs < 2 ^ (k + k) := mul_lt2 a1 a1
  have b2 : u.den * u.den < 2 ^ (k + k) := mul_lt2 a2 a2
  have b3 : u.num.natAbs * u.den < 2 ^ (k + k) := mul_lt2 a1 a2
  have e : 2 ^ (2 * k + 1) = 2 ^ (k + k) + 2 ^ (k + k) := by rw [Nat.pow_succ, Nat.two_mul k]; omega
  have n1 : (u.num * u.num).natAbs = u.num.natAbs * u.num.natAbs := Int.natAbs_mul ..
  have n2 : 0 ≤ u.num * u.num := by
    rcases Int.le_total 0 u.num with z | z
    · exact Int.mul_nonneg z z
    · exact Int.mul_nonneg_of_nonpos_of_nonpos z z
  have n3 : ((u.den * u.den : Nat) : Int) = (u.den : Int) * u.den := Int.natCast_mul ..
  have n4 : 0 < u.den * u.den := Nat.mul_pos p p
  have d0 : (u.den : Int) * u.den + u.num * u.num ≠ 0 := by omega
  have d1 : ((u.den : Int) * u.den + u.num * u.num).natAbs < 2 ^ (2 * k + 1) := by rw [e]; omega
  obtain ⟨h1, h2⟩ := half_divInt u
  rw [h1, h2]
  refine ⟨Bd.divInt d0 (by rw [e]; omega) d1, Bd.divInt d0 ?_ d1⟩
  rw [Int.natAbs_mul, Int.natAbs_mul, Int.natAbs_natCast, e]
  show 2 * _ < _
  omega
theorem sp_law_some_heading {i n : Nat} {L : List D} {ρ : En} {Q : D → En → Prop} (e : ρ[i]? = some (.own L)) (hL : Lode (n + 6) L)
    (hQ : ∀ (c s : Rat) L', Bd 15 c → Bd 15 s → c * c + s * s = 1 → Lode n L' → Q (.tup [Fr c, Fr s]) (ρ.set i (.own L'))) : wp (callO 1 m_law_some_heading i []) ρ Q := by
  unfold m_law_some_heading m_law_some_headingB
  rw [wp_O, e]
  simp! []
  refine sp_law_half rfl hL (fun L1 hL1 => ?_) fun q L1 hq hL1 => ?_
  · simp! [↓sp_law_heading_non]
    exact hQ _ _ _ (Bd.mono (inferInstance : Bd _ (-1 : Rat)) (by decide)) (Bd.mono (inferInstance : Bd _ (0 : Rat)) (by decide)) (by grind) hL1
  · simp! [↓sp_law_heading (show 7 ≤ 500 by decide)]
    exact hQ _ _ _ (Bd.half hq).1 (Bd.half hq).2 (unit_half q) hL1
theorem sp_law_turn {a1 a2 b1 b2 : Rat} {k1 k2 k3 k4 : Nat} {ρ : En} {Q : D → En → Prop} [Bd k1 a1] [Bd k2 a2] [Bd k3 b1] [Bd k4 b2] (h : k1 + k2 + k3 + k4 ≤ 4000) :
    wp (callV 2 m_law_turn [.tup [Fr a1, Fr a2], .tup [Fr b1, Fr b2]]) ρ Q ↔ Q (.tup [Fr (a1 * b1 - a2 * b2), Fr (a2 * b1 + a1 * b2)]) ρ := by
  apply wp_eq
  unfold m_law_turn m_law_turnB
  rw [wp_V]
  simp! []
  rw [sp_law_mul (by omega)]
  try simp! []
  rw [sp_law_mul (by omega)]
  try simp! []
  rw [sp_law_gap (by omega)]
  try simp! []
  rw [sp_law_mul (by omega)]
  try simp! []
  rw [sp_law_mul (by omega)]
  try simp! []
  rw [sp_law_add (by omega)]
  try simp! []
theorem cutD_ints (ns : List Int) (lo hi : Option Int) : ∃ ms : List Int, cutD (ns.map .int) lo hi = ms.map .int ∧ ms.length ≤ ns.length := by
  unfold cutD
  rw [← List.map_drop, ← List.map_take]
  exact ⟨_, rfl, by rw [List.length_take, List.length_drop]; omega⟩
theorem ow_sl_fz {ns : List Int} {lo hi : Option Int} {P : D → Prop} : ow (dSl lo hi (.fz ns)) P ↔ P (.lst (cutD (ns.map .int) lo hi)) := ow_some
theorem ow_sl_lst {ds : List D} {lo hi : Option Int} {P : D → Prop} : ow (dSl lo hi (.lst ds)) P ↔ P (.lst (cutD ds lo hi)) := ow_some
theorem ow_sl_tup {ds : List D} {lo hi : Option Int} {P : D → Prop} : ow (dSl lo hi (.tup ds)) P ↔ P (.tup (cutD ds lo hi)) := ow_some
theorem ow_ix_fz {ns : List Int} {i : Int} {P : D → Prop} (h0 : 0 ≤ i) (h1 : i < ns.length) : ow (dIx (.fz ns) (.int i)) P ↔ P (.int (ns.getD i.toNat 0)) := by
  obtain ⟨k, rfl⟩ : ∃ k : Nat, i = k := ⟨i.toNat, by omega⟩
  have hk : k < ns.length := by omega
  have e : dIx (.fz ns) (.int (k : Int)) = some (.int ns[k]) := by
    show (atI ns (k : Int)).map D.int = _
    rw [PV.atI_nat (List.getElem?_eq_getElem hk)]; rfl
  rw [ow_of e]
  simp [List.getD_eq_getElem?_getD, List.getElem?_eq_getElem hk]
theorem ow_add_lst {xs ys : List D} {P : D → Prop} : ow (dAdd (.lst xs) (.lst ys)) P ↔ xs.length + ys.length ≤ 100000 ∧ P (.lst (xs ++ ys)) := by
  unfold dAdd; rw [ow_ite, ow_some]
theorem ow_add_tup {xs ys : List D} {P : D → Prop} : ow (dAdd (.tup xs) (.tup ys)) P ↔ xs.length + ys.length ≤ 100000 ∧ P (.tup (xs ++ ys)) := by
  unfold dAdd; rw [ow_ite, ow_some]
theorem ow_rng1 {j : Int} {P : List D → Prop} (h0 : 0 ≤ j) (h : j ≤ 1000) : ow (rng1 [.int j]) P ↔ P (upto 0 j.toNat) := by
  unfold rng1
  show ow (if _ then _ else none) P ↔ _
  rw [ow_ite, ow_some]
  exact ⟨fun q => q.2, fun q => ⟨by omega, q⟩⟩
theorem upto_length (lo : Int) (n : Nat) : (upto lo n).length = n := by unfold upto; rw [List.length_map, List.length_range]
theorem mem_upto {lo : Int} {n : Nat} {d : D} (h : d ∈ upto lo n) : ∃ i : Nat, i < n ∧ d = .int (lo + i) := by
  unfold upto at h
  rw [List.mem_map] at h
  obtain ⟨i, h1, rfl⟩ := h
  exact ⟨i, List.mem_range.mp h1, rfl⟩
theorem sp_law_lode {ns : List Int} {lap : Int} {ρ : En} {Q : List D → En → Prop} (h63 : ns.length ≤ 63) (h0 : 0 ≤ lap) (h1 : lap < 1000) (hQ : ∀ L, Lode 1000000 L → Q L ρ) : wp (callL 2 mN_law_lode [.fz ns, .int lap]) ρ Q := by
  obtain ⟨m5, e5, l5⟩ := cutD_ints ns none (some 5)
  obtain ⟨m11, e11, l11⟩ := cutD_ints ns none (some 11)
  unfold mN_law_lode mN_law_lodeB
  rw [wp_L]
  refine ⟨rfl, seq_cut (fun r => ∃ c : Int, r = [.val (.fz ns), .val (.int lap), .val (.int c), .no, .no]) ?_ ?_⟩
  · simp! []
    split
    · rw [ow_ix_fz h0 (by omega)]
      simp! []
      exact ⟨_, rfl⟩
    · refine ⟨mulOk_lit (by omega) (by omega) (by omega) (by omega), ?_⟩
      simp! [↓ow_sl_fz, e5]
      exact ⟨by decide, _, rfl⟩
  rintro r ⟨c, rfl⟩
  refine seq_cut (fun r => r = [.val (.fz ns), .val (.int lap), .val (.int c), .val (.int (27191 + 1409 * lap)), .no]) ?_ ?_
  · simp! []
    exact mulOk_lit (by omega) (by omega) (by omega) (by omega)
  rintro r rfl
  refine seq_cut (fun r => ∃ s x, r = [.val (.fz ns), .val (.int lap), .val (.int c), .val (.int s), x] ∧ 0 ≤ s ∧ s < 2147483477) ?_ ?_
  · simp! [↓ow_sl_fz, e11, ↓ow_add_lst]
    refine ⟨by rw [List.length_map]; omega, ?_⟩
    refine wp_loop (fun ds r => (∀ d ∈ ds, ∃ i, d = .int i) ∧ ∃ s x, r = [.val (.fz ns), .val (.int lap), .val (.int c), .val (.int s), x] ∧ 0 ≤ s ∧ s < 2147483477) ⟨?_, _, _, rfl, by omega, by omega⟩ ?_ ?_
    · intro d hd
      rw [List.mem_append, List.mem_map] at hd
      rcases hd with ⟨i, _, rfl⟩ | hd
      · exact ⟨i, rfl⟩
      · rw [List.mem_singleton] at hd; exact ⟨_, hd⟩
    · rintro d ds r ⟨hd, s, x, rfl, s0, s1⟩
      obtain ⟨i, rfl⟩ := hd d List.mem_cons_self
      simp! []
      refine ⟨mulOk_lit (by omega) (by omega) (by omega) (by omega), by decide, by decide, fun d hd' => hd d (List.mem_cons_of_mem _ hd'), _, _, rfl, ?_⟩
      rw [Int.fmod_eq_emod_of_nonneg _ (by decide)]
      exact ⟨Int.emod_nonneg _ (by decide), Int.emod_lt_of_pos _ (by decide)⟩
    · rintro r ⟨_, s, x, rfl, s0, s1⟩
      exact ⟨rfl, s, x, rfl, s0, s1⟩
  rintro r ⟨s, x, rfl, s0, s1⟩
  simp! []
  have k1 : Q [.int (c.natAbs : Int), .int s, .int 0] ρ := hQ _ ⟨_, _, _, rfl, by omega, s0, s1, by omega, by omega⟩
  have k2 : Q [.int 0, .int s, .int 0] ρ := hQ _ ⟨_, _, _, rfl, by omega, s0, s1, by omega, by omega⟩
  split
  · exact k1
  · split
    · exact k1
    · exact k2
theorem good_of {n : Nat} {F : M D} (h : ∀ ns : List Int, ns.length ≤ n → wp (callV 1 F [.fz ns]) [] fun d _ => d = .bl true) : Good n F := fun ns hn => by
  obtain ⟨_, a, r, e, rfl⟩ := wp_callV.mp (h ns hn)
  exact ⟨r, e⟩
theorem all_true {yss : List (List D)} {ds : List D} (h : All2 (fun _ ys => ys = [D.bl true]) ds yss) : yss.flatten = (List.replicate ds.length true).map D.bl := by
  induction h with
  | nil => rfl
  | cons h1 h2 ih => rw [List.flatten_cons, ih, h1]; rfl
theorem laps_true {T : M D} {W : M (List D)} {ds : List D} {ns : List Int} (hds : ∀ d ∈ ds, ∃ i : Int, 0 ≤ i ∧ i < 1000 ∧ d = .int i)
    (hW : ∀ (i : Int) (ρ : En) (Q : List D → En → Prop), 0 ≤ i → i < 1000 → (∀ L, Lode 1000000 L → Q L ρ) → wp (callL 2 W [.fz ns, .int i]) ρ Q)
    (hT : ∀ (L : List D) (ρ : En) (Q : D → En → Prop), Lode 1000000 L → Q (.bl true) ρ → wp (callN 1 T L) ρ Q) {x : Sl} (hx : isOwn [.val (.fz ns), x] 1 = false) {Q : List D → En → Prop} (hQ : ∀ x, isOwn [.val (.fz ns), x] 1 = false → Q ((List.replicate ds.length true).map D.bl) [.val (.fz ns), x]) :
    wp (lcL 2 [1] (gN 1) (M.ret true) (M.bind (M.bind (dCons (dVar 0) (dCons (dVar 1) (dNil))) (callL 2 W)) (callN 1 T)) ds) [.val (.fz ns), x] Q := by
  refine wp_mono (wp_lcs (fun r => ∃ x, isOwn [.val (.fz ns), x] 1 = false ∧ r = [.val (.fz ns), x]) (fun _ ys => ys = [.bl true]) ⟨x, hx, rfl⟩ ?_) ?_
  · rintro d hd r ⟨x, hx, rfl⟩
    obtain ⟨i, i0, i1, rfl⟩ := hds d hd
    simp! [wipeE, List.all_cons, List.all_nil, hx]
    refine hW i _ _ i0 i1 fun L hL => ?_
    refine hT L _ _ hL ⟨⟨.val (.int i), rfl, rfl⟩, rfl⟩
  · rintro ys r ⟨⟨x, hx, rfl⟩, yss, rfl, h⟩
    rw [all_true h]
    exact hQ x hx
theorem all_rep (n : Nat) : (List.replicate n true).all id = true := by
  rw [List.all_eq_true]; intro x hx; exact (List.mem_replicate.mp hx).2
theorem good_23 {T : M D} (hT : ∀ (L : List D) (ρ : En) (Q : D → En → Prop), Lode 1000000 L → Q (.bl true) ρ → wp (callN 1 T L) ρ Q) :
    Good 63 (fnB [] 1 1 (asRet (mRet (mCB dAll (dCons (mLst (mLc 2 [1] (mIter' rng1 (dCons (mCB dMax (dCons (M.ret (.int 2)) (dCons (mCB dMin (dCons (mCB dLen (dCons (dVar 0) (dNil))) (dCons (M.ret (.int 3)) (dNil)))) (dNil)))) (dNil))) (gN 1) (M.ret true) (M.bind (M.bind (dCons (dVar 0) (dCons (dVar 1) (dNil))) (callL 2 mN_law_lode)) (callN 1 T)))) (dNil)))))) := good_of fun ns hn => by
  rw [wp_V]
  simp! [↓wp_lc]
  rw [ow_rng1 (by omega) (by omega)]
  refine ⟨rfl, by rw [upto_length]; omega, ?_⟩
  show wp (lcL 2 [1] (gN 1) (M.ret true) _ _) [.val (.fz ns), .no] _
  refine laps_true (fun d hd => ?_) (fun i ρ Q i0 i1 h => sp_law_lode hn i0 i1 h) hT rfl fun x hx => ?_
  · obtain ⟨i, hi, rfl⟩ := mem_upto hd
    exact ⟨_, by omega, by omega, rfl⟩
  · simp! [wipeE, List.all_cons, List.all_nil, hx, all_rep]
abbrev five (a b c d e : Rat) : D := .tup [Fr a, Fr b, Fr c, Fr d, Fr e]
def nor (a b c d e x y : Rat) : Rat := 1 + b * x - c * y + d * (x * x - y * y) - e * (x * y + y * x)
def eas (a b c d e x y : Rat) : Rat := a + b * y + c * x + d * (x * y + y * x) + e * (x * x - y * y)
instance Bd.nor {a b c d e x y : Rat} {k1 k2 k3 k4 k5 k6 k7 : Nat} [Bd k1 a] [Bd k2 b] [Bd k3 c] [Bd k4 d] [Bd k5 e] [Bd k6 x] [Bd k7 y] : Bd (k2 + k3 + k4 + k5 + 5 * k6 + 5 * k7 + 7) (nor a b c d e x y) := Bd.mono (by unfold PB.nor; infer_instance) (by omega)
instance Bd.eas {a b c d e x y : Rat} {k1 k2 k3 k4 k5 k6 k7 : Nat} [Bd k1 a] [Bd k2 b] [Bd k3 c] [Bd k4 d] [Bd k5 e] [Bd k6 x] [Bd k7 y] : Bd (k1 + k2 + k3 + k4 + k5 + 5 * k6 + 5 * k7 + 6) (eas a b c d e x y) := Bd.mono (by unfold PB.eas; infer_instance) (by omega)
theorem sp_are_ratios5 {a b c d e : Rat} {ρ : En} {Q : D → En → Prop} : wp (callV 2 m_are_ratios [five a b c d e, .int 5]) ρ Q ↔ Q (.bl true) ρ := by
  apply wp_eq
  unfold m_are_ratios m_are_ratiosB
  rw [wp_V]
  simp! [↓ow_eq, ↓wp_lc, ↓wp_lc1, ↓wp_lc0, wipeE, isOwn, List.all_cons, List.all_nil, ↓sp_is_ratioR]
theorem sp_is_fivefold {a b c d e : Rat} {ρ : En} {Q : D → En → Prop} : wp (callV 1 m_is_fivefold [five a b c d e]) ρ Q ↔ Q (.bl true) ρ := by
  apply wp_eq
  unfold m_is_fivefold m_is_fivefoldB
  rw [wp_V]
  simp! [↓sp_are_ratios5]
theorem sp_check_five {a b c d e : Rat} {ρ : En} {Q : D → En → Prop} : wp (callV 1 m_check_five [five a b c d e]) ρ Q ↔ Q .non ρ := by
  apply wp_eq
  unfold m_check_five m_check_fiveB
  rw [wp_V]
  simp! [↓sp_is_fivefold]
theorem sp_check_needle {a b c d e x y : Rat} {k1 k2 : Nat} {ρ : En} {Q : D → En → Prop} [Bd k1 x] [Bd k2 y] (h : k1 + k2 ≤ 2000) (u : x * x + y * y = 1) : wp (callV 2 m_check_needle [five a b c d e, .tup [Fr x, Fr y]]) ρ Q ↔ Q .non ρ := by
  apply wp_eq
  unfold m_check_needle m_check_needleB
  rw [wp_V]
  simp! [↓sp_check_five, ↓sp_check_heading h u]
def FrB (k : Nat) (d : D) : Prop := ∃ q, d = Fr q ∧ Bd k q
theorem upto5 : upto 0 5 = [.int 0, .int 1, .int 2, .int 3, .int 4] := rfl
theorem list5 {α : Type} {xs : List α} (h : xs.length = 5) : ∃ a b c d e, xs = [a, b, c, d, e] := by
  match xs, h with
  | [a, b, c, d, e], _ => exact ⟨a, b, c, d, e, rfl⟩
theorem sp_law_any_five {i n k : Nat} {L : List D} {w : Int} {ρ : En} {Q : D → En → Prop} (e : ρ[i]? = some (.own L)) (hL : Lode (n + 25) L) (h0 : 1 ≤ w) (h1 : w < 2 ^ (k + 3)) (hk2 : k ≤ 36)
    (hQ : ∀ (a b c d e : Rat) L', Bd (k + 3) a → Bd (k + 3) b → Bd (k + 3) c → Bd (k + 3) d → Bd (k + 3) e → Lode n L' → Q (five a b c d e) (ρ.set i (.own L'))) : wp (callO 2 m_law_any_five i [.int w]) ρ Q := by
  unfold m_law_any_five m_law_any_fiveB
  rw [wp_O, e]
  simp! [↓ow_rng1]
  refine wp_loop (fun ds r => ∃ fs L x, r = [.own L, .val (.int w), .own fs, x] ∧ fs.length + ds.length = 5 ∧ (∀ f ∈ fs, FrB (k + 3) f) ∧ Lode (n + 5 * ds.length) L) ⟨[], L, .no, rfl, by rw [upto_length]; rfl, by simp, by rw [upto_length]; exact hL⟩ ?_ ?_
  · rintro d ds r ⟨fs, L1, x, rfl, hl, hf, hL1⟩
    rw [List.length_cons] at hl hL1
    have hL1' : Lode ((n + 5 * ds.length + 4) + 1) L1 := hL1.mono (by omega)
    simp! []
    refine sp_law_deal rfl hL1' (by omega) (by omega) fun b L2 b0 b1 hL2 => ?_
    simp! [↓ow_eq]
    split
    · simp! [R_zero]
      refine ⟨by omega, _, _, _, rfl, by rw [List.length_append, List.length_singleton]; omega, fun f hf' => ?_, hL2.mono (by omega)⟩
      rcases List.mem_append.mp hf' with z | z
      · exact hf f z
      · rw [List.mem_singleton] at z; exact ⟨0, z, Bd.mono (inferInstance : Bd _ (0 : Rat)) (by omega)⟩
    · refine sp_law_any_part (k := k + 3) rfl hL2 h0 h1 (by omega) (by omega) fun q L3 hq hL3 => ?_
      simp! []
      refine ⟨by omega, _, _, _, rfl, by rw [List.length_append, List.length_singleton]; omega, fun f hf' => ?_, hL3⟩
      rcases List.mem_append.mp hf' with z | z
      · exact hf f z
      · rw [List.mem_singleton] at z; exact ⟨q, z, hq⟩
  · rintro r ⟨fs, L1, x, rfl, hl, hf, hL1⟩
    obtain ⟨a, b, c, d, e, rfl⟩ := list5 (by simpa using hl)
    obtain ⟨a, rfl, ba⟩ := hf a (by simp)
    obtain ⟨b, rfl, bb⟩ := hf b (by simp)
    obtain ⟨c, rfl, bc⟩ := hf c (by simp)
    obtain ⟨d, rfl, bd⟩ := hf d (by simp)
    obtain ⟨e, rfl, be⟩ := hf e (by simp)
    simp! []
    exact hQ a b c d e L1 ba bb bc bd be hL1
theorem sp_law_total3 {a b c : Rat} {k1 k2 k3 : Nat} {ρ : En} {Q : D → En → Prop} [Bd k1 a] [Bd k2 b] [Bd k3 c] (h : k1 + k2 + k3 ≤ 4000) : wp (callV 1 m_law_total [.lst [Fr a, Fr b, Fr c]]) ρ Q ↔ Q (Fr (0 + a + b + c)) ρ := by
  apply wp_eq
  unfold m_law_total m_law_totalB
  rw [wp_V]
  simp! [R_zero, ↓wp_loop1, ↓wp_loop0, ↓sp_law_add]
theorem sp_law_total5 {a b c d e : Rat} {k1 k2 k3 k4 k5 : Nat} {ρ : En} {Q : D → En → Prop} [Bd k1 a] [Bd k2 b] [Bd k3 c] [Bd k4 d] [Bd k5 e] (h : k1 + k2 + k3 + k4 + k5 ≤ 4000) : wp (callV 1 m_law_total [.lst [Fr a, Fr b, Fr c, Fr d, Fr e]]) ρ Q ↔ Q (Fr (0 + a + b + c + d + e)) ρ := by
  apply wp_eq
  unfold m_law_total m_law_totalB
  rw [wp_V]
  simp! [R_zero, ↓wp_loop1, ↓wp_loop0, ↓sp_law_add]
theorem num_pos {q : Rat} : 0 < q.num ↔ 0 < q := by
  have h1 := Rat.num_nonneg (q := q)
  have h2 := Rat.num_eq_zero (q := q)
  constructor
  · intro h
    have : 0 ≤ q := h1.mp (by omega)
    have : q ≠ 0 := fun z => by rw [h2.mpr z] at h; omega
    grind
  · intro h
    have : 0 ≤ q.num := h1.mpr (by grind)
    have : q.num ≠ 0 := fun z => by rw [h2.mp z] at h; grind
    omega
theorem num_neg' {q : Rat} : q.num < 0 ↔ q < 0 := by
  have h1 := Rat.num_nonneg (q := q)
  constructor
  · intro h
    have : ¬ 0 ≤ q := fun z => by have := h1.mpr z; omega
    grind
  · intro h
    have : ¬ 0 ≤ q.num := fun z => by have := h1.mp z; grind
    omega
def wrd (n e : Rat) : Str := if e ≠ 0 then (if 0 < e then "east" else "west") else if 0 < n then "plain" else if n < 0 then "against" else "dead"
theorem wrd_dead {n e : Rat} : (wrd n e = "dead") ↔ (n = 0 ∧ e = 0) := by
  unfold wrd
  split
  · rename_i h
    split <;> exact ⟨fun z => absurd z (by decide), fun z => absurd z.2 h⟩
  · rename_i h
    split
    · exact ⟨fun z => absurd z (by decide), fun z => by grind⟩
    · split
      · exact ⟨fun z => absurd z (by decide), fun z => by grind⟩
      · exact ⟨fun _ => ⟨by grind, by grind⟩, fun _ => rfl⟩
theorem wrd_plain {n e : Rat} : (wrd n e = "plain") ↔ (0 < n ∧ e = 0) := by
  unfold wrd
  split
  · rename_i h
    split <;> exact ⟨fun z => absurd z (by decide), fun z => absurd z.2 h⟩
  · rename_i h
    split
    · rename_i h2; exact ⟨fun _ => ⟨h2, by grind⟩, fun _ => rfl⟩
    · split
      · exact ⟨fun z => absurd z (by decide), fun z => by grind⟩
      · exact ⟨fun z => absurd z (by decide), fun z => by grind⟩
def ahd (a b d e x y : Rat) : Rat := 0 + b + (1 + d) * x + (a - e) * y
def asd (a c d e x y : Rat) : Rat := 0 + c + (a + e) * x + (d - 1) * y
instance Bd.ahd {a b d e x y : Rat} {k1 k2 k4 k5 k6 k7 : Nat} [Bd k1 a] [Bd k2 b] [Bd k4 d] [Bd k5 e] [Bd k6 x] [Bd k7 y] : Bd (k1 + k2 + k4 + k5 + k6 + k7 + 7) (ahd a b d e x y) := Bd.mono (by unfold PB.ahd; infer_instance) (by omega)
instance Bd.asd {a c d e x y : Rat} {k1 k3 k4 k5 k6 k7 : Nat} [Bd k1 a] [Bd k3 c] [Bd k4 d] [Bd k5 e] [Bd k6 x] [Bd k7 y] : Bd (k1 + k3 + k4 + k5 + k6 + k7 + 7) (asd a c d e x y) := Bd.mono (by unfold PB.asd; infer_instance) (by omega)
theorem nor_ship {a b c d e x y : Rat} (u : x * x + y * y = 1) : nor a b c d e x y = ahd a b d e x y * x - asd a c d e x y * y := by unfold nor ahd asd; grind
theorem eas_ship {a b c d e x y : Rat} (u : x * x + y * y = 1) : eas a b c d e x y = ahd a b d e x y * y + asd a c d e x y * x := by unfold eas ahd asd; grind
theorem sp_law_ship {a b c d e x y : Rat} {k1 k2 k3 k4 k5 k6 k7 : Nat} {ρ : En} {Q : D → En → Prop} [Bd k1 a] [Bd k2 b] [Bd k3 c] [Bd k4 d] [Bd k5 e] [Bd k6 x] [Bd k7 y] (h : k1 + k2 + k3 + k4 + k5 + 6 * k6 + 6 * k7 ≤ 3000) :
    wp (callV 2 m_law_ship [five a b c d e, .tup [Fr x, Fr y]]) ρ Q ↔ Q (.tup [Fr (ahd a b d e x y), Fr (asd a c d e x y)]) ρ := by
  apply wp_eq
  unfold m_law_ship m_law_shipB
  rw [wp_V]
  simp! [R_one, ↓sp_law_mul, ↓sp_law_gap, ↓sp_law_add, ↓sp_law_total3, ahd, asd]
theorem sp_law_dead_five {i n : Nat} {L : List D} {x y : Rat} {ρ : En} {Q : D → En → Prop} [hx : Bd 15 x] [hy : Bd 15 y] (e : ρ[i]? = some (.own L)) (hL : Lode (n + 25) L)
    (hQ : ∀ (a b c d e : Rat) L', Bd 3 a → Bd 50 b → Bd 50 c → Bd 3 d → Bd 3 e → Lode n L' → ahd a b d e x y = 0 → asd a c d e x y = 0 → Q (five a b c d e) (ρ.set i (.own L'))) : wp (callO 2 m_law_dead_five i [.tup [Fr x, Fr y]]) ρ Q := by
  unfold m_law_dead_five m_law_dead_fiveB
  rw [wp_O, e]
  simp! []
  refine sp_law_any_five (k := 0) rfl hL (by decide) (by decide) (by decide) fun a b c d e L1 ba bb bc bd be hL1 => ?_
  simp! [R_zero, ↓sp_law_ship, ↓sp_law_back]
  refine hQ a (-ahd a 0 d e x y) (-asd a 0 d e x y) d e L1 ba ?_ ?_ bd be hL1 ?_ ?_
  · exact Bd.mono inferInstance (by decide)
  · exact Bd.mono inferInstance (by decide)
  · unfold ahd; grind
  · unfold asd; grind
theorem _root_.PV.Bd.up {a b : Nat} {q : Rat} (h : Bd a q) (l : a ≤ b := by decide) : Bd b q := h.mono l
def sgn (n : Int) : Int := if 0 < n then 1 else if n < 0 then -1 else 0
instance {s : Str} : Shw s.cps.size (.str s) := ⟨fun _ => ⟨rfl, Nat.le_refl _⟩⟩
instance : Eqb 0 (.str "east") := ⟨by decide +kernel⟩
instance : Eqb 0 (.str "west") := ⟨by decide +kernel⟩
instance : Eqb 0 (.str "plain") := ⟨by decide +kernel⟩
instance : Eqb 0 (.str "against") := ⟨by decide +kernel⟩
instance : Eqb 0 (.str "dead") := ⟨by decide +kernel⟩
instance : Eqb 0 (.str "round") := ⟨by decide +kernel⟩
instance : Eqb 0 (.str "backward") := ⟨by decide +kernel⟩
instance : Eqb 0 (.str "swings") := ⟨by decide +kernel⟩
instance : Eqb 0 (.str "stuck") := ⟨by decide +kernel⟩
instance : Eqb 0 (.str "all") := ⟨by decide +kernel⟩
instance : Eqb 0 (.str "endless") := ⟨by decide +kernel⟩
instance : Eqb 0 (.str "sure") := ⟨by decide +kernel⟩
instance : Eqb 0 (.str "never") := ⟨by decide +kernel⟩
instance : Eqb 0 (.str "open") := ⟨by decide +kernel⟩
theorem wrd_e {n e : Rat} (h : e ≠ 0) (h2 : 0 < e) : wrd n e = "east" := by unfold wrd; rw [if_pos h, if_pos h2]
theorem wrd_w {n e : Rat} (h : e ≠ 0) (h2 : ¬ 0 < e) : wrd n e = "west" := by unfold wrd; rw [if_pos h, if_neg h2]
theorem wrd_p {n e : Rat} (h : e = 0) (h2 : 0 < n) : wrd n e = "plain" := by unfold wrd; rw [if_neg (fun z => z h), if_pos h2]
theorem wrd_a {n e : Rat} (h : e = 0) (h1 : ¬ 0 < n) (h2 : n < 0) : wrd n e = "against" := by unfold wrd; rw [if_neg (fun z => z h), if_neg h1, if_pos h2]
theorem wrd_d {n e : Rat} (h : e = 0) (h1 : ¬ 0 < n) (h2 : ¬ n < 0) : wrd n e = "dead" := by unfold wrd; rw [if_neg (fun z => z h), if_neg h1, if_neg h2]
def FiveS (S : Nat) (f : D) : Prop := ∃ a b c d e k1 k2 k3 k4 k5, f = five a b c d e ∧ Bd k1 a ∧ Bd k2 b ∧ Bd k3 c ∧ Bd k4 d ∧ Bd k5 e ∧ k1 + k2 + k3 + k4 + k5 ≤ S
theorem FiveS.mono {S T : Nat} {f : D} (h : FiveS S f) (l : S ≤ T) : FiveS T f := by
  obtain ⟨a, b, c, d, e, k1, k2, k3, k4, k5, r, h1, h2, h3, h4, h5, hs⟩ := h
  exact ⟨a, b, c, d, e, k1, k2, k3, k4, k5, r, h1, h2, h3, h4, h5, by omega⟩
theorem cutD5a {a b c d e : D} : cutD [a, b, c, d, e] (some 1) none = [b, c, d, e] := rfl
theorem cutD5b {a b c d e : D} : cutD [a, b, c, d, e] none (some 1) = [a] := rfl
theorem cutD5c {a b c d e : D} : cutD [a, b, c, d, e] (some 2) none = [c, d, e] := rfl
theorem cutD5d {a b c d e : D} : cutD [a, b, c, d, e] none (some 2) = [a, b] := rfl
theorem cutD5e {a b c d e : D} : cutD [a, b, c, d, e] (some 3) none = [d, e] := rfl
theorem cutD5f {a b c d e : D} : cutD [a, b, c, d, e] none (some 3) = [a, b, c] := rfl
def way (p q : Int) : D := .tup [.int (p.fdiv (Int.gcd p q : Int)), .int (q.fdiv (Int.gcd p q : Int))]
abbrev wayR (x y : Rat) : D := way (x.num * y.den) (y.num * x.den)
theorem rat_div_pos {a b : Rat} (ha : 0 < a) (hb : 0 < b) : 0 < a / b := by rw [Rat.div_def]; exact Rat.mul_pos ha (Rat.inv_pos.mpr hb)
theorem gcd_lt {n m : Int} {b : Nat} (h0 : Int.gcd n m ≠ 0) (h1 : n.natAbs < 2 ^ b) (h2 : m.natAbs < 2 ^ b) : Int.gcd n m < 2 ^ b := by
  by_cases hm : m = 0
  · subst hm
    rw [Int.gcd_zero_right]; exact h1
  · exact gcd_le_right' hm h2
class Ib (b : outParam Nat) (p : Int) : Prop where
  n : p.natAbs < 2 ^ b
instance {b : Nat} {p : Int} [h : Ib b p] : Shw (8001 * (b / 1901)) (.int p) := ⟨fun l => by
  have hb : b ≤ 1900 := by omega
  refine ⟨?_, Nat.zero_le _⟩
  show decide (p.natAbs.log2 < 1920) = true
  rw [decide_eq_true_eq]
  by_cases h0 : p.natAbs = 0
  · rw [h0]; decide
  · have := (Nat.log2_lt h0).mpr h.n
    omega⟩
theorem R_int {p : Int} : (.tup [.int p, .int 1] : D) = Fr (p : Rat) := rfl
theorem den_rat_ne (q : Rat) : (q.den : Rat) ≠ 0 := by
  have := q.den_pos
  intro z
  have z' : ((q.den : Int) : Rat) = ((0 : Int) : Rat) := z
  rw [Rat.intCast_inj] at z'
  omega
theorem num_eq_mul_den (q : Rat) : (q.num : Rat) = q * (q.den : Rat) := by
  have h := Rat.num_divInt_den q
  rw [Rat.divInt_eq_div] at h
  have k : (q.num : Rat) / (q.den : Rat) * (q.den : Rat) = (q.num : Rat) := Rat.div_mul_cancel (den_rat_ne q)
  have h' : (q.num : Rat) / (q.den : Rat) = q := h
  rw [h'] at k
  exact k.symm
theorem den_rat_pos (q : Rat) : 0 < (q.den : Rat) := by
  have := q.den_pos
  have z' : ((0 : Int) : Rat) < ((q.den : Int) : Rat) := Rat.intCast_lt_intCast.mpr (by omega)
  exact z'
theorem way_spec {n m : Int} (h : Int.gcd n m ≠ 0) : ∃ p q : Int, way n m = .tup [.int p, .int q] ∧ Int.gcd p q = 1 ∧ n = p * (Int.gcd n m : Int) ∧ m = q * (Int.gcd n m : Int) := by
  have h1 : (Int.gcd n m : Int) ∣ n := Int.gcd_dvd_left ..
  have h2 : (Int.gcd n m : Int) ∣ m := Int.gcd_dvd_right ..
  have h0 : (Int.gcd n m : Int) ≠ 0 := by omega
  refine ⟨n.fdiv (Int.gcd n m : Int), m.fdiv (Int.gcd n m : Int), rfl, ?_, ?_, ?_⟩
  · rw [Int.fdiv_eq_ediv_of_dvd h1, Int.fdiv_eq_ediv_of_dvd h2]
    exact Int.gcd_ediv_gcd_ediv_gcd (by omega)
  · rw [Int.fdiv_eq_ediv_of_dvd h1, Int.ediv_mul_cancel h1]
  · rw [Int.fdiv_eq_ediv_of_dvd h2, Int.ediv_mul_cancel h2]
theorem wayR_gcd {x y : Rat} (h : ¬ (x = 0 ∧ y = 0)) : Int.gcd (x.num * y.den) (y.num * x.den) ≠ 0 := by
  intro z
  rw [Int.gcd_eq_zero_iff] at z
  refine h ⟨?_, ?_⟩
  · rcases Int.mul_eq_zero.mp z.1 with w | w
    · exact Rat.num_eq_zero.mp w
    · exact absurd w (den_ne y)
  · rcases Int.mul_eq_zero.mp z.2 with w | w
    · exact Rat.num_eq_zero.mp w
    · exact absurd w (den_ne x)
theorem wayR_spec {x y : Rat} (h : ¬ (x = 0 ∧ y = 0)) : ∃ p q : Int, wayR x y = .tup [.int p, .int q] ∧ Int.gcd p q = 1 ∧ ∃ l : Rat, 0 < l ∧ (p : Rat) = l * x ∧ (q : Rat) = l * y := by
  have h0 := wayR_gcd h
  obtain ⟨p, q, e, g, e1, e2⟩ := way_spec h0
  refine ⟨p, q, e, g, ?_⟩
  generalize hg : Int.gcd (x.num * y.den) (y.num * x.den) = k at *
  have k0 : ((k : Int) : Rat) ≠ 0 := fun z => by
    rw [show (0 : Rat) = ((0 : Int) : Rat) from rfl, Rat.intCast_inj] at z; omega
  have kp : 0 < ((k : Int) : Rat) := by
    rw [show (0 : Rat) = ((0 : Int) : Rat) from rfl, Rat.intCast_lt_intCast]; omega
  have f1 : (p : Rat) * ((k : Int) : Rat) = x * x.den * y.den := by
    rw [← Rat.intCast_mul, ← e1, Rat.intCast_mul, num_eq_mul_den]; rfl
  have f2 : (q : Rat) * ((k : Int) : Rat) = y * y.den * x.den := by
    rw [← Rat.intCast_mul, ← e2, Rat.intCast_mul, num_eq_mul_den]; rfl
  refine ⟨(x.den : Rat) * y.den / ((k : Int) : Rat), rat_div_pos (Rat.mul_pos (den_rat_pos x) (den_rat_pos y)) kp, ?_, ?_⟩
  · have h3 : (x.den : Rat) * y.den / ((k : Int) : Rat) * ((k : Int) : Rat) = x.den * y.den := Rat.div_mul_cancel k0
    generalize (x.den : Rat) * y.den / ((k : Int) : Rat) = z at *
    have : ((p : Rat) - z * x) * ((k : Int) : Rat) = 0 := by grind
    rcases Rat.mul_eq_zero.mp this with w | w
    · grind
    · exact absurd w k0
  · have h3 : (x.den : Rat) * y.den / ((k : Int) : Rat) * ((k : Int) : Rat) = x.den * y.den := Rat.div_mul_cancel k0
    generalize (x.den : Rat) * y.den / ((k : Int) : Rat) = z at *
    have : ((q : Rat) - z * y) * ((k : Int) : Rat) = 0 := by grind
    rcases Rat.mul_eq_zero.mp this with w | w
    · grind
    · exact absurd w k0
theorem way_uniq {p q p' q' : Int} {l : Rat} (hl : 0 < l) (g1 : Int.gcd p q = 1) (g2 : Int.gcd p' q' = 1) (e1 : (p' : Rat) = l * p) (e2 : (q' : Rat) = l * q) : p' = p ∧ q' = q := by
  have hn : 0 < l.num := num_pos.mpr hl
  have f : ∀ {a b : Int}, (b : Rat) = l * a → b * l.den = l.num * a := fun {a b} e => by
    have h1 := num_eq_mul_den l
    have : ((b * l.den : Int) : Rat) = ((l.num * a : Int) : Rat) := by
      rw [Rat.intCast_mul, Rat.intCast_mul, h1, e]
      show l * a * (l.den : Rat) = l * (l.den : Rat) * a
      grind
    rwa [Rat.intCast_inj] at this
  have k1 := f e1
  have k2 := f e2
  have h1 : Int.gcd (p' * l.den) (q' * l.den) = l.den := by rw [Int.gcd_mul_right, g2, Int.natAbs_natCast, Nat.one_mul]
  have h2 : Int.gcd (l.num * p) (l.num * q) = l.num.natAbs := by rw [Int.gcd_mul_left, g1, Nat.mul_one]
  rw [k1, k2, h2] at h1
  have e : l.num = (l.den : Int) := by omega
  have d0 := l.den_pos
  rw [e, Int.mul_comm] at k1 k2
  exact ⟨Int.eq_of_mul_eq_mul_left (by omega) k1, Int.eq_of_mul_eq_mul_left (by omega) k2⟩
theorem way_bits {n m : Int} {b : Nat} (h0 : Int.gcd n m ≠ 0) (h1 : n.natAbs < 2 ^ b) (h2 : m.natAbs < 2 ^ b) {p q : Int} (e : way n m = .tup [.int p, .int q]) : p.natAbs < 2 ^ b ∧ q.natAbs < 2 ^ b := by
  obtain ⟨p', q', e', _, f1, f2⟩ := way_spec h0
  rw [e] at e'
  cases e'
  generalize Int.gcd n m = g at *
  have g1 : 1 ≤ g := by omega
  rw [f1, Int.natAbs_mul, Int.natAbs_natCast] at h1
  rw [f2, Int.natAbs_mul, Int.natAbs_natCast] at h2
  have := Nat.le_mul_of_pos_right p.natAbs g1
  have := Nat.le_mul_of_pos_right q.natAbs g1
  omega
theorem wayR_bits {x y : Rat} {k1 k2 : Nat} (h : ¬ (x = 0 ∧ y = 0)) (h1 : Bd k1 x) (h2 : Bd k2 y) {p q : Int} (e : wayR x y = .tup [.int p, .int q]) : p.natAbs < 2 ^ (k1 + k2) ∧ q.natAbs < 2 ^ (k1 + k2) :=
  way_bits (wayR_gcd h) (mul_ab h1.n h2.d') (by rw [Nat.add_comm]; exact mul_ab h2.n h1.d') e
theorem wayR_mul {x y x' y' l : Rat} (h : ¬ (x = 0 ∧ y = 0)) (hl : 0 < l) (e1 : x' = l * x) (e2 : y' = l * y) : wayR x' y' = wayR x y := by
  have h' : ¬ (x' = 0 ∧ y' = 0) := fun ⟨a, b⟩ => h ⟨by
    rw [e1] at a
    rcases Rat.mul_eq_zero.mp a with z | z
    · rw [z] at hl; exact absurd hl (by decide)
    · exact z, by
    rw [e2] at b
    rcases Rat.mul_eq_zero.mp b with z | z
    · rw [z] at hl; exact absurd hl (by decide)
    · exact z⟩
  obtain ⟨p, q, e, g, m, hm, a1, a2⟩ := wayR_spec h
  obtain ⟨p', q', e', g', m', hm', a1', a2'⟩ := wayR_spec h'
  have m0 : m ≠ 0 := fun z => by rw [z] at hm; exact absurd hm (by decide)
  have hk : m / m * m = m := Rat.div_mul_cancel m0
  have hi : m' * l / m * m = m' * l := Rat.div_mul_cancel m0
  have hp : 0 < m' * l / m := rat_div_pos (Rat.mul_pos hm' hl) hm
  obtain ⟨r1, r2⟩ := way_uniq (p := p) (q := q) (p' := p') (q' := q') (l := m' * l / m) hp g g' (by rw [a1', e1, a1]; grind) (by rw [a2', e2, a2]; grind)
  rw [e, e', r1, r2]
theorem wayR_eq {x y x' y' : Rat} (h : ¬ (x = 0 ∧ y = 0)) (h' : ¬ (x' = 0 ∧ y' = 0)) (e : wayR x' y' = wayR x y) : ∃ l : Rat, 0 < l ∧ x' = l * x ∧ y' = l * y := by
  obtain ⟨p, q, f, g, m, hm, a1, a2⟩ := wayR_spec h
  obtain ⟨p', q', f', g', m', hm', a1', a2'⟩ := wayR_spec h'
  rw [f, f'] at e
  cases e
  have m0 : m' ≠ 0 := fun z => by rw [z] at hm'; exact absurd hm' (by decide)
  have hi : m / m' * m' = m := Rat.div_mul_cancel m0
  refine ⟨m / m', rat_div_pos hm hm', ?_, ?_⟩
  · have : (x' - m / m' * x) * m' = 0 := by grind
    rcases Rat.mul_eq_zero.mp this with z | z
    · grind
    · exact absurd z m0
  · have : (y' - m / m' * y) * m' = 0 := by grind
    rcases Rat.mul_eq_zero.mp this with z | z
    · grind
    · exact absurd z m0
instance {p q : Int} : Eqb 1 (way p q) := ⟨rfl⟩
noncomputable instance : DecidableEq D := Classical.typeDecidableEq D
theorem eqD_wayR {p q p' q' : Int} : eqD (way p q) (way p' q') = decide (way p q = way p' q') := by
  unfold way
  rw [eqD_tup1, eqD_tup1, eqD_tup0, eqD_int, eqD_int, Bool.eq_iff_iff]
  simp
theorem sp_reduced2 {n m : Int} {b : Nat} {ρ : En} {Q : D → En → Prop} (h1 : n.natAbs < 2 ^ b) (h2 : m.natAbs < 2 ^ b) (hb : b ≤ 9000) : wp (callV 1 m_reduced [.tup [.int n, .int m]]) ρ Q ↔ Q (way n m) ρ := by
  apply wp_eq
  unfold m_reduced m_reducedB
  rw [wp_V]
  simp! [↓sp_divisor_of2]
  split
  · rename_i hg
    have k : divOk (Int.gcd n m : Int) = true := divOk_of (by omega) (by rw [Int.natAbs_natCast]; exact gcd_lt (by omega) h1 h2) hb
    simp! [↓wp_lc, ↓wp_lc1, ↓wp_lc0, wipeE, isOwn, List.all_cons, List.all_nil, k, way]
  · rename_i hg
    simp! []
    have e : way n m = .tup [.int n, .int m] := by
      unfold way
      rcases (by omega : Int.gcd n m = 0 ∨ Int.gcd n m = 1) with z | z
      · rw [z]
        obtain ⟨rfl, rfl⟩ := Int.gcd_eq_zero_iff.mp z
        rfl
      · rw [z]
        simp
    exact e.symm
theorem sp_way_along {x y : Rat} {k1 k2 : Nat} {ρ : En} {Q : D → En → Prop} [h1 : Bd k1 x] [h2 : Bd k2 y] (h : k1 + k2 ≤ 9000) : wp (callV 2 m_way_along [Fr x, Fr y]) ρ Q ↔ Q (wayR x y) ρ := by
  apply wp_eq
  unfold m_way_along m_way_alongB
  rw [wp_V]
  simp! []
  refine ⟨mulOk_of h1.n h2.d' (by omega), mulOk_of h2.n h1.d' (by omega), ?_⟩
  rw [sp_reduced2 (b := k1 + k2) (mul_ab h1.n h2.d') (by rw [Nat.add_comm]; exact mul_ab h2.n h1.d') h]
  simp! []
theorem sp_law_low2g {n m : Int} {b : Nat} {ρ : En} {Q : D → En → Prop} (hg0 : Int.gcd n m ≠ 0) (h1 : n.natAbs < 2 ^ b) (h2 : m.natAbs < 2 ^ b) (hb : b ≤ 9000) : wp (callV 1 m_law_low [.tup [.int n, .int m]]) ρ Q ↔ Q (way n m) ρ := by
  apply wp_eq
  unfold m_law_low m_law_lowB
  rw [wp_V]
  have hg : Int.gcd n m < 2 ^ b := gcd_lt hg0 h1 h2
  have k : divOk (Int.gcd n m : Int) = true := divOk_of (by omega) (by rw [Int.natAbs_natCast]; exact hg) hb
  have e : Int.gcd (Int.gcd 0 n : Int) m = Int.gcd n m := by simp [Int.gcd]
  simp! [↓wp_loop1, ↓wp_loop0, ↓sp_law_gcd, ↓wp_lc, ↓wp_lc1, ↓wp_lc0, wipeE, isOwn, List.all_cons, List.all_nil, e, k, Nat.reduceLeDiff, way]
theorem sp_law_ray {x y : Rat} {k1 k2 : Nat} {ρ : En} {Q : D → En → Prop} [h1 : Bd k1 x] [h2 : Bd k2 y] (h : k1 + k2 ≤ 9000) (h0 : ¬ (x = 0 ∧ y = 0)) : wp (callV 2 m_law_ray [Fr x, Fr y]) ρ Q ↔ Q (wayR x y) ρ := by
  apply wp_eq
  unfold m_law_ray m_law_rayB
  rw [wp_V]
  simp! []
  refine ⟨mulOk_of h1.n h2.d' (by omega), mulOk_of h2.n h1.d' (by omega), ?_⟩
  rw [sp_law_low2g (b := k1 + k2) (wayR_gcd h0) (mul_ab h1.n h2.d') (by rw [Nat.add_comm]; exact mul_ab h2.n h1.d') h]
  simp! []
def ahd' (a b d e x y : Rat) : Rat := b + ((1 + d) * x + (a - e) * y)
def asd' (a c d e x y : Rat) : Rat := c + ((a + e) * x + (d - 1) * y)
theorem ahd_eq {a b d e x y : Rat} : ahd' a b d e x y = ahd a b d e x y := by unfold ahd ahd'; grind
theorem asd_eq {a c d e x y : Rat} : asd' a c d e x y = asd a c d e x y := by unfold asd asd'; grind
instance Bd.ahd' {a b d e x y : Rat} {k1 k2 k4 k5 k6 k7 : Nat} [Bd k1 a] [Bd k2 b] [Bd k4 d] [Bd k5 e] [Bd k6 x] [Bd k7 y] : Bd (k1 + k2 + k4 + k5 + k6 + k7 + 7) (ahd' a b d e x y) := by rw [ahd_eq]; infer_instance
instance Bd.asd' {a c d e x y : Rat} {k1 k3 k4 k5 k6 k7 : Nat} [Bd k1 a] [Bd k3 c] [Bd k4 d] [Bd k5 e] [Bd k6 x] [Bd k7 y] : Bd (k1 + k3 + k4 + k5 + k6 + k7 + 7) (asd' a c d e x y) := by rw [asd_eq]; infer_instance
theorem sp_ship_rows {a b c d e : Rat} {k1 k2 k3 k4 k5 : Nat} {ρ : En} {Q : D → En → Prop} [Bd k1 a] [Bd k2 b] [Bd k3 c] [Bd k4 d] [Bd k5 e] (h : k1 + k2 + k3 + k4 + k5 ≤ 3000) :
    wp (callV 1 m_ship_rows [five a b c d e]) ρ Q ↔ Q (.tup [.tup [Fr b, Fr (1 + d), Fr (a - e)], .tup [Fr c, Fr (a + e), Fr (d - 1)]]) ρ := by
  apply wp_eq
  unfold m_ship_rows m_ship_rowsB
  rw [wp_V]
  simp! [R_one, ↓sp_ratio_sum, ↓sp_ratio_less]
theorem sp_row_value {k l m x y : Rat} {k1 k2 k3 k4 k5 : Nat} {ρ : En} {Q : D → En → Prop} [Bd k1 k] [Bd k2 l] [Bd k3 m] [Bd k4 x] [Bd k5 y] (h : k1 + k2 + k3 + k4 + k5 ≤ 4000) :
    wp (callV 2 m_row_value [.tup [Fr k, Fr l, Fr m], .tup [Fr x, Fr y]]) ρ Q ↔ Q (Fr (k + (l * x + m * y))) ρ := by
  apply wp_eq
  unfold m_row_value m_row_valueB
  rw [wp_V]
  simp! [↓sp_ratio_product, ↓sp_ratio_sum]
theorem sp_course_shown {a b c d e x y : Rat} {k1 k2 k3 k4 k5 k6 k7 : Nat} {ρ : En} {Q : D → En → Prop} [Bd k1 a] [Bd k2 b] [Bd k3 c] [Bd k4 d] [Bd k5 e] [Bd k6 x] [Bd k7 y] (h : k1 + k2 + k3 + k4 + k5 + k6 + k7 ≤ 1500) :
    wp (callV 2 m_course_shown [five a b c d e, .tup [Fr x, Fr y]]) ρ Q ↔ if ahd' a b d e x y = 0 ∧ asd' a c d e x y = 0 then Q .non ρ else Q (wayR (ahd' a b d e x y) (-asd' a c d e x y)) ρ := by
  have e1 : b + ((1 + d) * x + (a - e) * y) = ahd' a b d e x y := rfl
  have e2 : c + ((a + e) * x + (d - 1) * y) = asd' a c d e x y := rfl
  by_cases h0 : ahd' a b d e x y = 0 ∧ asd' a c d e x y = 0
  · rw [if_pos h0]
    apply wp_eq
    unfold m_course_shown m_course_shownB
    rw [wp_V]
    simp! [↓sp_ship_rows, ↓sp_row_value, e1, e2, ↓wp_lc, ↓wp_lc1, ↓wp_lc0, wipeE, isOwn, List.all_cons, List.all_nil, R_zero, ↓ow_eq, h0.1, h0.2]
  · rw [if_neg h0]
    apply wp_eq
    unfold m_course_shown m_course_shownB
    rw [wp_V]
    simp! [↓sp_ship_rows, ↓sp_row_value, e1, e2, ↓wp_lc, ↓wp_lc1, ↓wp_lc0, wipeE, isOwn, List.all_cons, List.all_nil, R_zero, ↓ow_eq]
    by_cases h1 : ahd' a b d e x y = 0
    · have h2 : ¬ asd' a c d e x y = 0 := fun z => h0 ⟨h1, z⟩
      simp! [h1, h2, ↓sp_ratio_back, ↓sp_way_along]
    · simp! [h1, ↓sp_ratio_back, ↓sp_way_along]
theorem sp_course_at {a b c d e x y : Rat} {k1 k2 k3 k4 k5 k6 k7 : Nat} {ρ : En} {Q : D → En → Prop} [Bd k1 a] [Bd k2 b] [Bd k3 c] [Bd k4 d] [Bd k5 e] [Bd k6 x] [Bd k7 y] (h : k1 + k2 + k3 + k4 + k5 + k6 + k7 ≤ 1500) (u : x * x + y * y = 1) :
    wp (callV 2 m_course_at [five a b c d e, .tup [Fr x, Fr y]]) ρ Q ↔ if ahd' a b d e x y = 0 ∧ asd' a c d e x y = 0 then Q .non ρ else Q (wayR (ahd' a b d e x y) (-asd' a c d e x y)) ρ := by
  by_cases h0 : ahd' a b d e x y = 0 ∧ asd' a c d e x y = 0
  · rw [if_pos h0]
    apply wp_eq
    unfold m_course_at m_course_atB
    rw [wp_V]
    simp! [↓sp_check_needle, ↓sp_course_shown, h0]
  · rw [if_neg h0]
    apply wp_eq
    unfold m_course_at m_course_atB
    rw [wp_V]
    simp! [↓sp_check_needle, ↓sp_course_shown, h0]
theorem sp_law_shown {a b c d e x y : Rat} {k1 k2 k3 k4 k5 k6 k7 : Nat} {ρ : En} {Q : D → En → Prop} [Bd k1 a] [Bd k2 b] [Bd k3 c] [Bd k4 d] [Bd k5 e] [Bd k6 x] [Bd k7 y] (h : k1 + k2 + k3 + k4 + k5 + 6 * k6 + 6 * k7 ≤ 1500) :
    wp (callV 2 m_law_shown [five a b c d e, .tup [Fr x, Fr y]]) ρ Q ↔ if ahd a b d e x y = 0 ∧ asd a c d e x y = 0 then Q .non ρ else Q (wayR (ahd a b d e x y) (-asd a c d e x y)) ρ := by
  by_cases h0 : ahd a b d e x y = 0 ∧ asd a c d e x y = 0
  · rw [if_pos h0]
    apply wp_eq
    unfold m_law_shown m_law_shownB
    rw [wp_V]
    simp! [↓sp_law_ship, ↓ow_ne, h0, Rat.num_eq_zero]
  · rw [if_neg h0]
    apply wp_eq
    unfold m_law_shown m_law_shownB
    rw [wp_V]
    have h3 : ¬ (ahd a b d e x y = 0 ∧ -asd a c d e x y = 0) := fun ⟨z1, z2⟩ => h0 ⟨z1, by grind⟩
    by_cases h1 : ahd a b d e x y = 0
    · have h2 : ¬ asd a c d e x y = 0 := fun z => h0 ⟨h1, z⟩
      simp! [↓sp_law_ship, ↓ow_ne, Rat.num_eq_zero, h1, h2, ↓sp_law_back]
      rw [h1] at h3
      rw [sp_law_ray (by omega) h3]
      simp! [h1]
    · simp! [↓sp_law_ship, ↓ow_ne, Rat.num_eq_zero, h1, ↓sp_law_back]
      rw [sp_law_ray (by omega) h3]
      simp! []
abbrev row4 (a b c p : Rat) : D := .tup [Fr a, Fr b, Fr c, Fr p]
abbrev iron3 (r1 r2 r3 : D) : D := .tup [r1, r2, r3]
def stg (a e : Rat) : Rat := 1 + 1 / 2 * (a + e)
instance Bd.stg {a e : Rat} {k1 k2 : Nat} [Bd k1 a] [Bd k2 e] : Bd (k1 + k2 + 7) (stg a e) := Bd.mono (by unfold PB.stg; infer_instance) (by omega)
def RowB (k : Nat) (f : D) : Prop := ∃ a b c p, f = row4 a b c p ∧ Bd k a ∧ Bd k b ∧ Bd k c ∧ Bd k p
theorem sp_are_ratios4 {a b c d : Rat} {ρ : En} {Q : D → En → Prop} : wp (callV 2 m_are_ratios [row4 a b c d, .int 4]) ρ Q ↔ Q (.bl true) ρ := by
  apply wp_eq
  unfold m_are_ratios m_are_ratiosB
  rw [wp_V]
  simp! [↓ow_eq, ↓wp_lc, ↓wp_lc1, ↓wp_lc0, wipeE, isOwn, List.all_cons, List.all_nil, ↓sp_is_ratioR]
theorem ne_of_pos {x : Rat} (h : 0 < x) : x ≠ 0 := fun z => by rw [z] at h; exact absurd h (by decide)
theorem mul_ne {x y : Rat} (h1 : x ≠ 0) (h2 : y ≠ 0) : x * y ≠ 0 := fun z => by rcases Rat.mul_eq_zero.mp z with w | w <;> contradiction
abbrev five5 (a b c p d e f q h z : Rat) : D := five ((d - b) / (2 * stg a e)) ((c * z + p) / (stg a e * h)) ((f * z + q) / (stg a e * h)) ((a - e) / (2 * stg a e)) ((d + b) / (2 * stg a e))
theorem two_ne : (2 : Rat) ≠ 0 := by decide +kernel
theorem divInt_pos {n m : Int} (hn : 0 < n) (hm : 0 < m) : 0 < Rat.divInt n m := by
  rw [Rat.divInt_eq_div]
  exact rat_div_pos (by rw [show (0 : Rat) = ((0 : Int) : Rat) from rfl, Rat.intCast_lt_intCast]; exact hn) (by rw [show (0 : Rat) = ((0 : Int) : Rat) from rfl, Rat.intCast_lt_intCast]; exact hm)
theorem sp_law_over {i n k : Nat} {L : List D} {w : Int} {ρ : En} {Q : D → En → Prop} (e : ρ[i]? = some (.own L)) (hL : Lode (n + 4) L) (h0 : 1 ≤ w) (h1 : w < 2 ^ k) (hk : 2 ≤ k) (hk2 : k ≤ 39)
    (hQ : ∀ (q : Rat) L', Bd (k + 1) q → 0 < q → Lode n L' → Q (Fr q) (ρ.set i (.own L'))) : wp (callO 2 m_law_over i [.int w]) ρ Q := by
  have p1 : (2 : Int) ^ k ≤ 2 ^ 39 := by
    have : (2 : Nat) ^ k ≤ 2 ^ 39 := Nat.pow_le_pow_right (by decide) hk2
    exact_mod_cast this
  have p2 : (2 : Int) ^ 3 ≤ 2 ^ (k + 1) := by
    have : (2 : Nat) ^ 3 ≤ 2 ^ (k + 1) := Nat.pow_le_pow_right (by decide) (by omega)
    exact_mod_cast this
  have p3 : (2 : Int) ^ (k + 1) = 2 * 2 ^ k := by rw [Int.pow_succ]; omega
  unfold m_law_over m_law_overB
  rw [wp_O, e]
  simp! []
  refine sp_law_about (n := n + 2) rfl hL (by omega) (by omega) fun a L1 a0 a1 hL1 => ?_
  simp! []
  refine sp_law_some (n := n + 1) rfl hL1 (by simp) (by simp) fun d L2 hd hL2 => ?_
  obtain ⟨m, rfl, m1, m2⟩ : ∃ m : Int, d = .int m ∧ 1 ≤ m ∧ m < 8 := by
    simp only [List.mem_cons, List.not_mem_nil, or_false] at hd
    rcases hd with rfl | rfl | rfl | rfl | rfl <;> exact ⟨_, rfl, by decide, by decide⟩
  simp! []
  refine sp_law_deal rfl hL2 (by omega) (by omega) fun b L3 b0 b1 hL3 => ?_
  have hb : (1 + b).natAbs < 2 ^ (k + 1) := natAbs_lt_pow (by omega) (by omega)
  have ha : (1 + (a.natAbs : Int)).natAbs < 2 ^ (k + 1) := natAbs_lt_pow (by omega) (by omega)
  simp! []
  rw [sp_law_part (b := k + 1) (by omega) hb (by omega)]
  simp! []
  exact hQ _ _ (Bd.divInt (by omega) ha hb) (divInt_pos (by omega) (by omega)) hL3
theorem upto3 : upto 0 3 = [.int 0, .int 1, .int 2] := rfl
theorem upto4 : upto 0 4 = [.int 0, .int 1, .int 2, .int 3] := rfl
theorem list3 {α : Type} {xs : List α} (h : xs.length = 3) : ∃ a b c, xs = [a, b, c] := by
  match xs, h with
  | [a, b, c], _ => exact ⟨a, b, c, rfl⟩
theorem list4 {α : Type} {xs : List α} (h : xs.length = 4) : ∃ a b c d, xs = [a, b, c, d] := by
  match xs, h with
  | [a, b, c, d], _ => exact ⟨a, b, c, d, rfl⟩
def IronB (k : Nat) (f : D) : Prop := ∃ a b c p d e f' q g h i r, f = iron3 (row4 a b c p) (row4 d e f' q) (row4 g h i r) ∧ Bd k a ∧ Bd k b ∧ Bd k c ∧ Bd k p ∧ Bd k d ∧ Bd k e ∧ Bd k f' ∧ Bd k q ∧ Bd k g ∧ Bd k h ∧ Bd k i ∧ Bd k r ∧ 0 < stg a e
def qtr (c s : Rat) : Int := if 0 < c ∧ 0 ≤ s then 0 else if 0 < s then 1 else if c < 0 then 2 else 3
theorem num_nn {q : Rat} : 0 ≤ q.num ↔ 0 ≤ q := Rat.num_nonneg
theorem qtr_bd (c s : Rat) : 0 ≤ qtr c s ∧ qtr c s ≤ 3 := by
  unfold qtr; split <;> (try split) <;> (try split) <;> decide
theorem qtr_cases (c s : Rat) : qtr c s = 0 ∨ qtr c s = 1 ∨ qtr c s = 2 ∨ qtr c s = 3 := by have := qtr_bd c s; omega
instance {c s : Rat} : Ib 3 (qtr c s) := ⟨by have := qtr_bd c s; omega⟩
theorem sp_quarter_by {c s : Rat} {ρ : En} {Q : D → En → Prop} : wp (callV 2 m_quarter_by [.int c.num, .int s.num]) ρ Q ↔ Q (.int (qtr c s)) ρ := by
  apply wp_eq
  unfold m_quarter_by m_quarter_byB
  rw [wp_V]
  unfold qtr
  by_cases h1 : 0 < c <;> by_cases h2 : 0 ≤ s <;> by_cases h3 : 0 < s <;> by_cases h4 : c < 0 <;> simp! [num_pos, num_nn, num_neg', h1, h2, h3, h4, and_true, and_false, false_and]
def lts (p q : Rat) : Bool := decide (p < q)
theorem lt_cross (p q : Rat) : p.num * (q.den : Int) < q.num * (p.den : Int) ↔ p < q := by
  exact (Rat.lt_iff p q).symm
def ordr (c1 s1 c2 s2 : Rat) : Int := if qtr c1 s1 < qtr c2 s2 then -1 else if qtr c2 s2 < qtr c1 s1 then 1 else sgn (s1 * c2 - c1 * s2).num
theorem sgn_neg (n : Int) : sgn (-n) = -sgn n := by
  unfold sgn; split <;> split <;> (try split) <;> omega
theorem sgn_bd (n : Int) : sgn n = 0 ∨ sgn n = 1 ∨ sgn n = -1 := by
  unfold sgn; split <;> (try split) <;> omega
theorem ordr_bd (c1 s1 c2 s2 : Rat) : ordr c1 s1 c2 s2 = 0 ∨ ordr c1 s1 c2 s2 = 1 ∨ ordr c1 s1 c2 s2 = -1 := by
  unfold ordr; split
  · simp
  · split
    · simp
    · exact sgn_bd _
instance {c1 s1 c2 s2 : Rat} : Ib 3 (ordr c1 s1 c2 s2) := ⟨by have := ordr_bd c1 s1 c2 s2; omega⟩
theorem ordr_back (c1 s1 c2 s2 : Rat) : ordr c2 s2 c1 s1 = -ordr c1 s1 c2 s2 := by
  unfold ordr
  have e : s2 * c1 - c2 * s1 = -(s1 * c2 - c1 * s2) := by grind
  rw [e, Rat.neg_num, sgn_neg]
  split <;> split <;> omega
theorem sp_sign_of {n : Int} {ρ : En} {Q : D → En → Prop} : wp (callV 1 m_sign_of [.int n]) ρ Q ↔ Q (.int (sgn n)) ρ := by
  apply wp_eq
  unfold m_sign_of m_sign_ofB
  rw [wp_V]
  unfold sgn
  by_cases h1 : 0 < n
  · simp! [h1]
  · by_cases h2 : n < 0
    · simp! [h1, h2]
    · simp! [h1, h2]
def rt (n : Int) : Int := (Float64.isqrt n.toNat : Nat)
theorem rt_spec {n : Int} (h : 0 ≤ n) : 0 ≤ rt n ∧ rt n * rt n ≤ n ∧ n < (rt n + 1) * (rt n + 1) := by
  have e := PySem.Float64.isqrt_spec n.toNat
  unfold rt
  generalize Float64.isqrt n.toNat = r at *
  obtain ⟨m, rfl⟩ : ∃ m : Nat, n = m := ⟨n.toNat, by omega⟩
  rw [Int.toNat_natCast] at e
  refine ⟨by omega, ?_, ?_⟩
  · exact_mod_cast e.1
  · exact_mod_cast e.2
theorem rt_uniq {n r : Int} (h0 : 0 ≤ r) (h1 : r * r ≤ n) (h2 : n < (r + 1) * (r + 1)) : rt n = r := by
  have hn : 0 ≤ n := Int.le_trans (Int.mul_nonneg h0 h0) h1
  obtain ⟨s0, s1, s2⟩ := rt_spec hn
  generalize rt n = s at *
  rcases Int.lt_trichotomy s r with h | h | h
  · have := Int.mul_le_mul (show s + 1 ≤ r by omega) (show s + 1 ≤ r by omega) (by omega) h0
    omega
  · exact h
  · have := Int.mul_le_mul (show r + 1 ≤ s by omega) (show r + 1 ≤ s by omega) (by omega) s0
    omega
theorem rt_sq {r : Int} (h0 : 0 ≤ r) : rt (r * r) = r := by
  refine rt_uniq h0 (Int.le_refl _) ?_
  have : (r + 1) * (r + 1) = r * r + 2 * r + 1 := by grind
  omega
theorem rt_le {n : Int} (h : 0 ≤ n) : rt n ≤ n := by
  obtain ⟨s0, s1, s2⟩ := rt_spec h
  by_cases z : rt n = 0
  · omega
  · have := Int.mul_le_mul (show (1 : Int) ≤ rt n by omega) (Int.le_refl (rt n)) s0 s0
    omega
theorem rt_pos {n : Int} (h : 0 < n) : 0 < rt n := by
  obtain ⟨s0, s1, s2⟩ := rt_spec (Int.le_of_lt h)
  by_cases z : rt n = 0
  · rw [z] at s2; omega
  · omega
theorem le_of_sq {h n : Int} (h1 : 1 ≤ h) (h2 : h * h ≤ n) : h ≤ n := by
  have := Int.mul_le_mul h1 (Int.le_refl h) (by omega) (by omega)
  omega
theorem nat_lt_of_le {x n : Int} {b : Nat} (h0 : 0 ≤ x) (h : x ≤ 2 * n + 1) (hb : n.natAbs < 2 ^ b) : x.natAbs < 2 ^ (b + 2) := by
  have : 2 ^ (b + 2) = 4 * 2 ^ b := by rw [Nat.pow_add]; omega
  omega
theorem sp_are_wholes2 {p q : Int} {ρ : En} {Q : D → En → Prop} : wp (callV 2 m_are_wholes [.tup [.int p, .int q], .int 2]) ρ Q ↔ Q (.bl true) ρ := by
  apply wp_eq
  unfold m_are_wholes m_are_wholesB
  rw [wp_V]
  simp! [↓ow_eq, ↓wp_lc, ↓wp_lc1, ↓wp_lc0, wipeE, isOwn, List.all_cons, List.all_nil, ↓sp_is_whole_int, Nat.reduceLeDiff]
theorem sp_is_reduced2 {p q : Int} {ρ : En} {Q : D → En → Prop} : wp (callV 1 m_is_reduced [.tup [.int p, .int q]]) ρ Q ↔ Q (.bl (decide (Int.gcd p q = 1))) ρ := by
  apply wp_eq
  unfold m_is_reduced m_is_reducedB
  rw [wp_V]
  have e : ((Int.gcd p q : Int) = 1) = (Int.gcd p q = 1) := propext ⟨fun z => by omega, fun z => by omega⟩
  simp! [↓ow_eq, ↓sp_divisor_of2, e]
theorem sp_is_way {p q : Int} {ρ : En} {Q : D → En → Prop} : wp (callV 1 m_is_way [.tup [.int p, .int q]]) ρ Q ↔ Q (.bl (decide (Int.gcd p q = 1))) ρ := by
  apply wp_eq
  unfold m_is_way m_is_wayB
  rw [wp_V]
  simp! [↓sp_are_wholes2, ↓sp_is_reduced2]
theorem sp_check_course {p q : Int} {ρ : En} {Q : D → En → Prop} (h : Int.gcd p q = 1) : wp (callV 1 m_check_course [.tup [.int p, .int q]]) ρ Q ↔ Q .non ρ := by
  apply wp_eq
  unfold m_check_course m_check_courseB
  rw [wp_V]
  simp! [↓sp_is_way, h]
theorem sq_ge (p : Int) : 0 ≤ p * p := by
  rcases Int.le_total 0 p with h | h
  · exact Int.mul_nonneg h h
  · have := Int.mul_nonneg (show 0 ≤ -p by omega) (show 0 ≤ -p by omega)
    rwa [Int.neg_mul_neg] at this
theorem sq_sum_pos {p q : Int} (h : Int.gcd p q = 1) : 0 < p * p + q * q := by
  have h1 := sq_ge p
  have h2 := sq_ge q
  by_cases z : p = 0
  · subst z
    by_cases y : q = 0
    · subst y; exact absurd h (by decide)
    · have : 0 < q * q := by
        rcases Int.lt_or_gt_of_ne y with c | c
        · have := Int.mul_pos (show 0 < -q by omega) (show 0 < -q by omega); rwa [Int.neg_mul_neg] at this
        · exact Int.mul_pos c c
      omega
  · have : 0 < p * p := by
      rcases Int.lt_or_gt_of_ne z with c | c
      · have := Int.mul_pos (show 0 < -p by omega) (show 0 < -p by omega); rwa [Int.neg_mul_neg] at this
      · exact Int.mul_pos c c
    omega
theorem sq_sum_bits {p q : Int} {k : Nat} (h1 : p.natAbs < 2 ^ k) (h2 : q.natAbs < 2 ^ k) : (p * p + q * q).natAbs < 2 ^ (2 * k + 1) := by
  have a1 := mul_ab h1 h1
  have a2 := mul_ab h2 h2
  have : 2 ^ (2 * k + 1) = 2 * 2 ^ (k + k) := by rw [Nat.pow_succ, Nat.two_mul]; omega
  omega
theorem rt_bits {n : Int} {b : Nat} (h0 : 0 ≤ n) (h : n.natAbs < 2 ^ b) : (rt n).natAbs < 2 ^ b := by
  have h1 := rt_le h0
  have h2 := (rt_spec h0).1
  omega
theorem log_lt {n : Int} {b : Nat} (h0 : 0 < n) (h : n.natAbs < 2 ^ b) (hb : b < 9000) : n.toNat.log2 < 9000 := by
  have : n.toNat.log2 < b := (Nat.log2_lt (by omega)).mpr (by omega)
  omega
def WayC (k : Nat) (d : D) : Prop := ∃ p q : Int, d = .tup [.int p, .int q] ∧ Int.gcd p q = 1 ∧ p.natAbs < 2 ^ k ∧ q.natAbs < 2 ^ k
theorem WayC.mono {j k : Nat} {d : D} (h : WayC j d) (l : j ≤ k) : WayC k d := by
  obtain ⟨p, q, e, g, h1, h2⟩ := h
  have := Nat.pow_le_pow_right (show 0 < 2 by decide) l
  exact ⟨p, q, e, g, by omega, by omega⟩
theorem way_C {n m : Int} {b : Nat} (h0 : ¬ (n = 0 ∧ m = 0)) (h1 : n.natAbs < 2 ^ b) (h2 : m.natAbs < 2 ^ b) : WayC b (way n m) := by
  have h : Int.gcd n m ≠ 0 := fun z => h0 (Int.gcd_eq_zero_iff.mp z)
  obtain ⟨p, q, e, g, _, _⟩ := way_spec h
  obtain ⟨b1, b2⟩ := way_bits h h1 h2 e
  exact ⟨p, q, e, g, b1, b2⟩
theorem wayR_C {x y : Rat} {k1 k2 : Nat} (h : ¬ (x = 0 ∧ y = 0)) (h1 : Bd k1 x) (h2 : Bd k2 y) : WayC (k1 + k2) (wayR x y) := by
  obtain ⟨p, q, e, g, _⟩ := wayR_spec h
  obtain ⟨b1, b2⟩ := wayR_bits h h1 h2 e
  exact ⟨p, q, e, g, b1, b2⟩
theorem unit_ne {x y : Rat} (u : x * x + y * y = 1) : ¬ (x = 0 ∧ y = 0) := fun ⟨a, b⟩ => by rw [a, b] at u; exact absurd u (by decide +kernel)
def FiveK (k : Nat) (f : D) : Prop := ∃ a b c d e, f = five a b c d e ∧ Bd k a ∧ Bd k b ∧ Bd k c ∧ Bd k d ∧ Bd k e
theorem sq_nn (x : Rat) : 0 ≤ x * x := by
  rcases Rat.nonneg_total x with h | h
  · exact Rat.mul_nonneg h h
  · have := Rat.mul_nonneg h h
    rwa [Rat.neg_mul, Rat.mul_neg, Rat.neg_neg] at this
theorem sq_zero {x y : Rat} : x * x + y * y = 0 ↔ x = 0 ∧ y = 0 := by
  constructor
  · intro h
    have h1 := sq_nn x
    have h2 := sq_nn y
    have e1 : x * x = 0 := by grind
    have e2 : y * y = 0 := by grind
    refine ⟨?_, ?_⟩
    · rcases Rat.mul_eq_zero.mp e1 with z | z <;> exact z
    · rcases Rat.mul_eq_zero.mp e2 with z | z <;> exact z
  · rintro ⟨rfl, rfl⟩; grind
theorem sq_not_neg (x y : Rat) : ¬ x * x + y * y < 0 := by
  have h1 := sq_nn x
  have h2 := sq_nn y
  grind
def wnm (a d e : Rat) : Rat := 1 + a * a - (d * d + e * e)
def tn1 (a b c d e : Rat) : Rat := b + a * c - (d * b + e * c)
def tn2 (a b c d e : Rat) : Rat := c + d * c - (a * b + e * b)
instance Bd.wnm {a d e : Rat} {k1 k4 k5 : Nat} [Bd k1 a] [Bd k4 d] [Bd k5 e] : Bd (2 * k1 + 2 * k4 + 2 * k5 + 4) (wnm a d e) := Bd.mono (by unfold PB.wnm; infer_instance) (by omega)
instance Bd.tn1 {a b c d e : Rat} {k1 k2 k3 k4 k5 : Nat} [Bd k1 a] [Bd k2 b] [Bd k3 c] [Bd k4 d] [Bd k5 e] : Bd (k1 + 2 * k2 + 2 * k3 + k4 + k5 + 3) (tn1 a b c d e) := Bd.mono (by unfold PB.tn1; infer_instance) (by omega)
instance Bd.tn2 {a b c d e : Rat} {k1 k2 k3 k4 k5 : Nat} [Bd k1 a] [Bd k2 b] [Bd k3 c] [Bd k4 d] [Bd k5 e] : Bd (k1 + 2 * k2 + 2 * k3 + k4 + k5 + 3) (tn2 a b c d e) := Bd.mono (by unfold PB.tn2; infer_instance) (by omega)
theorem R_four : (.tup [.int 4, .int 1] : D) = Fr 4 := rfl
theorem R_sixth : (.tup [.int 1, .int 6] : D) = Fr (1 / 6) := by
  have h1 : (1 / 6 : Rat).num = 1 := by decide +kernel
  have h2 : (1 / 6 : Rat).den = 6 := by decide +kernel
  unfold Fr; rw [h1, h2]; rfl
theorem R_fifth : (.tup [.int 1, .int 5] : D) = Fr (1 / 5) := by
  have h1 : (1 / 5 : Rat).num = 1 := by decide +kernel
  have h2 : (1 / 5 : Rat).den = 5 := by decide +kernel
  unfold Fr; rw [h1, h2]; rfl
theorem R_ninth : (.tup [.int 1, .int 9] : D) = Fr (1 / 9) := by
  have h1 : (1 / 9 : Rat).num = 1 := by decide +kernel
  have h2 : (1 / 9 : Rat).den = 9 := by decide +kernel
  unfold Fr; rw [h1, h2]; rfl
theorem sp_gauss_less {a1 a2 b1 b2 : Rat} {k1 k2 k3 k4 : Nat} {ρ : En} {Q : D → En → Prop} [Bd k1 a1] [Bd k2 a2] [Bd k3 b1] [Bd k4 b2] (h : k1 + k2 + k3 + k4 ≤ 8000) :
    wp (callV 2 m_gauss_less [.tup [Fr a1, Fr a2], .tup [Fr b1, Fr b2]]) ρ Q ↔ Q (.tup [Fr (a1 - b1), Fr (a2 - b2)]) ρ := by
  apply wp_eq
  unfold m_gauss_less m_gauss_lessB
  rw [wp_V]
  simp! [↓sp_ratio_less]
theorem sp_conjugate {a1 a2 : Rat} {ρ : En} {Q : D → En → Prop} : wp (callV 1 m_conjugate [.tup [Fr a1, Fr a2]]) ρ Q ↔ Q (.tup [Fr a1, Fr (-a2)]) ρ := by
  apply wp_eq
  unfold m_conjugate m_conjugateB
  rw [wp_V]
  simp! [↓sp_ratio_back]
theorem sp_numbers_of {a b c d e : Rat} {k1 k2 k3 k4 k5 : Nat} {ρ : En} {Q : D → En → Prop} [Bd k1 a] [Bd k2 b] [Bd k3 c] [Bd k4 d] [Bd k5 e] (h : k1 + k2 + k3 + k4 + k5 ≤ 1500) :
    wp (callV 1 m_numbers_of [five a b c d e]) ρ Q ↔ Q (.tup [Fr (wnm a d e), Fr (tn1 a b c d e), Fr (tn2 a b c d e)]) ρ := by
  have e1 : 1 * 1 + a * a - (d * d + e * e) = wnm a d e := by unfold wnm; grind
  have e2 : 1 * b - -a * c - (d * b - e * -c) = tn1 a b c d e := by unfold tn1; grind
  have e3 : 1 * c + -a * b - (d * -c + e * b) = tn2 a b c d e := by unfold tn2; grind
  apply wp_eq
  unfold m_numbers_of m_numbers_ofB
  rw [wp_V]
  simp! [R_one, ↓sp_square_length, ↓sp_ratio_less, ↓sp_gauss_less, ↓sp_gauss_product, ↓sp_conjugate, e1, e2, e3]
theorem sp_law_flat_five {i n : Nat} {L : List D} {ρ : En} {Q : D → En → Prop} (e : ρ[i]? = some (.own L)) (hL : Lode (n + 20) L)
    (hQ : ∀ (a b c d e : Rat) L', Bd 130 a → Bd 130 b → Bd 130 c → Bd 130 d → Bd 130 e → Lode n L' → wnm a d e = 0 → tn1 a b c d e = 0 → tn2 a b c d e = 0 → Q (five a b c d e) (ρ.set i (.own L'))) : wp (callO 1 m_law_flat_five i []) ρ Q := by
  unfold m_law_flat_five m_law_flat_fiveB
  rw [wp_O, e]
  simp! []
  refine sp_law_any_part (n := n + 16) (k := 3) rfl hL (by decide) (by decide) (by decide) (by decide) fun a L1 ba hL1 => ?_
  simp! []
  refine sp_law_some_heading (n := n + 10) rfl hL1 fun x y L2 bx by' u hL2 => ?_
  simp! []
  refine sp_law_some (n := n + 9) rfl hL2 (by simp) (by simp) fun d L3 hd hL3 => ?_
  simp! []
  obtain ⟨v, rfl, v0, v1⟩ : ∃ v : Int, d = .int v ∧ 1 ≤ v ∧ v < 2 ^ 4 := by
    simp only [List.mem_cons, List.not_mem_nil, or_false] at hd
    rcases hd with rfl | rfl | rfl <;> exact ⟨_, rfl, by decide, by decide⟩
  refine sp_law_any_part (n := n + 5) (k := 4) rfl hL3 v0 v1 (by decide) (by decide) fun f L4 bf hL4 => ?_
  simp! [↓sp_law_turn]
  refine sp_law_deal (n := n + 4) rfl hL4 (by decide) (by decide) fun w L5 w0 w1 hL5 => ?_
  have fin : ∀ (a f : Rat) L', Bd 4 a → Bd 4 f → Lode n L' → Q (five a (f * x) (f * y) (x * x - y * y + a * (y * x + x * y)) (y * x + x * y - a * (x * x - y * y))) (ρ.set i (.own L')) := fun a f L' ba bf hl => by
    refine hQ _ _ _ _ _ _ (ba.mono (by decide)) (Bd.mono inferInstance (by decide)) (Bd.mono inferInstance (by decide)) (Bd.mono inferInstance (by decide)) (Bd.mono inferInstance (by decide)) hl ?_ ?_ ?_
    · have : wnm a (x * x - y * y + a * (y * x + x * y)) (y * x + x * y - a * (x * x - y * y)) = (1 + a * a) * (1 - (x * x + y * y) * (x * x + y * y)) := by unfold wnm; grind
      rw [this, u]; grind
    · have : tn1 a (f * x) (f * y) (x * x - y * y + a * (y * x + x * y)) (y * x + x * y - a * (x * x - y * y)) = f * (x + a * y) * (1 - (x * x + y * y)) := by unfold tn1; grind
      rw [this, u]; grind
    · have : tn2 a (f * x) (f * y) (x * x - y * y + a * (y * x + x * y)) (y * x + x * y - a * (x * x - y * y)) = f * (y - a * x) * (1 - (x * x + y * y)) := by unfold tn2; grind
      rw [this, u]; grind
  simp! [↓ow_eq]
  by_cases c0 : w = 0
  · simp! [c0, R_zero, R_two]
    refine sp_law_some (n := n + 3) rfl hL5 (by simp) (by simp) fun d L6 hd hL6 => ?_
    obtain ⟨f, rfl, bf⟩ : ∃ f : Rat, d = Fr f ∧ Bd 4 f := by
      simp only [List.mem_cons, List.not_mem_nil, or_false] at hd
      rcases hd with rfl | rfl | rfl
      · exact ⟨2, rfl, Bd.mono (inferInstance : Bd _ (2 : Rat)) (by decide)⟩
      · exact ⟨-2, rfl, Bd.mono (inferInstance : Bd _ (-2 : Rat)) (by decide)⟩
      · exact ⟨0, rfl, Bd.mono (inferInstance : Bd _ (0 : Rat)) (by decide)⟩
    simp! [↓sp_law_mul, ↓sp_law_add, ↓sp_law_gap]
    exact fin 0 f L6 (Bd.mono (inferInstance : Bd _ (0 : Rat)) (by decide)) bf (hL6.mono (by omega))
  · simp! [c0, ↓sp_law_mul, ↓sp_law_add, ↓sp_law_gap]
    exact fin a f L5 (ba.mono (by decide)) bf (hL5.mono (by omega))
theorem sp_law_kind_five {i n : Nat} {L : List D} {ρ : En} {Q : D → En → Prop} (e : ρ[i]? = some (.own L)) (hL : Lode (n + 60) L)
    (hQ : ∀ f L', FiveK 130 f → Lode n L' → Q f (ρ.set i (.own L'))) : wp (callO 1 m_law_kind_five i []) ρ Q := by
  unfold m_law_kind_five m_law_kind_fiveB
  rw [wp_O, e]
  simp! []
  refine sp_law_deal (n := n + 50) rfl (hL.mono (by omega)) (by decide) (by decide) fun w L1 w0 w1 hL1 => ?_
  simp! [↓ow_eq]
  by_cases c0 : w = 0
  · simp! [c0]
    refine sp_law_flat_five (n := n) rfl (hL1.mono (by omega)) fun a b c d e L2 ba bb bc bd be hL2 _ _ _ => ?_
    simp! []
    exact hQ _ _ ⟨_, _, _, _, _, rfl, ba, bb, bc, bd, be⟩ hL2
  by_cases c1 : w = 1
  · simp! [c0, c1, Int.reduceEq]
    refine sp_law_some_heading (n := n + 30) rfl (hL1.mono (by omega)) fun x y L2 bx by' u hL2 => ?_
    simp! []
    refine sp_law_dead_five (n := n) rfl (hL2.mono (by omega)) fun a b c d e L3 ba bb bc bd be hL3 _ _ => ?_
    simp! []
    exact hQ _ _ ⟨_, _, _, _, _, rfl, ba.up, bb.up, bc.up, bd.up, be.up⟩ hL3
  simp! [c0, c1]
  refine sp_law_some (n := n + 49) rfl hL1 (by simp) (by simp) fun d L2 hd hL2 => ?_
  simp! []
  obtain ⟨v, rfl, v0, v1⟩ : ∃ v : Int, d = .int v ∧ 1 ≤ v ∧ v < 2 ^ (1 + 3) := by
    simp only [List.mem_cons, List.not_mem_nil, or_false] at hd
    rcases hd with rfl | rfl | rfl <;> exact ⟨_, rfl, by decide, by decide⟩
  refine sp_law_any_five (n := n + 24) (k := 1) rfl hL2 v0 v1 (by decide) fun a b c d e L3 ba bb bc bd be hL3 => ?_
  simp! [↓ow_eq]
  by_cases c2 : w = 2
  · simp! [c2]
    exact hQ _ _ ⟨_, _, _, _, _, rfl, ba.up, bb.up, bc.up, bd.up, be.up⟩ (hL3.mono (by omega))
  by_cases c3 : w = 3
  · simp! [c2, c3, Int.reduceEq]
    refine sp_law_flat_five (n := n) rfl (hL3.mono (by omega)) fun a' b' c' d' e' L4 ba' bb' bc' bd' be' hL4 _ _ _ => ?_
    simp! []
    exact hQ _ _ ⟨_, _, _, _, _, rfl, ba', bb.up, bc.up, bd', be'⟩ hL4
  by_cases c4 : w = 4
  · simp! [c2, c3, c4, Int.reduceEq, R_sixth, ↓wp_lc, ↓wp_lc1, ↓wp_lc0, wipeE, isOwn, List.all_cons, List.all_nil, ↓sp_law_mul]
    exact hQ _ _ ⟨_, _, _, _, _, rfl, Bd.mono inferInstance (by decide), Bd.mono inferInstance (by decide), Bd.mono inferInstance (by decide), Bd.mono inferInstance (by decide), Bd.mono inferInstance (by decide)⟩ (hL3.mono (by omega))
  simp! [c2, c3, c4]
  refine sp_law_over (n := n) (k := 2) rfl (hL3.mono (by omega)) (by decide) (by decide) (by decide) (by decide) fun g L4 bg pg hL4 => ?_
  simp! [R_two, ↓sp_law_add, ↓ow_eq]
  by_cases c5 : w = 5
  · simp! [c5, R_fifth, R_zero, ↓sp_law_mul]
    exact hQ _ _ ⟨_, _, _, _, _, rfl, Bd.mono inferInstance (by decide), Bd.mono inferInstance (by decide), Bd.mono (inferInstance : Bd _ (0 : Rat)) (by decide), Bd.mono inferInstance (by decide), Bd.mono inferInstance (by decide)⟩ hL4
  · simp! [c5, R_fifth, R_ninth, ↓sp_law_mul]
    exact hQ _ _ ⟨_, _, _, _, _, rfl, Bd.mono inferInstance (by decide), Bd.mono inferInstance (by decide), bc.up, Bd.mono inferInstance (by decide), Bd.mono inferInstance (by decide)⟩ hL4
def tsz (a b c d e : Rat) : Rat := tn1 a b c d e * tn1 a b c d e + tn2 a b c d e * tn2 a b c d e
def rwd (a b c d e : Rat) : Str :=
  if wnm a d e = 0 ∧ tsz a b c d e = 0 then (if 4 * (1 + a * a) < b * b + c * c then "stuck" else "dead")
  else if tsz a b c d e < wnm a d e * wnm a d e then (if 0 < wnm a d e then "round" else "backward")
  else if wnm a d e * wnm a d e < tsz a b c d e then "swings" else "dead"
theorem rwd_stuck {a b c d e : Rat} (h1 : wnm a d e = 0) (h2 : tsz a b c d e = 0) (h3 : 4 * (1 + a * a) < b * b + c * c) : rwd a b c d e = "stuck" := by unfold rwd; rw [if_pos ⟨h1, h2⟩, if_pos h3]
theorem rwd_dead1 {a b c d e : Rat} (h1 : wnm a d e = 0) (h2 : tsz a b c d e = 0) (h3 : ¬ 4 * (1 + a * a) < b * b + c * c) : rwd a b c d e = "dead" := by unfold rwd; rw [if_pos ⟨h1, h2⟩, if_neg h3]
theorem rwd_round {a b c d e : Rat} (h1 : ¬ (wnm a d e = 0 ∧ tsz a b c d e = 0)) (h2 : tsz a b c d e < wnm a d e * wnm a d e) (h3 : 0 < wnm a d e) : rwd a b c d e = "round" := by unfold rwd; rw [if_neg h1, if_pos h2, if_pos h3]
theorem rwd_back {a b c d e : Rat} (h1 : ¬ (wnm a d e = 0 ∧ tsz a b c d e = 0)) (h2 : tsz a b c d e < wnm a d e * wnm a d e) (h3 : ¬ 0 < wnm a d e) : rwd a b c d e = "backward" := by unfold rwd; rw [if_neg h1, if_pos h2, if_neg h3]
theorem rwd_swings {a b c d e : Rat} (h1 : ¬ (wnm a d e = 0 ∧ tsz a b c d e = 0)) (h2 : ¬ tsz a b c d e < wnm a d e * wnm a d e) (h3 : wnm a d e * wnm a d e < tsz a b c d e) : rwd a b c d e = "swings" := by unfold rwd; rw [if_neg h1, if_neg h2, if_pos h3]
theorem rwd_dead2 {a b c d e : Rat} (h1 : ¬ (wnm a d e = 0 ∧ tsz a b c d e = 0)) (h2 : ¬ tsz a b c d e < wnm a d e * wnm a d e) (h3 : ¬ wnm a d e * wnm a d e < tsz a b c d e) : rwd a b c d e = "dead" := by unfold rwd; rw [if_neg h1, if_neg h2, if_neg h3]
theorem sgn_lt0 {n : Int} : sgn n < 0 ↔ n < 0 := by unfold sgn; split <;> (try split) <;> omega
theorem sgn_gt0 {n : Int} : 0 < sgn n ↔ 0 < n := by unfold sgn; split <;> (try split) <;> omega
instance Bd.tsz {a b c d e : Rat} {k1 k2 k3 k4 k5 : Nat} [Bd k1 a] [Bd k2 b] [Bd k3 c] [Bd k4 d] [Bd k5 e] : Bd (4 * k1 + 8 * k2 + 8 * k3 + 4 * k4 + 4 * k5 + 13) (tsz a b c d e) := Bd.mono (by unfold PB.tsz; infer_instance) (by omega)
theorem cut3b {a b c : D} : cutD [a, b, c] (some 1) none = [b, c] := rfl
theorem cut5c {a b c d e : D} : cutD [a, b, c, d, e] none (some 3) = [a, b, c] := rfl
theorem rat_sub_neg {x y : Rat} : x - y < 0 ↔ x < y := by constructor <;> intro h <;> grind
theorem rat_sub_pos {x y : Rat} : 0 < x - y ↔ y < x := by constructor <;> intro h <;> grind
theorem sp_is_straight {p q r : Rat} {ρ : En} {Q : D → En → Prop} : wp (callV 1 m_is_straight [.tup [Fr p, Fr q, Fr r]]) ρ Q ↔ Q (.bl (decide (p = 0) && (decide (q = 0) && decide (r = 0)))) ρ := by
  apply wp_eq
  unfold m_is_straight m_is_straightB
  rw [wp_V]
  simp! [R_zero, ↓ow_eq, Bool.decide_and]
theorem sp_is_lower {p q : Rat} {a b : Nat} {ρ : En} {Q : D → En → Prop} [h1 : Bd a p] [h2 : Bd b q] (h : a + b ≤ 8000) : wp (callV 2 m_is_lower [Fr p, Fr q]) ρ Q ↔ Q (.bl (decide (p < q))) ρ := by
  apply wp_eq
  unfold m_is_lower m_is_lowerB
  rw [wp_V]
  simp! []
  refine ⟨mulOk_of h1.n h2.d' (by omega), mulOk_of h2.n h1.d' (by omega), ?_⟩
  simp only [lt_cross]
theorem tsz_zero {a b c d e : Rat} : tsz a b c d e = 0 ↔ tn1 a b c d e = 0 ∧ tn2 a b c d e = 0 := sq_zero
theorem sp_word_for {a b c d e : Rat} {k1 k2 k3 k4 k5 : Nat} {ρ : En} {Q : D → En → Prop} [Bd k1 a] [Bd k2 b] [Bd k3 c] [Bd k4 d] [Bd k5 e] (h : 2 * k1 + 4 * k2 + 4 * k3 + 2 * k4 + 2 * k5 ≤ 1990) :
    wp (callV 1 m_word_for [five a b c d e]) ρ Q ↔ Q (.str (rwd a b c d e)) ρ := by
  have es : tn1 a b c d e * tn1 a b c d e + tn2 a b c d e * tn2 a b c d e = tsz a b c d e := rfl
  have e1 : (1 : Rat) * 1 = 1 := by decide +kernel
  have bs : Bd (4 * k1 + 8 * k2 + 8 * k3 + 4 * k4 + 4 * k5 + 13) (tsz a b c d e) := inferInstance
  apply wp_eq
  unfold m_word_for m_word_forB
  rw [wp_V]
  simp! [R_one, R_four, ↓sp_numbers_of, ↓sp_is_straight, ↓sp_square_length, ↓sp_ratio_product, ↓sp_is_lower, ↓ow_sl_tup, cut3b, es, e1, ↓ow_eq, num_pos, Bool.and_eq_true, decide_eq_true_eq]
  by_cases h0 : wnm a d e = 0 ∧ tn1 a b c d e = 0 ∧ tn2 a b c d e = 0
  · have h1 : wnm a d e = 0 ∧ tsz a b c d e = 0 := ⟨h0.1, tsz_zero.mpr h0.2⟩
    rw [if_pos h0]
    by_cases h2 : 4 * (1 + a * a) < b * b + c * c
    · rw [rwd_stuck h1.1 h1.2 h2]; simp! [h2]
    · rw [rwd_dead1 h1.1 h1.2 h2]; simp! [h2]
  · have h1 : ¬ (wnm a d e = 0 ∧ tsz a b c d e = 0) := fun z => h0 ⟨z.1, tsz_zero.mp z.2⟩
    rw [if_neg h0]
    by_cases h2 : wnm a d e * wnm a d e < tsz a b c d e
    · have h3 : ¬ tsz a b c d e < wnm a d e * wnm a d e := fun z => by grind
      rw [rwd_swings h1 h3 h2]; simp! [h2]
    · by_cases h4 : wnm a d e * wnm a d e = tsz a b c d e
      · have h3 : ¬ tsz a b c d e < wnm a d e * wnm a d e := fun z => by grind
        rw [rwd_dead2 h1 h3 h2, if_neg h2, if_pos h4]
      · have h3 : tsz a b c d e < wnm a d e * wnm a d e := by grind
        by_cases h5 : 0 < wnm a d e
        · rw [rwd_round h1 h3 h5]; simp! [h2, h4, h5]
        · rw [rwd_back h1 h3 h5]; simp! [h2, h4, h5]
theorem rwd_dead_five {a b c d e x y : Rat} (u : x * x + y * y = 1) (z1 : ahd a b d e x y = 0) (z2 : asd a c d e x y = 0) : rwd a b c d e = "dead" := by
  have hb : b = -((1 + d) * x + (a - e) * y) := by unfold ahd at z1; grind
  have hc : c = -((a + e) * x + (d - 1) * y) := by unfold asd at z2; grind
  have t1 : tn1 a b c d e = -(x * wnm a d e) := by subst hb hc; unfold tn1 wnm; grind
  have t2 : tn2 a b c d e = y * wnm a d e := by subst hb hc; unfold tn2 wnm; grind
  have t : tsz a b c d e = wnm a d e * wnm a d e := by
    have : tsz a b c d e = (x * x + y * y) * (wnm a d e * wnm a d e) := by unfold tsz; rw [t1, t2]; grind
    rw [this, u]; grind
  by_cases w : wnm a d e = 0
  · refine rwd_dead1 w (by rw [t, w]; grind) fun l => ?_
    have q : b * b + c * c + (((1 - d) * x + (a + e) * y) * ((1 - d) * x + (a + e) * y) + ((a - e) * x - (1 + d) * y) * ((a - e) * x - (1 + d) * y)) = 2 * (2 * (1 + a * a) - wnm a d e) * (x * x + y * y) := by
      subst hb hc; unfold wnm; grind
    rw [w, u] at q
    have n := sq_not_neg ((1 - d) * x + (a + e) * y) ((a - e) * x - (1 + d) * y)
    grind
  · exact rwd_dead2 (fun z => w z.1) (by rw [t]; exact Rat.lt_irrefl) (by rw [t]; exact Rat.lt_irrefl)
theorem rwd_bare {a d e : Rat} : rwd a 0 0 d e = if wnm a d e = 0 then "dead" else if 0 < wnm a d e then "round" else "backward" := by
  have t : tsz a 0 0 d e = 0 := by unfold tsz tn1 tn2; grind
  by_cases w : wnm a d e = 0
  · rw [if_pos w]
    refine rwd_dead1 w t fun l => ?_
    have := sq_nn a
    grind
  · rw [if_neg w]
    have p : 0 < wnm a d e * wnm a d e := by
      have := sq_nn (wnm a d e)
      have z : wnm a d e * wnm a d e ≠ 0 := fun z => by rcases Rat.mul_eq_zero.mp z with z | z <;> exact w z
      grind
    by_cases v : 0 < wnm a d e
    · rw [if_pos v]; exact rwd_round (fun z => w z.1) (by rw [t]; exact p) v
    · rw [if_neg v]; exact rwd_back (fun z => w z.1) (by rw [t]; exact p) v
theorem rwd_flat {a b c d e : Rat} (h1 : wnm a d e = 0) (h2 : tn1 a b c d e = 0) (h3 : tn2 a b c d e = 0) : rwd a b c d e = if 4 * (1 + a * a) < b * b + c * c then "stuck" else "dead" := by
  have t : tsz a b c d e = 0 := tsz_zero.mpr ⟨h2, h3⟩
  by_cases w : 4 * (1 + a * a) < b * b + c * c
  · rw [if_pos w]; exact rwd_stuck h1 t w
  · rw [if_neg w]; exact rwd_dead1 h1 t w
def oddParts : List D := [.non, .int 1, .int 0, .str "1", .tup [], .tup [.int 1], .tup [.int 2, .int 4], .tup [.int 1, .int 0], .tup [.int 1, .int (-2)], .tup [.int 0, .int 3], .tup [.int (-3), .int (-1)], .lst [.int 1, .int 2], .tup [.bl true, .int 2], .tup [.int 1, .bl true],
  .tup [.int 1, .int 2, .int 3], .dic [] [], .tup [.non, .int 1], .tup [.str "1", .int 2], .tup [.tup [.int 1, .int 2], .int 1], .bl true, .tup [.int 0, .int 0]]
theorem wp_rfl {F : M D} {d x : D} {n : Nat} {ds : List D} {ρ r : En} {Q : D → En → Prop} (hl : ds.length = n) (e : F (ds.map .val) = .ok x r) : wp (callV n F ds) ρ Q ↔ Q x ρ := by
  rw [wp_callV]
  constructor
  · rintro ⟨_, a, r', e', q⟩
    rw [e] at e'
    cases e'
    exact q
  · exact fun q => ⟨hl, _, _, e, q⟩
theorem odd_ratio {d : D} (h : d ∈ oddParts) {ρ : En} {Q : D → En → Prop} : wp (callV 1 m_is_ratio [d]) ρ Q ↔ Q (.bl false) ρ := by
  simp only [oddParts, List.mem_cons, List.not_mem_nil, or_false] at h
  rcases h with rfl | rfl | rfl | rfl | rfl | rfl | rfl | rfl | rfl | rfl | rfl | rfl | rfl | rfl | rfl | rfl | rfl | rfl | rfl | rfl | rfl <;> exact wp_rfl (d := .non) rfl rfl
theorem sp_is_heading {a1 a2 : Rat} {k1 k2 : Nat} {ρ : En} {Q : D → En → Prop} [Bd k1 a1] [Bd k2 a2] (h : k1 + k2 ≤ 2000) : wp (callV 1 m_is_heading [.tup [Fr a1, Fr a2]]) ρ Q ↔ Q (.bl (decide (a1 * a1 + a2 * a2 = 1))) ρ := by
  apply wp_eq
  unfold m_is_heading m_is_headingB
  rw [wp_V]
  simp! [↓sp_is_unit]
theorem odd_pair1 {o x : D} (ho : o ∈ oddParts) {ρ : En} {Q : D → En → Prop} : wp (callV 1 m_is_pair [.tup [o, x]]) ρ Q ↔ Q (.bl false) ρ := by
  apply wp_eq
  unfold m_is_pair m_is_pairB
  rw [wp_V]
  simp! [↓odd_ratio ho, ↓ow_eq]
theorem odd_pair2 {o : D} {c : Rat} (ho : o ∈ oddParts) {ρ : En} {Q : D → En → Prop} : wp (callV 1 m_is_pair [.tup [Fr c, o]]) ρ Q ↔ Q (.bl false) ρ := by
  apply wp_eq
  unfold m_is_pair m_is_pairB
  rw [wp_V]
  simp! [↓sp_is_ratioR, ↓odd_ratio ho, ↓ow_eq]
theorem odd_pairL {x y : D} {ρ : En} {Q : D → En → Prop} : wp (callV 1 m_is_pair [.lst [x, y]]) ρ Q ↔ Q (.bl false) ρ := by
  apply wp_eq
  unfold m_is_pair m_is_pairB
  rw [wp_V]
  simp! []
theorem odd_pair3 {x y z : D} {ρ : En} {Q : D → En → Prop} : wp (callV 1 m_is_pair [.tup [x, y, z]]) ρ Q ↔ Q (.bl false) ρ := by
  have t : ((3 : Int) = 2) = False := by simp
  apply wp_eq
  unfold m_is_pair m_is_pairB
  rw [wp_V]
  simp! [↓ow_eq, t]
theorem odd_pair4 {x : D} {ρ : En} {Q : D → En → Prop} : wp (callV 1 m_is_pair [.tup [x]]) ρ Q ↔ Q (.bl false) ρ := by
  have t : ((1 : Int) = 2) = False := by simp
  apply wp_eq
  unfold m_is_pair m_is_pairB
  rw [wp_V]
  simp! [↓ow_eq, t]
theorem odd_head {d : D} (hd : ∀ {ρ : En} {Q : D → En → Prop}, wp (callV 1 m_is_pair [d]) ρ Q ↔ Q (.bl false) ρ) {ρ : En} {Q : D → En → Prop} : wp (callV 1 m_is_heading [d]) ρ Q ↔ Q (.bl false) ρ := by
  apply wp_eq
  unfold m_is_heading m_is_headingB
  rw [wp_V]
  have : ∀ {ρ : En} {Q : D → En → Prop}, wp (callV 1 m_is_unit [d]) ρ Q ↔ Q (.bl false) ρ := fun {ρ Q} => by
    apply wp_eq
    unfold m_is_unit m_is_unitB
    rw [wp_V]
    simp! [↓hd]
  simp! [↓this]
theorem sq_nnW (x : Rat) : 0 ≤ x * x := by
  rcases Rat.nonneg_total x with h | h
  · exact Rat.mul_nonneg h h
  · have := Rat.mul_nonneg h h
    rwa [Rat.neg_mul, Rat.mul_neg, Rat.neg_neg] at this
def isSq (q : Rat) : Prop := rt q.num * rt q.num = q.num ∧ rt q.den * rt q.den = q.den
noncomputable def rtq (q : Rat) : Rat := Rat.divInt (rt q.num) (rt q.den)
noncomputable def rootD (q : Rat) : D := open Classical in if isSq q then Fr (rtq q) else .non
theorem rt_one : rt 1 = 1 := rt_sq (r := 1) (by decide)
theorem rt_nul : rt 0 = 0 := rt_sq (r := 0) (by decide)
theorem num_nn2 {q : Rat} (h : 0 ≤ q) : 0 ≤ q.num := Rat.num_nonneg.mpr h
theorem rtq_parts {q : Rat} (h0 : 0 ≤ q) (h : isSq q) : (rtq q).num = rt q.num ∧ ((rtq q).den : Int) = rt q.den := by
  have n0 := (rt_spec (num_nn2 h0)).1
  have dp : 0 < rt (q.den : Int) := rt_pos (by have := q.den_pos; omega)
  have cop : Int.gcd (rt q.num) (rt q.den) = 1 := by
    have g : Int.gcd q.num q.den = 1 := q.reduced
    have d1 : ((Int.gcd (rt q.num) (rt q.den) : Nat) : Int) ∣ q.num := Int.dvd_trans (Int.gcd_dvd_left _ _) ⟨rt q.num, h.1.symm⟩
    have d2 : ((Int.gcd (rt q.num) (rt q.den) : Nat) : Int) ∣ q.den := Int.dvd_trans (Int.gcd_dvd_right _ _) ⟨rt q.den, h.2.symm⟩
    have := Int.dvd_gcd d1 d2
    rw [g] at this
    exact Nat.dvd_one.mp this
  unfold rtq
  have e := divInt_R (n := rt q.num) (m := rt q.den) (by omega)
  rw [if_pos dp, cop] at e
  have e1 : (rt q.num).fdiv ((1 : Nat) : Int) = rt q.num := Int.fdiv_one _
  have e2 : (rt (q.den : Int)).fdiv ((1 : Nat) : Int) = rt q.den := Int.fdiv_one _
  rw [e1, e2] at e
  unfold Fr at e
  injection e with e
  injection e with e1 e
  injection e with e2 e
  injection e1 with e1
  injection e2 with e2
  exact ⟨e1.symm, e2.symm⟩
theorem root_Fr {q : Rat} (h0 : 0 ≤ q) (h : isSq q) : (.tup [.int (rt q.num), .int (rt q.den)] : D) = Fr (rtq q) := by unfold Fr; rw [(rtq_parts h0 h).1, (rtq_parts h0 h).2]
theorem rtq_bd {q : Rat} {k : Nat} (b : Bd k q) (h0 : 0 ≤ q) (h : isSq q) : Bd k (rtq q) := by
  obtain ⟨e1, e2⟩ := rtq_parts h0 h
  refine ⟨?_, ?_⟩
  · rw [e1]; exact rt_bits (num_nn2 h0) b.n
  · have := rt_bits (n := q.den) (by omega) (show (q.den : Int).natAbs < 2 ^ k by rw [Int.natAbs_natCast]; exact b.d)
    omega
theorem rootD_t {q : Rat} (h : isSq q) : rootD q = Fr (rtq q) := if_pos h
theorem rootD_f {q : Rat} (h : ¬ isSq q) : rootD q = .non := if_neg h
theorem rootD_goal {q : Rat} (h0 : 0 ≤ q) : if rt q.num * rt q.num = q.num then (if rt q.den * rt q.den = q.den then (.tup [.int (rt q.num), .int (rt q.den)] : D) = rootD q else .non = rootD q) else .non = rootD q := by
  by_cases h1 : rt q.num * rt q.num = q.num
  · rw [if_pos h1]
    by_cases h2 : rt q.den * rt q.den = q.den
    · rw [if_pos h2, rootD_t ⟨h1, h2⟩, root_Fr h0 ⟨h1, h2⟩]
    · rw [if_neg h2, rootD_f fun z => h2 z.2]
  · rw [if_neg h1, rootD_f fun z => h1 z.1]
theorem isSq_zero : isSq 0 := ⟨by show rt 0 * rt 0 = 0; rw [rt_nul]; rfl, by show rt 1 * rt 1 = 1; rw [rt_one]; rfl⟩
theorem rtq_zero : rtq 0 = 0 := by
  unfold rtq
  show Rat.divInt (rt 0) (rt 1) = 0
  rw [rt_nul, rt_one]; decide +kernel
theorem den_nn (q : Rat) : (0 : Int) ≤ (q.den : Int) := by omega
theorem sp_square_root {q : Rat} {k : Nat} {ρ : En} {Q : D → En → Prop} [b : Bd k q] (h0 : 0 ≤ q) (hk : k ≤ 4000) : wp (callV 1 m_square_root [Fr q]) ρ Q ↔ Q (rootD q) ρ := by
  have n0 := num_nn2 h0
  have m1 := mulOk_of (rt_bits n0 b.n) (rt_bits n0 b.n) (by omega)
  have m2 := mulOk_of (rt_bits (den_nn q) b.d') (rt_bits (den_nn q) b.d') (by omega)
  have l2 : (q.den : Int).toNat.log2 < 9000 := log_lt (by have := q.den_pos; omega) b.d' (by omega)
  have l1 : q.num.toNat.log2 < 9000 := by
    rcases Int.lt_or_eq_of_le n0 with z | z
    · exact log_lt z b.n (by omega)
    · rw [← z]; decide
  have e1 : ((Float64.isqrt q.num.toNat : Nat) : Int) = rt q.num := rfl
  have e2 : ((Float64.isqrt (q.den : Int).toNat : Nat) : Int) = rt q.den := rfl
  have dn := den_nn q
  apply wp_eq
  unfold m_square_root m_square_rootB
  rw [wp_V]
  simp! [↓ow_isqrt, n0, dn, l1, l2, e1, e2, m1, m2, ↓ow_eq]
  exact rootD_goal h0
noncomputable def surdD (p f s : Rat) : D := open Classical in if isSq (f * f * s) then .tup [Fr (p + (if 0 < f then rtq (f * f * s) else -rtq (f * f * s))), .int 0, Fr 0] else .tup [Fr p, .int (sgn f.num), Fr (f * f * s)]
theorem surdD_t {p f s : Rat} (h : isSq (f * f * s)) : surdD p f s = .tup [Fr (p + (if 0 < f then rtq (f * f * s) else -rtq (f * f * s))), .int 0, Fr 0] := if_pos h
theorem surdD_f {p f s : Rat} (h : ¬ isSq (f * f * s)) : surdD p f s = .tup [Fr p, .int (sgn f.num), Fr (f * f * s)] := if_neg h
theorem ffs_nn {f s : Rat} (h : 0 ≤ s) : 0 ≤ f * f * s := Rat.mul_nonneg (sq_nnW f) h
theorem sp_plain {p : Rat} {ρ : En} {Q : D → En → Prop} : wp (callV 1 m_plain [Fr p]) ρ Q ↔ Q (.tup [Fr p, .int 0, Fr 0]) ρ := by
  apply wp_eq
  unfold m_plain m_plainB
  rw [wp_V]
  simp! [R_zero]
theorem sp_surd_from {p f s : Rat} {k1 k2 k3 : Nat} {ρ : En} {Q : D → En → Prop} [Bd k1 p] [Bd k2 f] [Bd k3 s] (h0 : 0 ≤ s) (hk : k1 + 2 * k2 + k3 ≤ 3000) : wp (callV 3 m_surd_from [Fr p, Fr f, Fr s]) ρ Q ↔ Q (surdD p f s) ρ := by
  have n := ffs_nn (f := f) h0
  have sq := fun {ρ : En} {Q : D → En → Prop} => sp_square_root (ρ := ρ) (Q := Q) (q := f * f * s) n (by omega)
  apply wp_eq
  unfold m_surd_from m_surd_fromB
  rw [wp_V]
  by_cases h : isSq (f * f * s)
  · have b : Bd (k2 + k2 + k3) (rtq (f * f * s)) := rtq_bd inferInstance n h
    have mo : ∀ x : Int, x = 1 ∨ x = -1 ∨ x = 0 → mulOk x (rtq (f * f * s)).num = true := fun x hx => mulOk_of (a := 1) (by omega) b.n (by omega)
    rw [surdD_t h]
    rw [rootD_t h] at sq
    by_cases h1 : 0 < f
    · have sg : sgn f.num = 1 := by unfold sgn; rw [if_pos (num_pos.mpr h1)]
      have w : (.tup [.int (1 * (rtq (f * f * s)).num), .int ((rtq (f * f * s)).den : Int)] : D) = Fr (rtq (f * f * s)) := by rw [Int.one_mul]; rfl
      simp! [↓sp_ratio_product, ↓sq, ↓sp_sign_of, sg, mo 1 (.inl rfl), w, h1, ↓sp_ratio_sum, ↓sp_plain]
    · by_cases h2 : f = 0
      · subst h2
        have z : (0 : Rat) * 0 * s = 0 := by grind
        have w : (.tup [.int (0 * (rtq (0 * 0 * s)).num), .int ((rtq (0 * 0 * s)).den : Int)] : D) = Fr 0 := by rw [z, rtq_zero]; rfl
        have sg : sgn (0 : Rat).num = 0 := rfl
        have c : (if (0 : Rat) < 0 then rtq (0 * 0 * s) else -rtq (0 * 0 * s)) = 0 := by rw [z, rtq_zero]; decide +kernel
        rw [c]
        simp! [↓sp_ratio_product, ↓sq, ↓sp_sign_of, sg, mo 0 (.inr (.inr rfl)), w, ↓sp_ratio_sum, ↓sp_plain]
      · have sg : sgn f.num = -1 := by
          have k1 := Rat.num_eq_zero (q := f)
          have k2 : ¬ 0 < f.num := fun y => h1 (num_pos.mp y)
          have k3 : ¬ f.num = 0 := fun y => h2 (k1.mp y)
          unfold sgn; rw [if_neg k2, if_pos (by omega)]
        have w : (.tup [.int (-1 * (rtq (f * f * s)).num), .int ((rtq (f * f * s)).den : Int)] : D) = Fr (-rtq (f * f * s)) := by rw [Int.neg_mul, Int.one_mul]; rfl
        simp! [↓sp_ratio_product, ↓sq, ↓sp_sign_of, sg, mo (-1) (.inr (.inl rfl)), w, h1, ↓sp_ratio_sum, ↓sp_plain]
  · rw [surdD_f h]
    rw [rootD_f h] at sq
    simp! [↓sp_ratio_product, ↓sq, ↓sp_sign_of]
theorem sp_is_ratio2 {p q : Int} {ρ : En} {Q : D → En → Prop} : wp (callV 1 m_is_ratio [.tup [.int p, .int q]]) ρ Q ↔ Q (.bl (decide (0 < q ∧ Int.gcd p q = 1))) ρ := by
  apply wp_eq
  unfold m_is_ratio m_is_ratioB
  rw [wp_V]
  simp! [↓sp_are_wholes2, ↓sp_is_reduced2]
  by_cases h1 : 0 < q <;> simp [h1]
noncomputable def rsB (p q m : Int) (s : Rat) : Bool := open Classical in decide ((0 < q ∧ Int.gcd p q = 1) ∧ (-1 ≤ m ∧ m ≤ 1) ∧ (if m = 0 then s = 0 else ¬ isSq s))
theorem rsB_f1 {p q m : Int} {s : Rat} (h : ¬ (0 < q ∧ Int.gcd p q = 1)) : rsB p q m s = false := by unfold rsB; rw [decide_eq_false_iff_not]; exact fun z => h z.1
theorem rsB_f2 {p q m : Int} {s : Rat} (h : ¬ (-1 ≤ m ∧ m ≤ 1)) : rsB p q m s = false := by unfold rsB; rw [decide_eq_false_iff_not]; exact fun z => h z.2.1
theorem rsB_due {p s : Rat} {m : Int} (h1 : -1 ≤ m ∧ m ≤ 1) (h : if m = 0 then s = 0 else ¬ isSq s) : rsB p.num p.den m s = true := by
  unfold rsB
  simp only [decide_eq_true_eq]
  exact ⟨⟨by have := p.den_pos; omega, p.reduced⟩, h1, h⟩
theorem ni_in {m : Int} (h : -1 ≤ m ∧ m ≤ 1) : dNotIn (.int m) (.lst [.int (-1), .int 0, .int 1]) = some (.bl false) := by
  obtain rfl | rfl | rfl : m = -1 ∨ m = 0 ∨ m = 1 := by omega
  all_goals rfl
theorem ni_out {m : Int} (h : ¬ (-1 ≤ m ∧ m ≤ 1)) : dNotIn (.int m) (.lst [.int (-1), .int 0, .int 1]) = some (.bl true) := by
  have h1 : (m == -1) = false := by simp; omega
  have h2 : (m == 0) = false := by simp; omega
  have h3 : (m == 1) = false := by simp; omega
  show some (D.bl (!(inV (.int m) [.int (-1), .int 0, .int 1]))) = _
  simp [inV, eqV]
  omega
def sq (x : Rat) : Int := sgn x.num
theorem sq_pos' {x : Rat} (h : 0 < x) : sq x = 1 := by
  have := num_pos.mpr h
  unfold sq sgn; rw [if_pos this]
theorem sq_neg' {x : Rat} (h : x < 0) : sq x = -1 := by
  have := num_neg'.mpr h
  unfold sq sgn; rw [if_neg (by omega), if_pos this]
theorem sq_nul {x : Rat} (h : x = 0) : sq x = 0 := by rw [h]; rfl
theorem sq_bd (x : Rat) : sq x = 0 ∨ sq x = 1 ∨ sq x = -1 := sgn_bd x.num
theorem tri (x : Rat) : x < 0 ∨ x = 0 ∨ 0 < x := by
  by_cases h1 : x < 0
  · exact .inl h1
  · by_cases h2 : x = 0
    · exact .inr (.inl h2)
    · exact .inr (.inr (by have := Rat.not_lt.mp h1; grind))
theorem sgn_of {n : Int} {x c : Rat} (hc : 0 < c) (h : (n : Rat) = x * c) : sgn n = sq x := by
  rcases tri x with hx | hx | hx
  · rw [sq_neg' hx]
    have : (n : Rat) < 0 := by
      rw [h]
      have := Rat.mul_pos (show 0 < -x by grind) hc
      grind
    have h2 : n < 0 := Rat.intCast_lt_intCast.mp this
    unfold sgn; rw [if_neg (by omega), if_pos h2]
  · rw [sq_nul hx]
    have : (n : Rat) = ((0 : Int) : Rat) := by rw [h, hx, Rat.zero_mul]; rfl
    rw [Rat.intCast_inj] at this
    rw [this]; rfl
  · rw [sq_pos' hx]
    have : (0 : Rat) < (n : Rat) := by rw [h]; exact Rat.mul_pos hx hc
    have h2 : 0 < n := Rat.intCast_lt_intCast.mp this
    unfold sgn; rw [if_pos h2]
theorem sgn_gtA {n : Int} : 0 < sgn n ↔ 0 < n := by unfold sgn; split <;> (try split) <;> omega
def sg (p q r : Rat) : Int :=
  if sq p = 0 ∨ (if 0 < r then sq q else 0) = 0 ∨ sq p = (if 0 < r then sq q else 0) then (if sq p = 0 then (if 0 < r then sq q else 0) else sq p) else sq p * sq (p * p - q * q * r)
def sgZ (p q r : Int) : Int :=
  if sgn p = 0 ∨ (if 0 < r then sgn q else 0) = 0 ∨ sgn p = (if 0 < r then sgn q else 0) then (if sgn p = 0 then (if 0 < r then sgn q else 0) else sgn p) else sgn p * sgn (p * p - q * q * r)
theorem sgZ_of {n m l : Int} {x y r c d e : Rat} (hc : 0 < c) (hd : 0 < d) (he : 0 < e) (hh : d * d * e = c * c) (h1 : (n : Rat) = x * c) (h2 : (m : Rat) = y * d) (h3 : (l : Rat) = r * e) : sgZ n m l = sg x y r := by
  have a1 := sgn_of hc h1
  have a2 := sgn_of hd h2
  have a3 : (0 < l) = (0 < r) := by
    have := sgn_of he h3
    apply propext
    rw [← sgn_gtA, this]
    rcases tri r with hx | hx | hx
    · rw [sq_neg' hx]; exact ⟨fun z => by omega, fun z => by grind⟩
    · rw [sq_nul hx]; exact ⟨fun z => by omega, fun z => by grind⟩
    · rw [sq_pos' hx]; exact ⟨fun _ => hx, fun _ => by decide⟩
  have a4 : sgn (n * n - m * m * l) = sq (x * x - y * y * r) := by
    refine sgn_of (c := c * c) (Rat.mul_pos hc hc) ?_
    rw [Rat.intCast_sub, Rat.intCast_mul, Rat.intCast_mul, Rat.intCast_mul, h1, h2, h3]
    have : y * d * (y * d) * (r * e) = y * y * r * (d * d * e) := by grind
    rw [this, hh]
    grind
  unfold sgZ sg
  rw [a1, a2, a4]
  simp only [a3]
theorem mk_s (n : Int) : mulOk (sgn n) 1 = true ∧ mulOk (sgn n) (-1) = true ∧ mulOk 1 (sgn n) = true ∧ mulOk (-1) (sgn n) = true := by
  rcases sgn_bd n with h | h | h <;> rw [h] <;> exact ⟨rfl, rfl, rfl, rfl⟩
theorem mk_q (x : Rat) : mulOk (sq x) 1 = true ∧ mulOk (sq x) (-1) = true := ⟨(mk_s x.num).1, (mk_s x.num).2.1⟩
theorem sp_sign_of_one {p q r : Int} {a b c : Nat} {ρ : En} {Q : D → En → Prop} (hp : p.natAbs < 2 ^ a) (hq : q.natAbs < 2 ^ b) (hr : r.natAbs < 2 ^ c) (hk : a + 2 * b + c ≤ 50000) : wp (callV 3 m_sign_of_one [.int p, .int q, .int r]) ρ Q ↔ Q (.int (sgZ p q r)) ρ := by
  have m1 : mulOk p p = true := mulOk_of hp hp (by omega)
  have m2 : mulOk q q = true := mulOk_of hq hq (by omega)
  have m3 : mulOk (q * q) r = true := mulOk_of (mul_ab hq hq) hr (by omega)
  have m4 : ∀ n m : Int, mulOk (sgn n) (sgn m) = true := fun n m => by
    rcases sgn_bd n with h1 | h1 | h1 <;> rcases sgn_bd m with h2 | h2 | h2 <;> rw [h1, h2] <;> rfl
  apply wp_eq
  unfold m_sign_of_one m_sign_of_oneB sgZ
  rw [wp_V]
  by_cases hr : 0 < r
  · rcases sgn_bd p with h1 | h1 | h1 <;> rcases sgn_bd q with h2 | h2 | h2 <;> simp! [↓sp_sign_of, hr, h1, h2, ↓ow_eq, ↓ow_ne, m1, m2, m3] <;> simp [mk_s]
  · rcases sgn_bd p with h1 | h1 | h1 <;> simp! [↓sp_sign_of, hr, h1, ↓ow_eq, ↓ow_ne, m1, m2, m3] <;> simp [mk_s]
theorem num_denA (q : Rat) : q * ((q.den : Int) : Rat) = (q.num : Rat) := by
  have du : ((q.den : Int) : Rat) ≠ 0 := fun z => by
    have z' : ((q.den : Int) : Rat) = ((0 : Int) : Rat) := z
    rw [Rat.intCast_inj] at z'; have := q.den_pos; omega
  have h := Rat.num_divInt_den q
  rw [Rat.divInt_eq_div] at h
  have k := div_mul_self2 (x := (q.num : Rat)) du
  rw [h] at k
  exact k
theorem den_posA (q : Rat) : (0 : Rat) < ((q.den : Int) : Rat) := by
  have : ((0 : Int) : Rat) < ((q.den : Int) : Rat) := Rat.intCast_lt_intCast.mpr (by have := q.den_pos; omega)
  simpa using this
theorem rtq_nn {q : Rat} (h0 : 0 ≤ q) (h : isSq q) : 0 ≤ rtq q := by
  obtain ⟨e1, _⟩ := rtq_parts h0 h
  refine Rat.num_nonneg.mp ?_
  rw [e1]
  exact (rt_spec (num_nn2 h0)).1
theorem rtq_sq {q : Rat} (h0 : 0 ≤ q) (h : isSq q) : rtq q * rtq q = q := by
  obtain ⟨e1, e2⟩ := rtq_parts h0 h
  have n1 := num_denA (rtq q)
  have n2 := num_denA q
  rw [e1, e2] at n1
  have d0 : ((q.den : Int) : Rat) ≠ 0 := fun z => by
    have z' : ((q.den : Int) : Rat) = ((0 : Int) : Rat) := z
    rw [Rat.intCast_inj] at z'; have := q.den_pos; omega
  have a1 : ((rt q.num : Int) : Rat) * (rt q.num : Int) = (q.num : Rat) := by rw [← Rat.intCast_mul, h.1]
  have a2 : ((rt (q.den : Int) : Int) : Rat) * (rt (q.den : Int) : Int) = ((q.den : Int) : Rat) := by rw [← Rat.intCast_mul, h.2]
  have : (rtq q * rtq q - q) * ((q.den : Int) : Rat) = 0 := by
    have b : rtq q * (rt (q.den : Int) : Rat) * (rtq q * (rt (q.den : Int) : Rat)) = q.num := by rw [n1, a1]
    grind
  rcases Rat.mul_eq_zero.mp this with z | z
  · grind
  · exact absurd z d0
theorem sg_root {p f s : Rat} (h0 : 0 ≤ s) (h : isSq (f * f * s)) : sq (p + (if 0 < f then rtq (f * f * s) else -rtq (f * f * s))) = sg p f s := by
  have w0 := ffs_nn (f := f) h0
  have r0 := rtq_nn w0 h
  have r2 := rtq_sq w0 h
  generalize rtq (f * f * s) = r at *
  unfold sg
  by_cases hs : 0 < s
  · rw [if_pos hs]
    rcases tri f with hf | hf | hf
    · rw [sq_neg' hf, if_neg (by grind)]
      have rp : 0 < r := by
        refine Rat.not_le.mp fun z => ?_
        have : r = 0 := by grind
        rw [this] at r2
        have := Rat.mul_pos (Rat.mul_pos (show 0 < -f by grind) (show 0 < -f by grind)) hs
        grind
      rcases tri p with hp | hp | hp
      · rw [sq_neg' hp, if_pos (by decide), if_neg (by decide), sq_neg' (by grind)]
      · rw [hp, sq_nul rfl, if_pos (.inl rfl), if_pos rfl, sq_neg' (by grind)]
      · rw [sq_pos' hp, if_neg (by decide), Int.one_mul]
        have e : p * p - f * f * s = (p + -r) * (p + r) := by grind
        have pr : 0 < p + r := by grind
        rcases tri (p + -r) with z | z | z
        · rw [sq_neg' z, sq_neg' (by rw [e]; have := Rat.mul_pos (show 0 < -(p + -r) by grind) pr; grind)]
        · rw [sq_nul z, sq_nul (by rw [e, z, Rat.zero_mul])]
        · rw [sq_pos' z, sq_pos' (by rw [e]; exact Rat.mul_pos z pr)]
    · have r3 : r = 0 := by
        rw [hf] at r2
        have : r * r = 0 := by grind
        rcases Rat.mul_eq_zero.mp this with z | z <;> exact z
      rw [hf, if_neg (by decide +kernel), r3, sq_nul rfl, if_pos (.inr (.inl rfl))]
      have : p + -0 = p := by grind
      rw [this]
      split
      · rename_i z; exact z
      · rfl
    · rw [sq_pos' hf, if_pos hf]
      have rp : 0 < r := by
        refine Rat.not_le.mp fun z => ?_
        have : r = 0 := by grind
        rw [this] at r2
        have := Rat.mul_pos (Rat.mul_pos hf hf) hs
        grind
      rcases tri p with hp | hp | hp
      · rw [sq_neg' hp, if_neg (by decide)]
        have e : p * p - f * f * s = -((p + r) * (r - p)) := by grind
        have pr : 0 < r - p := by grind
        rcases tri (p + r) with z | z | z
        · rw [sq_neg' z, sq_pos' (by rw [e]; have := Rat.mul_pos (show 0 < -(p + r) by grind) pr; grind)]; rfl
        · rw [sq_nul z, sq_nul (by rw [e, z, Rat.zero_mul]; rfl)]; rfl
        · rw [sq_pos' z, sq_neg' (by rw [e]; have := Rat.mul_pos z pr; grind)]; rfl
      · rw [hp, sq_nul rfl, if_pos (.inl rfl), if_pos rfl, sq_pos' (by grind)]
      · rw [sq_pos' hp, if_pos (by decide), if_neg (by decide), sq_pos' (by grind)]
  · have s0 : s = 0 := by grind
    have r3 : r = 0 := by
      rw [s0] at r2
      have : r * r = 0 := by grind
      rcases Rat.mul_eq_zero.mp this with z | z <;> exact z
    have hh : p + (if 0 < f then (0 : Rat) else -0) = p := by split <;> grind
    rw [r3, hh, if_neg hs, if_pos (.inr (.inl rfl))]
    split
    · rename_i z; exact z
    · rfl
theorem sgn_sgn (n : Int) : sgn (sgn n) = sgn n := by rcases sgn_bd n with h | h | h <;> rw [h] <;> rfl
theorem sp_surd_sign0 {p : Rat} {k : Nat} {ρ : En} {Q : D → En → Prop} [h1 : Bd k p] (hk : k ≤ 9000) : wp (callV 1 m_surd_sign [.tup [Fr p, .int 0, Fr 0]]) ρ Q ↔ Q (.int (sq p)) ρ := by
  apply wp_eq
  unfold m_surd_sign m_surd_signB m_compared m_comparedB
  rw [wp_V]
  have e0 : Fr (0 : Rat) = .tup [.int 0, .int 1] := rfl
  have ep : Fr p = .tup [.int p.num, .int p.den] := rfl
  simp! [R_zero, ↓sp_plain]
  rw [wp_V, e0, ep]
  simp! [↓ow_eq, ↓sp_sign_of]
  exact ⟨mulOk_of (b := 1) h1.n (by decide) (by omega), mulOk_of (a := 1) (by decide) h1.d' (by omega), by rw [Int.mul_one, Int.zero_mul, Int.sub_zero]; rfl⟩
theorem sp_surd_signR {p w : Rat} {e : Int} {k l : Nat} {ρ : En} {Q : D → En → Prop} [h1 : Bd k p] [h2 : Bd l w] (he : e = 1 ∨ e = -1) (hk : 3 * k + 3 * l ≤ 9000) : wp (callV 1 m_surd_sign [.tup [Fr p, .int e, Fr w]]) ρ Q ↔ Q (.int (sg p e w)) ρ := by
  have e0 : Fr (0 : Rat) = .tup [.int 0, .int 1] := rfl
  have ep : Fr p = .tup [.int p.num, .int p.den] := rfl
  have ew : Fr w = .tup [.int w.num, .int w.den] := rfl
  have ne : ¬ e = 0 := by omega
  have en : e.natAbs < 2 ^ 1 := by omega
  have m1 : (p.num * 1).natAbs < 2 ^ (k + 1) := mul_ab h1.n (by decide)
  have m2 : ((0 : Int) * p.den).natAbs < 2 ^ (1 + k) := mul_ab (by decide) h1.d'
  have m3 : (p.num * 1 - 0 * p.den).natAbs < 2 ^ (k + 1) := by rw [Int.zero_mul, Int.sub_zero]; exact m1
  have m4 : ((p.num * 1 - 0 * p.den) * w.den).natAbs < 2 ^ (k + 1 + l) := mul_ab m3 h2.d'
  have m5 : ((p.num * 1 - 0 * p.den) * w.den * 1).natAbs < 2 ^ (k + 1 + l + 1) := mul_ab m4 (by decide)
  have m6 : (e * p.den).natAbs < 2 ^ (1 + k) := mul_ab en h1.d'
  have m7 : (e * p.den * 1).natAbs < 2 ^ (1 + k + 1) := mul_ab m6 (by decide)
  have m8 : (e * p.den * 1 * 1).natAbs < 2 ^ (1 + k + 1 + 1) := mul_ab m7 (by decide)
  have m9 : (w.num * w.den).natAbs < 2 ^ (l + l) := mul_ab h2.n h2.d'
  have O := fun {ρ : En} {Q : D → En → Prop} => sp_sign_of_one (ρ := ρ) (Q := Q) m5 m8 m9 (by omega)
  have z : sgZ ((p.num * 1 - 0 * p.den) * w.den * 1) (e * p.den * 1 * 1) (w.num * w.den) = sg p e w := by
    have d1 := den_posA p
    have d2 := den_posA w
    have n1 := num_denA p
    have n2 := num_denA w
    refine sgZ_of (c := ((p.den : Int) : Rat) * ((w.den : Int) : Rat)) (d := ((p.den : Int) : Rat)) (e := ((w.den : Int) : Rat) * ((w.den : Int) : Rat)) (Rat.mul_pos d1 d2) d1 (Rat.mul_pos d2 d2) (by grind) ?_ ?_ ?_
    · rw [Int.zero_mul, Int.sub_zero, Int.mul_one, Int.mul_one, Rat.intCast_mul, ← n1, Rat.mul_assoc]
    · rw [Int.mul_one, Int.mul_one, Rat.intCast_mul]
    · rw [Rat.intCast_mul, ← n2, Rat.mul_assoc]
  have sb : ∀ x : Int, ¬ sgn x = 0 → (if sgn x = 0 then (0 : Int) else sgn x) = sgn x := fun x h => if_neg h
  apply wp_eq
  unfold m_surd_sign m_surd_signB m_compared m_comparedB m_sign_of_two m_sign_of_twoB
  rw [wp_V]
  simp! [R_zero, ↓sp_plain]
  rw [wp_V, e0, ep, ew]
  simp! [↓ow_eq, ne]
  have n0 : (-0 : Int).natAbs < 2 ^ 1 := by decide
  have n1 : ((-0 : Int) * p.den).natAbs < 2 ^ (1 + k) := mul_ab n0 h1.d'
  have n2 : ((-0 : Int) * p.den * 1).natAbs < 2 ^ (1 + k + 1) := mul_ab n1 (by decide)
  refine ⟨mulOk_of (b := 1) h1.n (by decide) (by omega), mulOk_of (a := 1) (by decide) h1.d' (by omega), mulOk_of m3 h2.d' (by omega), mulOk_of (b := 1) m4 (by decide) (by omega), mulOk_of en h1.d' (by omega), mulOk_of (b := 1) m6 (by decide) (by omega),
    mulOk_of (b := 1) m7 (by decide) (by omega), mulOk_of h2.n h2.d' (by omega), mulOk_of n0 h1.d' (by omega), mulOk_of (b := 1) n1 (by decide) (by omega), mulOk_of n2 h2.d' (by omega), by decide, ?_⟩
  rw [wp_V]
  have z1 : ¬ ((0 : Int) * 1 > 0) := by decide
  by_cases hz : sg p e w = 0
  · simp! [↓O, z, hz, ↓ow_eq, ↓ow_ne, z1]
  · simp! [↓O, z, hz, ↓ow_eq, ↓ow_ne, z1]
theorem sg_sgn {p f s : Rat} (h0 : 0 ≤ s) (hf : f ≠ 0) : sg p ((sgn f.num : Int) : Rat) (f * f * s) = sg p f s := by
  have a : (0 < f * f * s) = (0 < s) := by
    apply propext
    have ff : 0 < f * f := by
      rcases tri f with h | h | h
      · have := Rat.mul_pos (show 0 < -f by grind) (show 0 < -f by grind); grind
      · exact absurd h hf
      · exact Rat.mul_pos h h
    constructor
    · intro z
      refine Rat.not_le.mp fun y => ?_
      have : s = 0 := by grind
      rw [this] at z
      grind
    · intro z; exact Rat.mul_pos ff z
  have b : sq ((sgn f.num : Int) : Rat) = sq f := by
    show sgn (sgn f.num) = sgn f.num
    exact sgn_sgn _
  have c : ((sgn f.num : Int) : Rat) * ((sgn f.num : Int) : Rat) = 1 := by
    rcases tri f with h | h | h
    · have : sgn f.num = -1 := sq_neg' h
      rw [this]; decide +kernel
    · exact absurd h hf
    · have : sgn f.num = 1 := sq_pos' h
      rw [this]; decide +kernel
  unfold sg
  rw [b, c, Rat.one_mul]
  simp only [a]
theorem sp_surd_signD {p f s : Rat} {k1 k2 k3 : Nat} {ρ : En} {Q : D → En → Prop} [h1 : Bd k1 p] [h2 : Bd k2 f] [h3 : Bd k3 s] (h0 : 0 ≤ s) (hk : k1 + 2 * k2 + k3 ≤ 2500) : wp (callV 1 m_surd_sign [surdD p f s]) ρ Q ↔ Q (.int (sg p f s)) ρ := by
  have bw : Bd (2 * k2 + k3) (f * f * s) := Bd.mono (inferInstance : Bd _ (f * f * s)) (by omega)
  by_cases h : isSq (f * f * s)
  · have br : Bd (2 * k2 + k3) (rtq (f * f * s)) := rtq_bd bw (ffs_nn h0) h
    have bp : Bd (k1 + (2 * k2 + k3) + 1) (p + (if 0 < f then rtq (f * f * s) else -rtq (f * f * s))) := by
      split
      · exact inferInstance
      · exact inferInstance
    rw [surdD_t h, sp_surd_sign0 (k := k1 + (2 * k2 + k3) + 1) (by omega), sg_root h0 h]
  · have hf : f ≠ 0 := fun z => h (by rw [z, show (0 : Rat) * 0 * s = 0 by grind]; exact isSq_zero)
    have he : sgn f.num = 1 ∨ sgn f.num = -1 := by
      rcases tri f with z | z | z
      · exact .inr (sq_neg' z)
      · exact absurd z hf
      · exact .inl (sq_pos' z)
    rw [surdD_f h, sp_surd_signR (k := k1) (l := 2 * k2 + k3) he (by omega), sg_sgn h0 hf]
abbrev Pt (a b c d s : Rat) : D := .ins "Point" ["cosine", "sine", "square"] [.tup [Fr a, Fr b], .tup [Fr c, Fr d], Fr s]
theorem fld_cos {a b c d s : Rat} {P : D → Prop} : ow (dFld "Point" "cosine" (Pt a b c d s)) P ↔ P (.tup [Fr a, Fr b]) := ow_of (by rfl)
theorem fld_sin {a b c d s : Rat} {P : D → Prop} : ow (dFld "Point" "sine" (Pt a b c d s)) P ↔ P (.tup [Fr c, Fr d]) := ow_of (by rfl)
theorem fld_sq {a b c d s : Rat} {P : D → Prop} : ow (dFld "Point" "square" (Pt a b c d s)) P ↔ P (Fr s) := ow_of (by rfl)
theorem wp_mk {c : Str} {ns : List Str} {fl : M (List D)} {ρ : En} {Q : D → En → Prop} : wp (mMk c ns fl) ρ Q ↔ wp fl ρ fun ds r => if ds.length = ns.length then Q (.ins c ns ds) r else False := by
  unfold mMk
  rw [wp_bind]
  have e : ∀ ds r, wp (if ds.length = ns.length then M.ret (D.ins c ns ds) else fun _ => R.no) r Q ↔ (if ds.length = ns.length then Q (.ins c ns ds) r else False) := fun ds r => by
    split
    · exact wp_ret
    · refine ⟨fun h => ?_, fun h => h.elim⟩
      have h' : ∃ a r', (R.no : R D) = .ok a r' ∧ Q a r' := h
      obtain ⟨_, _, h2, _⟩ := h'
      cases h2
  constructor
  · intro h; exact wp_mono h fun ds r q => (e ds r).mp q
  · intro h; exact wp_mono h fun ds r q => (e ds r).mpr q
theorem wp_meth {c m : Str} {fo F : M D} {fl : M (List D)} {n : Nat} {ρ : En} {Q : D → En → Prop} : wp (mMeth c m fo fl n F) ρ Q ↔ wp fo ρ fun d r => wp (methI c m fl n F d) r Q := by
  unfold mMeth
  rw [wp_bind]
theorem wp_methP {a b c d s : Rat} {m : Str} {F : M D} {fl : M (List D)} {n : Nat} {ρ : En} {Q : D → En → Prop} (h : m ∉ (["cosine", "sine", "square"] : List Str)) : wp (methI "Point" m fl n F (Pt a b c d s)) ρ Q ↔ wp fl ρ fun es r => wp (callV n F (Pt a b c d s :: es)) r Q := by
  unfold Pt
  rw [methI_ins, if_pos ⟨rfl, h⟩, wp_bind]
theorem wp_zipLc {j i n : Nat} {vs : List Nat} {fl : M (List D)} {g : D → M Unit} {t : M Bool} {f : M D} {ρ : En} {Q : Fl → En → Prop} : wp (mZipLc j i n vs fl g t f) ρ Q ↔ wp fl ρ fun ds r => ow (zipT ds) fun ps => setw r j .no fun r => wp (mSet i (mLst (mLc n vs (M.ret ps) g t f))) r Q := by
  show PV.wp _ _ _ ↔ PV.wp fl ρ fun ds r => PV.ow (zipT ds) fun ps => PV.setw r j .no fun r => PV.wp (mSet i (mLst (mLc n vs (M.ret ps) g t f))) r Q
  unfold mZipLc
  simp only [PV.wp_bind, PV.wp_lift, PV.setw_put]
theorem zipT_tt {xs ys : List D} {P : List D → Prop} : ow (zipT [.tup xs, .tup ys]) P ↔ P (pairs xs ys) := ow_some
theorem sp_surds {a b c d s : Rat} {k l : Nat} {ρ : En} {Q : D → En → Prop} [Bd k a] [Bd k b] [Bd k c] [Bd k d] [Bd l s] (h0 : 0 ≤ s) (hk : 3 * k + l ≤ 3000) : wp (callV 1 m_Point_surds [Pt a b c d s]) ρ Q ↔ Q (.tup [surdD a b s, surdD c d s]) ρ := by
  have S1 := fun {ρ : En} {Q : D → En → Prop} => sp_surd_from (ρ := ρ) (Q := Q) (p := a) (f := b) (s := s) (k1 := k) (k2 := k) (k3 := l) h0 (by omega)
  have S2 := fun {ρ : En} {Q : D → En → Prop} => sp_surd_from (ρ := ρ) (Q := Q) (p := c) (f := d) (s := s) (k1 := k) (k2 := k) (k3 := l) h0 (by omega)
  apply wp_eq
  unfold m_Point_surds m_Point_surdsB
  rw [wp_V]
  simp! [↓fld_cos, ↓fld_sin, ↓fld_sq, ↓wp_lc, ↓wp_lc1, ↓wp_lc0, wipeE, isOwn, List.all_cons, List.all_nil, ↓S1, ↓S2]
theorem sp_sign_of_row {a b c d s x y z : Rat} {k l m : Nat} {ρ : En} {Q : D → En → Prop} [Bd k a] [Bd k b] [Bd k c] [Bd k d] [Bd l s] [Bd m x] [Bd m y] [Bd m z] (h0 : 0 ≤ s) (hk : 6 * k + 7 * m + l ≤ 2400) :
    wp (callV 2 m_Point_sign_of_row [Pt a b c d s, .tup [Fr x, Fr y, Fr z]]) ρ Q ↔ Q (.int (sg (x + (y * a + z * c)) (y * b + z * d) s)) ρ := by
  have b1 : Bd (2 * k + 3 * m + 2) (x + (y * a + z * c)) := Bd.mono (inferInstance : Bd _ (x + (y * a + z * c))) (by omega)
  have b2 : Bd (2 * k + 2 * m + 1) (y * b + z * d) := Bd.mono (inferInstance : Bd _ (y * b + z * d)) (by omega)
  have S1 := fun {ρ : En} {Q : D → En → Prop} => sp_surd_from (ρ := ρ) (Q := Q) (p := x + (y * a + z * c)) (f := y * b + z * d) (s := s) (k1 := 2 * k + 3 * m + 2) (k2 := 2 * k + 2 * m + 1) (k3 := l) h0 (by omega)
  have S2 := fun {ρ : En} {Q : D → En → Prop} => sp_surd_signD (ρ := ρ) (Q := Q) (p := x + (y * a + z * c)) (f := y * b + z * d) (s := s) (k1 := 2 * k + 3 * m + 2) (k2 := 2 * k + 2 * m + 1) (k3 := l) h0 (by omega)
  apply wp_eq
  unfold m_Point_sign_of_row m_Point_sign_of_rowB
  rw [wp_V]
  simp! [↓wp_zipLc, ↓zipT_tt, ↓fld_cos, ↓fld_sin, ↓fld_sq, ↓wp_lc, ↓wp_lc1, ↓wp_lc0, wipeE, isOwn, List.all_cons, List.all_nil, ↓sp_ratio_product, ↓sp_ratio_sum, ↓S1, ↓S2]
def qtZ (c s : Int) : Int := if 0 < c ∧ 0 ≤ s then 0 else if 0 < s then 1 else if c < 0 then 2 else 3
def hfZ (c s : Int) : Int := if 0 < s ∨ (s = 0 ∧ 0 < c) then 0 else 1
def sg3 (p q t : Int) : Int := if p = 0 ∨ q = 0 ∨ p = q then (if p = 0 then q else p) else p * t
def befP (X A t Y B u : Int) : Bool :=
  let x1 := sg3 X A t; let x2 := sg3 X (-A) t; let y1 := sg3 Y B u; let y2 := sg3 Y (-B) u
  if qtZ x2 y2 ≠ qtZ x1 y1 then decide (qtZ x2 y2 < qtZ x1 y1) else decide ((if qtZ x2 y2 = 0 ∨ qtZ x2 y2 = 3 then -B else B) < 0)
def befL (X A t Y B u : Int) : Bool :=
  let x1 := sg3 X A t; let x2 := sg3 X (-A) t; let y1 := sg3 Y B u; let y2 := sg3 Y (-B) u
  if hfZ x1 y1 ≠ hfZ x2 y2 then decide (hfZ x1 y1 < hfZ x2 y2) else decide (A * (if hfZ x1 y1 = 0 then 1 else -1) > 0)
def okT (X A t : Int) : Prop := (X = 0 → A ≠ 0 → t = -1) ∧ (A = 0 → t = X * X)
instance {X A t : Int} : Decidable (okT X A t) := by unfold okT; infer_instance
theorem bef_all : ∀ X ∈ [(-1 : Int), 0, 1], ∀ A ∈ [(-1 : Int), 0, 1], ∀ t ∈ [(-1 : Int), 0, 1], ∀ Y ∈ [(-1 : Int), 0, 1], ∀ B ∈ [(-1 : Int), 0, 1], ∀ u ∈ [(-1 : Int), 0, 1],
    X * A = -(Y * B) → ¬ (A = 0 ∧ B = 0) → okT X A t → okT Y B u → ¬ (sg3 X A t = 0 ∧ sg3 Y B u = 0) → ¬ (sg3 X (-A) t = 0 ∧ sg3 Y (-B) u = 0) → befL X A t Y B u = !befP X A t Y B u := by decide +kernel
theorem in3 {n : Int} (h : n = 0 ∨ n = 1 ∨ n = -1) : n ∈ [(-1 : Int), 0, 1] := by
  rcases h with rfl | rfl | rfl <;> decide
theorem bef_eq {X A t Y B u : Int} (hX : X = 0 ∨ X = 1 ∨ X = -1) (hA : A = 0 ∨ A = 1 ∨ A = -1) (ht : t = 0 ∨ t = 1 ∨ t = -1) (hY : Y = 0 ∨ Y = 1 ∨ Y = -1) (hB : B = 0 ∨ B = 1 ∨ B = -1) (hu : u = 0 ∨ u = 1 ∨ u = -1)
    (h1 : X * A = -(Y * B)) (h2 : ¬ (A = 0 ∧ B = 0)) (h3 : okT X A t) (h4 : okT Y B u) (h5 : ¬ (sg3 X A t = 0 ∧ sg3 Y B u = 0)) (h6 : ¬ (sg3 X (-A) t = 0 ∧ sg3 Y (-B) u = 0)) : befL X A t Y B u = !befP X A t Y B u :=
  bef_all X (in3 hX) A (in3 hA) t (in3 ht) Y (in3 hY) B (in3 hB) u (in3 hu) h1 h2 h3 h4 h5 h6
theorem sg_sg3 {p q r : Rat} (h : 0 < r) : sg p q r = sg3 (sq p) (sq q) (sq (p * p - q * q * r)) := by
  unfold sg sg3
  rw [if_pos h]
theorem sq_neg1 (x : Rat) : sq (-x) = -sq x := by
  show sgn (-x).num = -sgn x.num
  rw [Rat.neg_num, sgn_neg]
theorem sq_mul (x y : Rat) : sq (x * y) = sq x * sq y := by
  rcases tri x with h1 | h1 | h1 <;> rcases tri y with h2 | h2 | h2
  · rw [sq_neg' h1, sq_neg' h2, sq_pos' (by have := Rat.mul_pos (show 0 < -x by grind) (show 0 < -y by grind); grind)]; rfl
  · rw [h2, Rat.mul_zero, sq_nul rfl, Int.mul_zero]
  · rw [sq_neg' h1, sq_pos' h2, sq_neg' (by have := Rat.mul_pos (show 0 < -x by grind) h2; grind)]; rfl
  · rw [h1, Rat.zero_mul, sq_nul rfl, Int.zero_mul]
  · rw [h1, Rat.zero_mul, sq_nul rfl, Int.zero_mul]
  · rw [h1, Rat.zero_mul, sq_nul rfl, Int.zero_mul]
  · rw [sq_pos' h1, sq_neg' h2, sq_neg' (by have := Rat.mul_pos h1 (show 0 < -y by grind); grind)]; rfl
  · rw [h2, Rat.mul_zero, sq_nul rfl, Int.mul_zero]
  · rw [sq_pos' h1, sq_pos' h2, sq_pos' (Rat.mul_pos h1 h2)]; rfl
theorem okT_of {p q r : Rat} (h : 0 < r) : okT (sq p) (sq q) (sq (p * p - q * q * r)) := by
  refine ⟨fun hp hq => ?_, fun hq => ?_⟩
  · have p0 : p = 0 := by
      rcases tri p with z | z | z
      · rw [sq_neg' z] at hp; cases hp
      · exact z
      · rw [sq_pos' z] at hp; cases hp
    have q0 : q ≠ 0 := fun z => hq (sq_nul z)
    refine sq_neg' ?_
    have : 0 < q * q := by
      rcases tri q with z | z | z
      · have := Rat.mul_pos (show 0 < -q by grind) (show 0 < -q by grind); grind
      · exact absurd z q0
      · exact Rat.mul_pos z z
    have := Rat.mul_pos this h
    rw [p0]; grind
  · have q0 : q = 0 := by
      rcases tri q with z | z | z
      · rw [sq_neg' z] at hq; cases hq
      · exact z
      · rw [sq_pos' z] at hq; cases hq
    rw [q0, show p * p - 0 * 0 * r = p * p by grind, sq_mul]
abbrev mM (l m : Rat) : Rat := l * l + m * m
abbrev mS (k l m : Rat) : Rat := mM l m - k * k
abbrev PtW (w k l m : Rat) : D := Pt (-(l * k / mM l m)) (w * m / mM l m) (-(m * k / mM l m)) (-w * l / mM l m) (mS k l m)
def ptsP (k l m : Rat) : List D := if mS k l m < 0 then [] else if 0 < mS k l m then [PtW 1 k l m, PtW (-1) k l m] else [PtW 1 k l m]
theorem negneg1 : (-(-1) : Rat) = 1 := by decide +kernel
theorem sp_points_on {k l m : Rat} {j : Nat} {ρ : En} {Q : D → En → Prop} [Bd j k] [Bd j l] [Bd j m] (hj : j ≤ 400) (hM : mM l m ≠ 0) : wp (callV 1 m_points_on [.tup [Fr k, Fr l, Fr m]]) ρ Q ↔ Q (.lst (ptsP k l m)) ρ := by
  have S : ∀ {ρ : En} {Q : D → En → Prop}, wp (callV 1 m_square_length [.tup [Fr l, Fr m]]) ρ Q ↔ Q (Fr (mM l m)) ρ := fun {ρ Q} => sp_square_length (ρ := ρ) (Q := Q) (a1 := l) (a2 := m) (k1 := j) (k2 := j) (by omega)
  have bM : Bd (4 * j + 1) (mM l m) := Bd.mono (inferInstance : Bd _ (l * l + m * m)) (by omega)
  have bS : Bd (6 * j + 2) (mS k l m) := Bd.mono (inferInstance : Bd _ (l * l + m * m - k * k)) (by omega)
  apply wp_eq
  unfold m_points_on m_points_onB ptsP PtW
  rw [wp_V]
  rw [negneg1]
  unfold mS at *
  generalize mM l m = M at *
  by_cases h1 : M - k * k < 0
  · simp! [↓S, ↓sp_ratio_product, ↓sp_ratio_less, num_neg', h1]
  · by_cases h2 : 0 < M - k * k
    · simp! [↓S, ↓sp_ratio_product, ↓sp_ratio_less, ↓sp_ratio_back, ↓sp_ratio_over hM, num_neg', num_pos, h1, h2, ↓wp_loop1, ↓wp_loop0, R_one, R_neg_one, ↓wp_mk, Int.neg_neg]
    · simp! [↓S, ↓sp_ratio_product, ↓sp_ratio_less, ↓sp_ratio_back, ↓sp_ratio_over hM, num_neg', num_pos, h1, h2, ↓wp_loop1, ↓wp_loop0, R_one, R_neg_one, ↓wp_mk, Int.neg_neg]
abbrev Sp5 (a b c d s : Rat) : D := .tup [Fr a, Fr b, Fr c, Fr d, Fr s]
abbrev SpW (w k l m : Rat) : D := Sp5 (-(k * (1 / mM l m)) * l) (-(w * (1 / mM l m) * m)) (-(k * (1 / mM l m)) * m) (w * (1 / mM l m) * l) (mS k l m)
def spL (k l m : Rat) : List D := if mS k l m < 0 then [] else if 0 < mS k l m then [SpW 1 k l m, SpW (-1) k l m] else [SpW 1 k l m]
theorem way_one (q : Rat) : (.tup [.int (1 * q.num), .int q.den] : D) = Fr (1 * q) := by rw [Int.one_mul, Rat.one_mul]; rfl
theorem way_neg (q : Rat) : (.tup [.int (-1 * q.num), .int q.den] : D) = Fr (-1 * q) := by
  have e : (-1 : Rat) * q = -q := by grind
  rw [e]
  unfold Fr
  rw [Rat.neg_num, Rat.neg_den, show -1 * q.num = -q.num by omega]
def ac0 (b c p q : Rat) : Rat := q * b + p * c
def ac1 (a d e p q : Rat) : Rat := q * (1 + d) + p * (a + e)
def ac2 (a d e p q : Rat) : Rat := q * (a - e) + p * (d - 1)
def al0 (b c p q : Rat) : Rat := p * b - q * c
def al1 (a d e p q : Rat) : Rat := p * (1 + d) - q * (a + e)
def al2 (a d e p q : Rat) : Rat := p * (a - e) - q * (d - 1)
theorem sp_mixed_row {x y z x' y' z' f g : Rat} {j l : Nat} {ρ : En} {Q : D → En → Prop} [Bd j x] [Bd j y] [Bd j z] [Bd j x'] [Bd j y'] [Bd j z'] [Bd l f] [Bd l g] (hj : j + l ≤ 1000) (hf : ∃ n : Int, f = n) (hg : ∃ n : Int, g = n) :
    wp (callV 4 m_mixed_row [.tup [Fr x, Fr y, Fr z], .int f.num, .tup [Fr x', Fr y', Fr z'], .int g.num]) ρ Q ↔ Q (.tup [Fr (f * x + g * x'), Fr (f * y + g * y'), Fr (f * z + g * z')]) ρ := by
  have ef : (.tup [.int f.num, .int 1] : D) = Fr f := by obtain ⟨n, rfl⟩ := hf; rfl
  have eg : (.tup [.int g.num, .int 1] : D) = Fr g := by obtain ⟨n, rfl⟩ := hg; rfl
  apply wp_eq
  unfold m_mixed_row m_mixed_rowB
  rw [wp_V]
  simp! [↓wp_loop1, ↓wp_loop0, ef, eg, ↓sp_ratio_product, ↓sp_ratio_sum]
theorem sp_is_nought_row {x y z : Rat} {ρ : En} {Q : D → En → Prop} : wp (callV 1 m_is_nought_row [.tup [Fr x, Fr y, Fr z]]) ρ Q ↔ Q (.bl (decide (y = 0 ∧ z = 0))) ρ := by
  apply wp_eq
  unfold m_is_nought_row m_is_nought_rowB
  rw [wp_V]
  by_cases h1 : y = 0 <;> by_cases h2 : z = 0 <;> simp! [R_zero, ↓ow_eq, h1, h2, and_true, true_and, and_false, false_and]
theorem sg_rise {x r : Rat} (h : 0 ≤ r) : (0 < sg x 1 r) = (0 < x ∨ x * x < r) := by
  apply propext
  have s1 : sq 1 = 1 := sq_pos' (by decide +kernel)
  have e : x * x - 1 * 1 * r = x * x - r := by grind
  unfold sg
  rw [s1, e]
  by_cases hr : 0 < r
  · rw [if_pos hr]
    rcases tri x with hx | hx | hx
    · rw [sq_neg' hx, if_neg (by decide)]
      rcases tri (x * x - r) with z | z | z
      · rw [sq_neg' z]; exact ⟨fun _ => .inr (by grind), fun _ => by decide⟩
      · rw [sq_nul z]; exact ⟨fun y => by omega, fun y => by rcases y with y | y <;> grind⟩
      · rw [sq_pos' z]; exact ⟨fun y => by omega, fun y => by rcases y with y | y <;> grind⟩
    · rw [hx, sq_nul rfl, if_pos (.inl rfl), if_pos rfl]
      exact ⟨fun _ => .inr (by rw [Rat.mul_zero]; exact hr), fun _ => by decide⟩
    · rw [sq_pos' hx, if_pos (.inr (.inr rfl)), if_neg (by decide)]
      exact ⟨fun _ => .inl hx, fun _ => by decide⟩
  · have r0 : r = 0 := by grind
    rw [if_neg hr, if_pos (.inr (.inl rfl))]
    have nn : ¬ x * x < r := by
      rw [r0]
      rcases tri x with z | z | z
      · have := Rat.mul_pos (show 0 < -x by grind) (show 0 < -x by grind); grind
      · rw [z]; decide +kernel
      · have := Rat.mul_pos z z; grind
    rcases tri x with hx | hx | hx
    · rw [sq_neg' hx, if_neg (by decide)]; exact ⟨fun y => by omega, fun y => by rcases y with y | y <;> grind⟩
    · rw [hx, sq_nul rfl, if_pos rfl]
      rw [hx] at nn
      exact ⟨fun y => by omega, fun y => by rcases y with y | y; exact absurd y (by decide +kernel); exact absurd y nn⟩
    · rw [sq_pos' hx, if_neg (by decide)]; exact ⟨fun _ => .inl hx, fun _ => by decide⟩
theorem cut_restA {xs : List D} : cutD xs (some 1) none = xs.drop 1 := by
  have e : HT.sIx xs.length 0 (some 1) = min 1 xs.length := HT.sIx_nat xs.length 0 1
  unfold cutD
  rw [e]
  show (xs.drop (min 1 xs.length)).take (xs.length - min 1 xs.length) = _
  cases xs with
  | nil => rfl
  | cons a t =>
    have : min 1 (a :: t).length = 1 := by simp
    rw [this]
    exact List.take_of_length_le (by simp)
theorem sp_rises_somewhere {x y z : Rat} {j : Nat} {ρ : En} {Q : D → En → Prop} [Bd j x] [Bd j y] [Bd j z] (hj : j ≤ 300) : wp (callV 1 m_rises_somewhere [.tup [Fr x, Fr y, Fr z]]) ρ Q ↔ Q (.bl (decide (0 < x ∨ x * x < y * y + z * z))) ρ := by
  have r0 : 0 ≤ y * y + z * z := by have := sq_nnW y; have := sq_nnW z; grind
  have S : ∀ {ρ : En} {Q : D → En → Prop}, wp (callV 1 m_square_length [.tup [Fr y, Fr z]]) ρ Q ↔ Q (Fr (y * y + z * z)) ρ := fun {ρ Q} => sp_square_length (ρ := ρ) (Q := Q) (a1 := y) (a2 := z) (k1 := j) (k2 := j) (by omega)
  have bR : Bd (4 * j + 1) (y * y + z * z) := Bd.mono (inferInstance : Bd _ (y * y + z * z)) (by omega)
  have S1 := fun {ρ : En} {Q : D → En → Prop} => sp_surd_from (ρ := ρ) (Q := Q) (p := x) (f := 1) (s := y * y + z * z) (k1 := j) (k2 := 1) (k3 := 4 * j + 1) r0 (by omega)
  have S2 := fun {ρ : En} {Q : D → En → Prop} => sp_surd_signD (ρ := ρ) (Q := Q) (p := x) (f := 1) (s := y * y + z * z) (k1 := j) (k2 := 1) (k3 := 4 * j + 1) r0 (by omega)
  have e := sg_rise (x := x) r0
  apply wp_eq
  unfold m_rises_somewhere m_rises_somewhereB
  rw [wp_V]
  simp! [ow_sl_tup, cut_restA, List.drop_succ_cons, List.drop_zero, ↓S, R_one, ↓S1, ↓S2, e]
  try (simp only [gt_iff_lt, e])
theorem sp_compared0 {x y : Rat} {k : Nat} {ρ : En} {Q : D → En → Prop} [h1 : Bd k x] [h2 : Bd k y] (hk : k ≤ 9000) : wp (callV 2 m_compared [.tup [Fr x, .int 0, Fr 0], .tup [Fr y, .int 0, Fr 0]]) ρ Q ↔ Q (.int (sq (x - y))) ρ := by
  have e0 : Fr (0 : Rat) = .tup [.int 0, .int 1] := rfl
  have ex : Fr x = .tup [.int x.num, .int x.den] := rfl
  have ey : Fr y = .tup [.int y.num, .int y.den] := rfl
  have z : sgn (x.num * y.den - y.num * x.den) = sq (x - y) := by
    have d1 := den_posA x
    have d2 := den_posA y
    have n1 := num_denA x
    have n2 := num_denA y
    refine sgn_of (c := ((x.den : Int) : Rat) * ((y.den : Int) : Rat)) (Rat.mul_pos d1 d2) ?_
    rw [Rat.intCast_sub, Rat.intCast_mul, Rat.intCast_mul, ← n1, ← n2]
    grind
  apply wp_eq
  unfold m_compared m_comparedB
  rw [wp_V, e0, ex, ey]
  simp! [↓ow_eq, ↓sp_sign_of, z]
  exact ⟨mulOk_of h1.n h2.d' (by omega), mulOk_of h2.n h1.d' (by omega)⟩
theorem sgn_pm {e m : Int} (he : e = 1 ∨ e = -1) (hm : 0 < m) : sgn (e * m) = e := by
  rcases he with rfl | rfl
  · rw [Int.one_mul]; unfold sgn; rw [if_pos hm]
  · unfold sgn; rw [if_neg (by omega), if_pos (by omega)]
theorem sp_comparedR {p w : Rat} {e : Int} {k l : Nat} {ρ : En} {Q : D → En → Prop} [h1 : Bd k p] [h2 : Bd l w] (he : e = 1 ∨ e = -1) (hw : 0 < w) (hk : 4 * k + 4 * l ≤ 9000) : wp (callV 2 m_compared [.tup [Fr p, .int e, Fr w], .tup [Fr p, .int (-e), Fr w]]) ρ Q ↔ Q (.int e) ρ := by
  have ep : Fr p = .tup [.int p.num, .int p.den] := rfl
  have ew : Fr w = .tup [.int w.num, .int w.den] := rfl
  have ne : ¬ e = 0 := by omega
  have ne2 : ¬ -e = 0 := by omega
  have en : e.natAbs < 2 ^ 1 := by omega
  have en2 : (-e).natAbs < 2 ^ 1 := by omega
  have en3 : (-(-e)).natAbs < 2 ^ 1 := by omega
  have dp : (0 : Int) < p.den := by have := p.den_pos; omega
  have dw : (0 : Int) < w.den := by have := w.den_pos; omega
  have nw : 0 < w.num := num_pos.mpr hw
  have g0 : p.num * p.den - p.num * p.den = 0 := Int.sub_self _
  have a1 : (e * p.den).natAbs < 2 ^ (1 + k) := mul_ab en h1.d'
  have a2 : (e * p.den * p.den).natAbs < 2 ^ (1 + k + k) := mul_ab a1 h1.d'
  have a3 : (e * p.den * p.den * w.den).natAbs < 2 ^ (1 + k + k + l) := mul_ab a2 h2.d'
  have c1 : (-(-e) * p.den).natAbs < 2 ^ (1 + k) := mul_ab en3 h1.d'
  have c2 : (-(-e) * p.den * p.den).natAbs < 2 ^ (1 + k + k) := mul_ab c1 h1.d'
  have c3 : (-(-e) * p.den * p.den * w.den).natAbs < 2 ^ (1 + k + k + l) := mul_ab c2 h2.d'
  have r1 : (w.num * w.den).natAbs < 2 ^ (l + l) := mul_ab h2.n h2.d'
  have rp : 0 < w.num * w.den := Int.mul_pos nw dw
  have z3 : (0 : Int).natAbs < 2 ^ 1 := by decide
  have s1 : sgn (e * p.den * p.den * w.den) = e := by
    rw [Int.mul_assoc, Int.mul_assoc]
    exact sgn_pm he (Int.mul_pos dp (Int.mul_pos dp dw))
  have s2 : sgn (-(-e) * p.den * p.den * w.den) = e := by rw [Int.neg_neg]; exact s1
  have O := fun {ρ : En} {Q : D → En → Prop} => sp_sign_of_one (ρ := ρ) (Q := Q) (p := 0) z3 a3 r1 (by omega)
  have z : sgZ 0 (e * p.den * p.den * w.den) (w.num * w.den) = e := by
    unfold sgZ
    rw [if_pos (.inl rfl), if_pos (show sgn 0 = 0 from rfl), if_pos rp, s1]
  apply wp_eq
  unfold m_compared m_comparedB m_sign_of_two m_sign_of_twoB
  rw [wp_V, ep, ew]
  simp! [↓ow_eq, ne, ne2, g0]
  refine ⟨mulOk_of h1.n h1.d' (by omega), mulOk_of h1.n h1.d' (by omega), mulOk_of z3 h2.d' (by omega), mulOk_of (a := 1 + l) (mul_ab z3 h2.d') h2.d' (by omega), mulOk_of en h1.d' (by omega), mulOk_of a1 h1.d' (by omega), mulOk_of a2 h2.d' (by omega),
    mulOk_of h2.n h2.d' (by omega), mulOk_of en3 h1.d' (by omega), mulOk_of c1 h1.d' (by omega), mulOk_of c2 h2.d' (by omega), mulOk_of h2.n h2.d' (by omega), ?_⟩
  have y0 : (0 : Int) * w.den * w.den = 0 := by rw [Int.zero_mul, Int.zero_mul]
  have rp' : w.num * w.den > 0 := rp
  rw [y0, wp_V]
  simp! [↓O, z, ↓sp_sign_of, s2, rp', ne, ↓ow_eq, ↓ow_ne]
theorem nfs (f s : Rat) : -f * -f * s = f * f * s := by grind
theorem sgn_negnum (f : Rat) : sgn (-f).num = -sgn f.num := by rw [Rat.neg_num, sgn_neg]
theorem root_gap {f s r p : Rat} (h0 : 0 < s) (r0 : 0 ≤ r) (r2 : r * r = f * f * s) : sq (p + (if 0 < f then r else -r) - (p + (if 0 < -f then r else -r))) = sq f := by
  rcases tri f with hf | hf | hf
  · have rp : 0 < r := by
      refine Rat.not_le.mp fun z => ?_
      have : r = 0 := by grind
      rw [this] at r2
      have := Rat.mul_pos (Rat.mul_pos (show 0 < -f by grind) (show 0 < -f by grind)) h0
      grind
    rw [if_neg (by grind), if_pos (by grind), sq_neg' hf]
    exact sq_neg' (by grind)
  · have r3 : r = 0 := by
      rw [hf] at r2
      have : r * r = 0 := by grind
      rcases Rat.mul_eq_zero.mp this with z | z <;> exact z
    rw [r3, sq_nul hf]
    refine sq_nul ?_
    split <;> split <;> grind
  · have rp : 0 < r := by
      refine Rat.not_le.mp fun z => ?_
      have : r = 0 := by grind
      rw [this] at r2
      have := Rat.mul_pos (Rat.mul_pos hf hf) h0
      grind
    rw [if_pos hf, if_neg (by grind), sq_pos' hf]
    exact sq_pos' (by grind)
theorem sp_comparedD {p f s : Rat} {k1 k2 k3 : Nat} {ρ : En} {Q : D → En → Prop} [h1 : Bd k1 p] [h2 : Bd k2 f] [h3 : Bd k3 s] (h0 : 0 < s) (hk : k1 + 2 * k2 + k3 ≤ 2000) : wp (callV 2 m_compared [surdD p f s, surdD p (-f) s]) ρ Q ↔ Q (.int (sq f)) ρ := by
  have s0 : 0 ≤ s := by grind
  have bw : Bd (2 * k2 + k3) (f * f * s) := Bd.mono (inferInstance : Bd _ (f * f * s)) (by omega)
  by_cases h : isSq (f * f * s)
  · have br : Bd (2 * k2 + k3) (rtq (f * f * s)) := rtq_bd bw (ffs_nn s0) h
    have hn : isSq (-f * -f * s) := by rw [nfs]; exact h
    have bp : ∀ g : Rat, Bd (k1 + (2 * k2 + k3) + 1) (p + (if 0 < g then rtq (f * f * s) else -rtq (f * f * s))) := fun g => by
      split
      · exact inferInstance
      · exact inferInstance
    have b1 := bp f
    have b2 := bp (-f)
    rw [surdD_t h, surdD_t hn, nfs, sp_compared0 (k := k1 + (2 * k2 + k3) + 1) (by omega), root_gap h0 (rtq_nn (ffs_nn s0) h) (rtq_sq (ffs_nn s0) h)]
  · have hn : ¬ isSq (-f * -f * s) := by rw [nfs]; exact h
    have hf : f ≠ 0 := fun z => h (by rw [z, show (0 : Rat) * 0 * s = 0 by grind]; exact isSq_zero)
    have he : sgn f.num = 1 ∨ sgn f.num = -1 := by
      rcases tri f with z | z | z
      · exact .inr (sq_neg' z)
      · exact absurd z hf
      · exact .inl (sq_pos' z)
    have ff : 0 < f * f * s := by
      have : 0 < f * f := by
        rcases tri f with z | z | z
        · have := Rat.mul_pos (show 0 < -f by grind) (show 0 < -f by grind); grind
        · exact absurd z hf
        · exact Rat.mul_pos z z
      exact Rat.mul_pos this h0
    rw [surdD_f h, surdD_f hn, nfs, sgn_negnum, sp_comparedR (k := k1) (l := 2 * k2 + k3) he ff (by omega)]
    rfl
theorem sg_zero {x : Rat} : sg x 0 0 = sq x := by
  unfold sg
  rw [if_neg (show ¬ (0 : Rat) < 0 by decide +kernel), if_pos (.inr (.inl rfl))]
  split
  · rename_i z; exact z.symm
  · rfl
theorem R_int2 {p : Int} : (.tup [.int p, .int 1] : D) = Fr (p : Rat) := rfl
theorem sp_quarter_byZ {c s : Int} {ρ : En} {Q : D → En → Prop} : wp (callV 2 m_quarter_by [.int c, .int s]) ρ Q ↔ Q (.int (qtZ c s)) ρ := by
  apply wp_eq
  unfold m_quarter_by m_quarter_byB
  rw [wp_V]
  unfold qtZ
  by_cases h1 : 0 < c <;> by_cases h2 : 0 ≤ s <;> by_cases h3 : 0 < s <;> by_cases h4 : c < 0 <;> simp! [h1, h2, h3, h4, and_true, and_false, false_and]
noncomputable abbrev hdD (X F Y G S : Rat) : D := .tup [surdD X F S, surdD Y G S]
theorem sp_quarter_of_surds {X F Y G S : Rat} {k : Nat} {ρ : En} {Q : D → En → Prop} [Bd k X] [Bd k F] [Bd k Y] [Bd k G] [Bd k S] (h0 : 0 ≤ S) (hk : k ≤ 600) : wp (callV 1 m_quarter_of_surds [hdD X F Y G S]) ρ Q ↔ Q (.int (qtZ (sg X F S) (sg Y G S))) ρ := by
  have S1 := fun {ρ : En} {Q : D → En → Prop} => sp_surd_signD (ρ := ρ) (Q := Q) (p := X) (f := F) (s := S) (k1 := k) (k2 := k) (k3 := k) h0 (by omega)
  have S2 := fun {ρ : En} {Q : D → En → Prop} => sp_surd_signD (ρ := ρ) (Q := Q) (p := Y) (f := G) (s := S) (k1 := k) (k2 := k) (k3 := k) h0 (by omega)
  apply wp_eq
  unfold m_quarter_of_surds m_quarter_of_surdsB
  rw [wp_V]
  simp! [↓S1, ↓S2, ↓sp_quarter_byZ]
def befB (X F Y G S : Rat) : Bool := befP (sq X) (sq F) (sq (X * X - F * F * S)) (sq Y) (sq (-G)) (sq (Y * Y - -G * -G * S))
theorem qtZ_in (c s : Int) : qtZ c s = 0 ∨ qtZ c s = 1 ∨ qtZ c s = 2 ∨ qtZ c s = 3 := by
  unfold qtZ; split
  · exact .inl rfl
  · split
    · exact .inr (.inl rfl)
    · split
      · exact .inr (.inr (.inl rfl))
      · exact .inr (.inr (.inr rfl))
theorem ow_in03 {n : Int} {P : D → Prop} (h : n = 0 ∨ n = 1 ∨ n = 2 ∨ n = 3) : ow (dIn (.int n) (.tup [.int 0, .int 3])) P ↔ P (.bl (decide (n = 0 ∨ n = 3))) := by
  rcases h with rfl | rfl | rfl | rfl <;> exact ow_some
theorem negneg (x : Rat) : -(-x) = x := by grind
theorem sg_three {p q r : Rat} (h : 0 < r) : sg p (-q) r = sg3 (sq p) (-sq q) (sq (p * p - q * q * r)) := by
  rw [sg_sg3 h, sq_neg1, nfs]
theorem befB_eq {X F Y G S : Rat} (h0 : 0 < S) : befB X F Y G S = if qtZ (sg X (-F) S) (sg Y G S) ≠ qtZ (sg X F S) (sg Y (-G) S) then decide (qtZ (sg X (-F) S) (sg Y G S) < qtZ (sg X F S) (sg Y (-G) S)) else decide ((if qtZ (sg X (-F) S) (sg Y G S) = 0 ∨ qtZ (sg X (-F) S) (sg Y G S) = 3 then -sq (-G) else sq (-G)) < 0) := by
  have g1 : sg X F S = sg3 (sq X) (sq F) (sq (X * X - F * F * S)) := sg_sg3 h0
  have g2 : sg X (-F) S = sg3 (sq X) (-sq F) (sq (X * X - F * F * S)) := sg_three h0
  have g3 : sg Y (-G) S = sg3 (sq Y) (sq (-G)) (sq (Y * Y - -G * -G * S)) := sg_sg3 h0
  have g4 : sg Y G S = sg3 (sq Y) (-sq (-G)) (sq (Y * Y - -G * -G * S)) := by
    have := sg_three (p := Y) (q := -G) h0
    rwa [negneg] at this
  rw [g1, g2, g3, g4]
  rfl
theorem ms_surds : ("surds" : Str) ∉ (["cosine", "sine", "square"] : List Str) := by decide +kernel
theorem ms_sign : ("sign_of_row" : Str) ∉ (["cosine", "sine", "square"] : List Str) := by decide +kernel
theorem sp_comes_first {X F Y G S : Rat} {k : Nat} {ρ : En} {Q : D → En → Prop} [Bd k X] [Bd k F] [Bd k Y] [Bd k G] [Bd k S] (h0 : 0 < S) (hk : k ≤ 350) : wp (callV 2 m_comes_first [hdD X (-F) Y G S, hdD X F Y (-G) S]) ρ Q ↔ Q (.bl (befB X F Y G S)) ρ := by
  have s0 : 0 ≤ S := by grind
  have Q1 := fun {ρ : En} {Q : D → En → Prop} => sp_quarter_of_surds (ρ := ρ) (Q := Q) (X := X) (F := -F) (Y := Y) (G := G) (S := S) (k := k) s0 (by omega)
  have Q2 := fun {ρ : En} {Q : D → En → Prop} => sp_quarter_of_surds (ρ := ρ) (Q := Q) (X := X) (F := F) (Y := Y) (G := -G) (S := S) (k := k) s0 (by omega)
  have C1 := fun {ρ : En} {Q : D → En → Prop} => sp_comparedD (ρ := ρ) (Q := Q) (p := Y) (f := G) (s := S) (k1 := k) (k2 := k) (k3 := k) h0 (by omega)
  have C2 := fun {ρ : En} {Q : D → En → Prop} => sp_comparedD (ρ := ρ) (Q := Q) (p := Y) (f := -G) (s := S) (k1 := k) (k2 := k) (k3 := k) h0 (by omega)
  rw [negneg] at C2
  have g5 : sq (-G) = -sq G := sq_neg1 G
  apply wp_eq
  unfold m_comes_first m_comes_firstB
  rw [wp_V, befB_eq h0]
  have h1 := qtZ_in (sg X (-F) S) (sg Y G S)
  generalize qtZ (sg X (-F) S) (sg Y G S) = a at *
  generalize qtZ (sg X F S) (sg Y (-G) S) = b at *
  by_cases e : a = b
  · subst e
    by_cases z : a = 0 ∨ a = 3
    · simp! [↓Q1, ↓Q2, ↓ow_ne, ↓ow_in03 h1, z, ↓C1, ne_eq, not_true_eq_false, g5, Int.neg_neg]
    · simp! [↓Q1, ↓Q2, ↓ow_ne, ↓ow_in03 h1, z, ↓C2, ne_eq, not_true_eq_false, g5, Int.neg_neg]
  · simp! [↓Q1, ↓Q2, ↓ow_ne, e, ne_eq, not_false_eq_true]
theorem sp_in_order0 {ρ : En} {Q : D → En → Prop} : wp (callV 1 m_in_order [.lst []]) ρ Q ↔ Q (.lst []) ρ := by
  apply wp_eq
  unfold m_in_order m_in_orderB
  rw [wp_V]
  simp! [↓wp_lc, ↓wp_lc1, ↓wp_lc0, wipeE, isOwn, List.all_cons, List.all_nil, ↓ow_eq, Int.reduceEq]
theorem sp_in_order1 {X F Y G S : Rat} {k : Nat} {ρ : En} {Q : D → En → Prop} [Bd k X] [Bd k F] [Bd k Y] [Bd k G] [Bd k S] (h0 : 0 ≤ S) (hk : k ≤ 350) : wp (callV 1 m_in_order [.lst [Pt X F Y G S]]) ρ Q ↔ Q (.lst [hdD X F Y G S]) ρ := by
  have S1 := fun {ρ : En} {Q : D → En → Prop} => sp_surds (ρ := ρ) (Q := Q) (a := X) (b := F) (c := Y) (d := G) (s := S) (k := k) (l := k) h0 (by omega)
  apply wp_eq
  unfold m_in_order m_in_orderB
  rw [wp_V]
  simp! [↓wp_lc, ↓wp_lc1, ↓wp_lc0, wipeE, isOwn, List.all_cons, List.all_nil, ↓ow_eq, Int.reduceEq, ↓wp_meth, ↓wp_methP ms_surds, ↓S1]
theorem ow_rev_lst {xs : List D} {P : D → Prop} : ow (dRev (.lst xs)) P ↔ P (.lst xs.reverse) := ow_some
theorem sp_in_order2 {X F Y G S : Rat} {k : Nat} {ρ : En} {Q : D → En → Prop} [Bd k X] [Bd k F] [Bd k Y] [Bd k G] [Bd k S] (h0 : 0 < S) (hk : k ≤ 350) : wp (callV 1 m_in_order [.lst [Pt X F Y (-G) S, Pt X (-F) Y G S]]) ρ Q ↔ Q (.lst (if befB X F Y G S = true then [hdD X (-F) Y G S, hdD X F Y (-G) S] else [hdD X F Y (-G) S, hdD X (-F) Y G S])) ρ := by
  have s0 : 0 ≤ S := by grind
  have S1 := fun {ρ : En} {Q : D → En → Prop} => sp_surds (ρ := ρ) (Q := Q) (a := X) (b := F) (c := Y) (d := -G) (s := S) (k := k) (l := k) s0 (by omega)
  have S2 := fun {ρ : En} {Q : D → En → Prop} => sp_surds (ρ := ρ) (Q := Q) (a := X) (b := -F) (c := Y) (d := G) (s := S) (k := k) (l := k) s0 (by omega)
  have C := fun {ρ : En} {Q : D → En → Prop} => sp_comes_first (ρ := ρ) (Q := Q) (X := X) (F := F) (Y := Y) (G := G) (S := S) (k := k) h0 (by omega)
  apply wp_eq
  unfold m_in_order m_in_orderB
  rw [wp_V]
  by_cases z : befB X F Y G S = true
  · simp! [↓wp_lc, ↓wp_lc1, ↓wp_lc0, wipeE, isOwn, List.all_cons, List.all_nil, ↓ow_eq, Int.reduceEq, ↓wp_meth, ↓wp_methP ms_surds, ↓S1, ↓S2, ↓C, z, ↓ow_rev_lst, List.reverse_cons, List.reverse_nil]
  · simp! [↓wp_lc, ↓wp_lc1, ↓wp_lc0, wipeE, isOwn, List.all_cons, List.all_nil, ↓ow_eq, Int.reduceEq, ↓wp_meth, ↓wp_methP ms_surds, ↓S1, ↓S2, ↓C, z]
theorem sp_sign_of_rowB {a b c d s x y z : Rat} {k l m k1 k2 : Nat} {ρ : En} {Q : D → En → Prop} [Bd k a] [Bd k b] [Bd k c] [Bd k d] [Bd l s] [Bd m x] [Bd m y] [Bd m z] [Bd k1 (x + (y * a + z * c))] [Bd k2 (y * b + z * d)] (h0 : 0 ≤ s) (hk : k + m ≤ 800) (hl : k1 + 2 * k2 + l ≤ 2500) :
    wp (callV 2 m_Point_sign_of_row [Pt a b c d s, .tup [Fr x, Fr y, Fr z]]) ρ Q ↔ Q (.int (sg (x + (y * a + z * c)) (y * b + z * d) s)) ρ := by
  have S1 := fun {ρ : En} {Q : D → En → Prop} => sp_surd_from (ρ := ρ) (Q := Q) (p := x + (y * a + z * c)) (f := y * b + z * d) (s := s) (k1 := k1) (k2 := k2) (k3 := l) h0 (by omega)
  have S2 := fun {ρ : En} {Q : D → En → Prop} => sp_surd_signD (ρ := ρ) (Q := Q) (p := x + (y * a + z * c)) (f := y * b + z * d) (s := s) (k1 := k1) (k2 := k2) (k3 := l) h0 (by omega)
  apply wp_eq
  unfold m_Point_sign_of_row m_Point_sign_of_rowB
  rw [wp_V]
  simp! [↓wp_zipLc, ↓zipT_tt, ↓fld_cos, ↓fld_sin, ↓fld_sq, ↓wp_lc, ↓wp_lc1, ↓wp_lc0, wipeE, isOwn, List.all_cons, List.all_nil, ↓sp_ratio_product, ↓sp_ratio_sum, ↓S1, ↓S2]
def befLB (X F Y G S : Rat) : Bool := befL (sq X) (sq F) (sq (X * X - F * F * S)) (sq Y) (sq (-G)) (sq (Y * Y - -G * -G * S))
theorem hf_cases (x y : Int) : (0 < y ∧ (0 : Int) ≤ 0 ∧ (0 : Int) ≤ 0 ∧ hfZ x y = 0) ∨ (¬ 0 < y ∧ y = 0 ∧ 0 < x ∧ hfZ x y = 0) ∨ (¬ 0 < y ∧ y = 0 ∧ ¬ 0 < x ∧ hfZ x y = 1) ∨ (¬ 0 < y ∧ ¬ y = 0 ∧ (0 : Int) ≤ 0 ∧ hfZ x y = 1) := by
  unfold hfZ
  by_cases h1 : 0 < y
  · exact .inl ⟨h1, by decide, by decide, if_pos (.inl h1)⟩
  · by_cases h2 : y = 0
    · by_cases h3 : 0 < x
      · exact .inr (.inl ⟨h1, h2, h3, if_pos (.inr ⟨h2, h3⟩)⟩)
      · exact .inr (.inr (.inl ⟨h1, h2, h3, if_neg fun z => z.elim h1 fun y => h3 y.2⟩))
    · exact .inr (.inr (.inr ⟨h1, h2, by decide, if_neg fun z => z.elim h1 fun y => h2 y.1⟩))
theorem bef_flip {X F Y G S : Rat} (h0 : 0 < S) (h1 : X * F = Y * G) (h2 : ¬ (F = 0 ∧ G = 0)) : befLB X F Y G S = !befB X F Y G S := by
  have z0 : ∀ {x : Rat}, sq x = 0 → x = 0 := fun {x} h => by
    rcases tri x with z | z | z
    · rw [sq_neg' z] at h; cases h
    · exact z
    · rw [sq_pos' z] at h; cases h
  have e1 : sq X * sq F = -(sq Y * sq (-G)) := by
    rw [← sq_mul, h1, sq_mul, sq_neg1, Int.mul_neg, Int.neg_neg]
  have e2 : ¬ (sq F = 0 ∧ sq (-G) = 0) := fun ⟨a, b⟩ => h2 ⟨z0 a, by have := z0 b; grind⟩
  have both : ∀ {f g : Rat}, X * f = -(Y * g) → ¬ (f = 0 ∧ g = 0) → ¬ (sg X f S = 0 ∧ sg Y g S = 0) := fun {f g} w1 w2 ⟨a, b⟩ => by
    have key : ∀ {p q : Rat}, sg p q S = 0 → (p = 0 ∧ q = 0) ∨ p * q < 0 := fun {p q} h => by
      unfold sg at h
      rw [if_pos h0] at h
      rcases tri p with z | z | z <;> rcases tri q with y | y | y
      · rw [sq_neg' z, sq_neg' y] at h; simp at h
      · rw [sq_neg' z, sq_nul y] at h; simp at h
      · have := Rat.mul_pos (show 0 < -p by grind) y; exact .inr (by grind)
      · rw [sq_nul z, sq_neg' y] at h; simp at h
      · exact .inl ⟨z, y⟩
      · rw [sq_nul z, sq_pos' y] at h; simp at h
      · have := Rat.mul_pos z (show 0 < -q by grind); exact .inr (by grind)
      · rw [sq_pos' z, sq_nul y] at h; simp at h
      · rw [sq_pos' z, sq_pos' y] at h; simp at h
    rcases key a with ⟨a1, a2⟩ | a1 <;> rcases key b with ⟨b1, b2⟩ | b1
    · exact w2 ⟨a2, b2⟩
    · rw [a1, Rat.zero_mul] at w1; grind
    · rw [b1, Rat.zero_mul] at w1; grind
    · grind
  have n1 : ¬ (sg X F S = 0 ∧ sg Y (-G) S = 0) := both (by grind) fun ⟨a, b⟩ => h2 ⟨a, by grind⟩
  have n2 : ¬ (sg X (-F) S = 0 ∧ sg Y G S = 0) := both (by grind) fun ⟨a, b⟩ => h2 ⟨by grind, b⟩
  have g1 : sg X F S = sg3 (sq X) (sq F) (sq (X * X - F * F * S)) := sg_sg3 h0
  have g2 : sg X (-F) S = sg3 (sq X) (-sq F) (sq (X * X - F * F * S)) := sg_three h0
  have g3 : sg Y (-G) S = sg3 (sq Y) (sq (-G)) (sq (Y * Y - -G * -G * S)) := sg_sg3 h0
  have g4 : sg Y G S = sg3 (sq Y) (-sq (-G)) (sq (Y * Y - -G * -G * S)) := by
    have := sg_three (p := Y) (q := -G) h0
    rwa [negneg] at this
  unfold befLB befB
  rw [g1, g3] at n1
  rw [g2, g4] at n2
  exact bef_eq (sq_bd _) (sq_bd _) (sq_bd _) (sq_bd _) (sq_bd _) (sq_bd _) e1 e2 (okT_of h0) (okT_of h0) n1 n2
def lX (k l m : Rat) : Rat := -(l * k / mM l m)
def lF (l m : Rat) : Rat := m / mM l m
def lY (k l m : Rat) : Rat := -(m * k / mM l m)
def lG (l m : Rat) : Rat := l / mM l m
theorem PtW_one {k l m : Rat} : PtW 1 k l m = Pt (lX k l m) (lF l m) (lY k l m) (-lG l m) (mS k l m) := by
  have e1 : (1 : Rat) * m / mM l m = lF l m := by unfold lF; rw [Rat.one_mul]
  have e2 : -1 * l / mM l m = -lG l m := by unfold lG; rw [Rat.div_def, Rat.div_def]; grind
  unfold PtW
  rw [e1, e2]; rfl
theorem PtW_neg {k l m : Rat} : PtW (-1) k l m = Pt (lX k l m) (-lF l m) (lY k l m) (lG l m) (mS k l m) := by
  have e1 : (-1 : Rat) * m / mM l m = -lF l m := by unfold lF; rw [Rat.div_def, Rat.div_def]; grind
  have e2 : -(-1) * l / mM l m = lG l m := by unfold lG; rw [Rat.div_def, Rat.div_def]; grind
  unfold PtW
  rw [e1, e2]; rfl
theorem ptsP_eq {k l m : Rat} : ptsP k l m = if mS k l m < 0 then [] else if 0 < mS k l m then [Pt (lX k l m) (lF l m) (lY k l m) (-lG l m) (mS k l m), Pt (lX k l m) (-lF l m) (lY k l m) (lG l m) (mS k l m)] else [Pt (lX k l m) (lF l m) (lY k l m) (-lG l m) (mS k l m)] := by
  unfold ptsP
  rw [PtW_one, PtW_neg]
theorem SpW_one {k l m : Rat} : SpW 1 k l m = Sp5 (lX k l m) (-lF l m) (lY k l m) (lG l m) (mS k l m) := by
  have e1 : -(k * (1 / mM l m)) * l = lX k l m := by unfold lX; rw [Rat.div_def, Rat.div_def]; grind
  have e2 : -(1 * (1 / mM l m) * m) = -lF l m := by unfold lF; rw [Rat.div_def, Rat.div_def]; grind
  have e3 : -(k * (1 / mM l m)) * m = lY k l m := by unfold lY; rw [Rat.div_def, Rat.div_def]; grind
  have e4 : 1 * (1 / mM l m) * l = lG l m := by unfold lG; rw [Rat.div_def, Rat.div_def]; grind
  unfold SpW
  rw [e1, e2, e3, e4]
theorem SpW_neg {k l m : Rat} : SpW (-1) k l m = Sp5 (lX k l m) (lF l m) (lY k l m) (-lG l m) (mS k l m) := by
  have e1 : -(k * (1 / mM l m)) * l = lX k l m := by unfold lX; rw [Rat.div_def, Rat.div_def]; grind
  have e2 : -(-1 * (1 / mM l m) * m) = lF l m := by unfold lF; rw [Rat.div_def, Rat.div_def]; grind
  have e3 : -(k * (1 / mM l m)) * m = lY k l m := by unfold lY; rw [Rat.div_def, Rat.div_def]; grind
  have e4 : -1 * (1 / mM l m) * l = -lG l m := by unfold lG; rw [Rat.div_def, Rat.div_def]; grind
  unfold SpW
  rw [e1, e2, e3, e4]
theorem spL_eq {k l m : Rat} : spL k l m = if mS k l m < 0 then [] else if 0 < mS k l m then [Sp5 (lX k l m) (-lF l m) (lY k l m) (lG l m) (mS k l m), Sp5 (lX k l m) (lF l m) (lY k l m) (-lG l m) (mS k l m)] else [Sp5 (lX k l m) (-lF l m) (lY k l m) (lG l m) (mS k l m)] := by
  unfold spL
  rw [SpW_one, SpW_neg]
theorem hd_nul {X F Y G : Rat} : hdD X F Y G 0 = .tup [.tup [Fr X, .int 0, Fr 0], .tup [Fr Y, .int 0, Fr 0]] := by
  have z : ∀ p f : Rat, surdD p f 0 = .tup [Fr p, .int 0, Fr 0] := fun p f => by
    have e : f * f * 0 = 0 := Rat.mul_zero _
    have h : isSq (f * f * 0) := by rw [e]; exact isSq_zero
    rw [surdD_t h, e, rtq_zero]
    have : p + (if 0 < f then (0 : Rat) else -0) = p := by split <;> grind
    rw [this]
  show D.tup [_, _] = _
  rw [z, z]
noncomputable def ordL (X F Y G S : Rat) (b1 b2 : Bool) : List D :=
  if b1 = true then (if b2 = true then (if befB X F Y G S = true then [hdD X (-F) Y G S, hdD X F Y (-G) S] else [hdD X F Y (-G) S, hdD X (-F) Y G S]) else [hdD X F Y (-G) S]) else if b2 = true then [hdD X (-F) Y G S] else []
noncomputable def lineL (k l m : Rat) (b1 b2 : Bool) : List D :=
  if mS k l m < 0 then [] else if 0 < mS k l m then ordL (lX k l m) (lF l m) (lY k l m) (lG l m) (mS k l m) b1 b2 else if b1 = true then [hdD (lX k l m) (lF l m) (lY k l m) (-lG l m) (mS k l m)] else []
def sA (k l m x y z : Rat) : Int := sg (x + (y * lX k l m + z * lY k l m)) (y * lF l m + z * -lG l m) (mS k l m)
def sB (k l m x y z : Rat) : Int := sg (x + (y * lX k l m + z * lY k l m)) (y * -lF l m + z * lG l m) (mS k l m)
structure LineB (k l m x y z : Rat) : Prop where
  k_ : Bd 128 k
  l_ : Bd 128 l
  m_ : Bd 128 m
  x_ : Bd 128 x
  y_ : Bd 128 y
  z_ : Bd 128 z
  X : Bd 260 (lX k l m)
  F : Bd 260 (lF l m)
  Y : Bd 260 (lY k l m)
  G : Bd 260 (lG l m)
  S : Bd 260 (mS k l m)
  P : Bd 390 (x + (y * lX k l m + z * lY k l m))
  R1 : Bd 261 (y * lF l m + z * -lG l m)
  R2 : Bd 261 (y * -lF l m + z * lG l m)
  WF : Bd 516 (lF l m * lF l m * mS k l m)
  WG : Bd 516 (lG l m * lG l m * mS k l m)
theorem line_XF {k l m : Rat} : lX k l m * lF l m = lY k l m * lG l m := by
  unfold lX lF lY lG
  rw [Rat.div_def, Rat.div_def, Rat.div_def, Rat.div_def]; grind
theorem div_ne0 {x M : Rat} (h : M ≠ 0) (e : x / M = 0) : x = 0 := by
  have := div_mul_self2 (x := x) h
  rw [e, Rat.zero_mul] at this; exact this.symm
theorem line_FG {l m : Rat} (h : mM l m ≠ 0) : ¬ (lF l m = 0 ∧ lG l m = 0) := fun ⟨a, b⟩ => h (by
  have e1 := div_ne0 h a
  have e2 := div_ne0 h b
  unfold mM; rw [e1, e2]; decide +kernel)
theorem mM_ne {l m : Rat} (h : ¬ (l = 0 ∧ m = 0)) : mM l m ≠ 0 := fun z => h (by
  unfold mM at z
  have a := sq_nnW l
  have b := sq_nnW m
  have a0 : l * l = 0 := by grind
  have b0 : m * m = 0 := by grind
  exact ⟨by rcases Rat.mul_eq_zero.mp a0 with y | y <;> exact y, by rcases Rat.mul_eq_zero.mp b0 with y | y <;> exact y⟩)
noncomputable def showO (a b c d e p q : Rat) : Option (List D) :=
  if ac1 a d e p q = 0 ∧ ac2 a d e p q = 0 then (if ac0 b c p q = 0 ∧ (0 < al0 b c p q ∨ al0 b c p q * al0 b c p q < al1 a d e p q * al1 a d e p q + al2 a d e p q * al2 a d e p q) then none else some [])
  else some (lineL (ac0 b c p q) (ac1 a d e p q) (ac2 a d e p q) (decide (0 < sA (ac0 b c p q) (ac1 a d e p q) (ac2 a d e p q) (al0 b c p q) (al1 a d e p q) (al2 a d e p q))) (decide (0 < sB (ac0 b c p q) (ac1 a d e p q) (ac2 a d e p q) (al0 b c p q) (al1 a d e p q) (al2 a d e p q))))
def optD : Option (List D) → D
  | none => .non
  | some ds => .tup ds
def optL : Option (List D) → D
  | none => .non
  | some ds => .lst ds
structure ShowB (a b c d e : Rat) (p q : Int) : Prop where
  a_ : Bd 130 a
  b_ : Bd 130 b
  c_ : Bd 130 c
  d_ : Bd 130 d
  e_ : Bd 130 e
  p_ : p.natAbs < 2 ^ 74
  q_ : q.natAbs < 2 ^ 74
  L : ¬ (ac1 a d e p q = 0 ∧ ac2 a d e p q = 0) → LineB (ac0 b c p q) (ac1 a d e p q) (ac2 a d e p q) (al0 b c p q) (al1 a d e p q) (al2 a d e p q)
  x_ : Bd 128 (al0 b c p q)
  y_ : Bd 128 (al1 a d e p q)
  z_ : Bd 128 (al2 a d e p q)
theorem Bd.ofInt {n : Int} {k : Nat} (hk : 0 < k) (h : n.natAbs < 2 ^ k) : Bd k ((n : Int) : Rat) := ⟨h, by show (1 : Nat) < 2 ^ k; exact Nat.one_lt_two_pow (by omega)⟩
theorem sp_showing {a b c d e : Rat} {p q : Int} {ρ : En} {Q : D → En → Prop} (B : ShowB a b c d e p q) : wp (callV 2 m_showing [five a b c d e, .tup [.int p, .int q]]) ρ Q ↔ Q (optL (showO a b c d e p q)) ρ := by
  have := B.a_; have := B.b_; have := B.c_; have := B.d_; have := B.e_; have := B.x_; have := B.y_; have := B.z_
  have bp : Bd 74 (p : Rat) := Bd.ofInt (by decide) B.p_
  have bq : Bd 74 (q : Rat) := Bd.ofInt (by decide) B.q_
  have bn : Bd 74 (((-q : Int)) : Rat) := Bd.ofInt (by decide) (by have := B.q_; omega)
  have i1 : Bd 262 (1 + d) := Bd.mono (inferInstance : Bd _ (1 + d)) (by decide)
  have i2 : Bd 262 (a - e) := Bd.mono (inferInstance : Bd _ (a - e)) (by decide)
  have i3 : Bd 262 (a + e) := Bd.mono (inferInstance : Bd _ (a + e)) (by decide)
  have i4 : Bd 262 (d - 1) := Bd.mono (inferInstance : Bd _ (d - 1)) (by decide)
  have SR := fun {ρ : En} {Q : D → En → Prop} => sp_ship_rows (ρ := ρ) (Q := Q) (a := a) (b := b) (c := c) (d := d) (e := e) (k1 := 130) (k2 := 130) (k3 := 130) (k4 := 130) (k5 := 130) (by decide)
  have i5 : Bd 262 b := Bd.mono B.b_ (by decide)
  have i6 : Bd 262 c := Bd.mono B.c_ (by decide)
  have M1 := fun {ρ : En} {Q : D → En → Prop} => sp_mixed_row (ρ := ρ) (Q := Q) (x := b) (y := 1 + d) (z := a - e) (x' := c) (y' := a + e) (z' := d - 1) (f := (q : Rat)) (g := (p : Rat)) (j := 262) (l := 74)
    (by decide) ⟨q, rfl⟩ ⟨p, rfl⟩
  have M2 := fun {ρ : En} {Q : D → En → Prop} => sp_mixed_row (ρ := ρ) (Q := Q) (x := b) (y := 1 + d) (z := a - e) (x' := c) (y' := a + e) (z' := d - 1) (f := (p : Rat)) (g := ((-q : Int) : Rat)) (j := 262) (l := 74)
    (by decide) ⟨p, rfl⟩ ⟨-q, rfl⟩
  have e0 : (q : Rat) * b + (p : Rat) * c = ac0 b c p q := rfl
  have e1 : (q : Rat) * (1 + d) + (p : Rat) * (a + e) = ac1 a d e p q := rfl
  have e2 : (q : Rat) * (a - e) + (p : Rat) * (d - 1) = ac2 a d e p q := rfl
  have cn : ((-q : Int) : Rat) = -(q : Rat) := Rat.intCast_neg q
  have e3 : (p : Rat) * b + ((-q : Int) : Rat) * c = al0 b c p q := by rw [cn]; unfold al0; grind
  have e4 : (p : Rat) * (1 + d) + ((-q : Int) : Rat) * (a + e) = al1 a d e p q := by rw [cn]; unfold al1; grind
  have e5 : (p : Rat) * (a - e) + ((-q : Int) : Rat) * (d - 1) = al2 a d e p q := by rw [cn]; unfold al2; grind
  have n1 : ((q : Int) : Rat).num = q := rfl
  have n2 : ((p : Int) : Rat).num = p := rfl
  have n3 : ((-q : Int) : Rat).num = -q := rfl
  rw [e0, e1, e2, n1, n2] at M1
  rw [e3, e4, e5, n2, n3] at M2
  have L := B.L
  apply wp_eq
  unfold m_showing m_showingB showO
  rw [wp_V]
  generalize ac0 b c p q = k at *
  generalize ac1 a d e p q = l at *
  generalize ac2 a d e p q = m at *
  have x_ := B.x_; have y_ := B.y_; have z_ := B.z_
  generalize al0 b c p q = x at *
  generalize al1 a d e p q = y at *
  generalize al2 a d e p q = z at *
  by_cases h : l = 0 ∧ m = 0
  · by_cases h1 : k = 0
    · by_cases h2 : 0 < x ∨ x * x < y * y + z * z
      · simp! [↓SR, ↓M1, ↓M2, ↓sp_is_nought_row, h, R_zero, ↓ow_eq, h1, ↓sp_rises_somewhere (show 128 ≤ 300 by decide), h2, optL]
      · simp! [↓SR, ↓M1, ↓M2, ↓sp_is_nought_row, h, R_zero, ↓ow_eq, h1, ↓sp_rises_somewhere (show 128 ≤ 300 by decide), h2, and_false, optL]
    · simp! [↓SR, ↓M1, ↓M2, ↓sp_is_nought_row, h, R_zero, ↓ow_eq, h1, false_and, optL]
  · have hM := mM_ne h
    have L := L h
    have := L.k_; have := L.l_; have := L.m_; have := L.X; have := L.F; have := L.Y; have := L.G; have := L.S; have := L.P; have := L.R1; have := L.R2
    have PO := fun {ρ : En} {Q : D → En → Prop} => sp_points_on (ρ := ρ) (Q := Q) (k := k) (l := l) (m := m) (j := 128) (by decide) hM
    rw [ptsP_eq] at PO
    rw [if_neg h]
    unfold lineL optL
    by_cases s1 : mS k l m < 0
    · rw [if_pos s1] at PO
      simp! [↓SR, ↓M1, ↓M2, ↓sp_is_nought_row, h, ↓PO, ↓wp_lc, ↓wp_lc1, ↓wp_lc0, wipeE, isOwn, List.all_cons, List.all_nil, ↓sp_in_order0, s1]
    · have s0 : 0 ≤ mS k l m := by grind
      have SA := fun {ρ : En} {Q : D → En → Prop} => sp_sign_of_rowB (ρ := ρ) (Q := Q) (a := lX k l m) (b := lF l m) (c := lY k l m) (d := -lG l m) (s := mS k l m) (x := x) (y := y) (z := z) (k := 260) (l := 260) (m := 128) (k1 := 390) (k2 := 261) s0 (by decide) (by decide)
      have SB := fun {ρ : En} {Q : D → En → Prop} => sp_sign_of_rowB (ρ := ρ) (Q := Q) (a := lX k l m) (b := -lF l m) (c := lY k l m) (d := lG l m) (s := mS k l m) (x := x) (y := y) (z := z) (k := 260) (l := 260) (m := 128) (k1 := 390) (k2 := 261) s0 (by decide) (by decide)
      have eA : sg (x + (y * lX k l m + z * lY k l m)) (y * lF l m + z * -lG l m) (mS k l m) = sA k l m x y z := rfl
      have eB : sg (x + (y * lX k l m + z * lY k l m)) (y * -lF l m + z * lG l m) (mS k l m) = sB k l m x y z := rfl
      rw [eA] at SA
      rw [eB] at SB
      have O1 := fun {ρ : En} {Q : D → En → Prop} => sp_in_order1 (ρ := ρ) (Q := Q) (X := lX k l m) (F := lF l m) (Y := lY k l m) (G := -lG l m) (S := mS k l m) (k := 260) s0 (by decide)
      have O2 := fun {ρ : En} {Q : D → En → Prop} => sp_in_order1 (ρ := ρ) (Q := Q) (X := lX k l m) (F := -lF l m) (Y := lY k l m) (G := lG l m) (S := mS k l m) (k := 260) s0 (by decide)
      rw [if_neg s1] at PO
      by_cases s2 : 0 < mS k l m
      · rw [if_pos s2] at PO
        have O3 := fun {ρ : En} {Q : D → En → Prop} => sp_in_order2 (ρ := ρ) (Q := Q) (X := lX k l m) (F := lF l m) (Y := lY k l m) (G := lG l m) (S := mS k l m) (k := 260) s2 (by decide)
        by_cases p1 : 0 < sA k l m x y z <;> by_cases p2 : 0 < sB k l m x y z <;>
          simp! [↓SR, ↓M1, ↓M2, ↓sp_is_nought_row, h, ↓PO, ↓wp_lc, ↓wp_lc1, ↓wp_lc0, wipeE, isOwn, List.all_cons, List.all_nil, ↓wp_meth, ↓wp_methP ms_sign, ↓SA, ↓SB, p1, p2, ↓sp_in_order0, ↓O1, ↓O2, ↓O3, s1, s2, ordL]
      · rw [if_neg s2] at PO
        by_cases p1 : 0 < sA k l m x y z <;>
          simp! [↓SR, ↓M1, ↓M2, ↓sp_is_nought_row, h, ↓PO, ↓wp_lc, ↓wp_lc1, ↓wp_lc0, wipeE, isOwn, List.all_cons, List.all_nil, ↓wp_meth, ↓wp_methP ms_sign, ↓SA, p1, ↓sp_in_order0, ↓O1, s1, s2]
theorem sp_headings_of {a b c d e : Rat} {p q : Int} {ρ : En} {Q : D → En → Prop} (B : ShowB a b c d e p q) (g : Int.gcd p q = 1) : wp (callV 2 m_headings_of [five a b c d e, .tup [.int p, .int q]]) ρ Q ↔ Q (optD (showO a b c d e p q)) ρ := by
  have S := fun {ρ : En} {Q : D → En → Prop} => sp_showing (ρ := ρ) (Q := Q) B
  apply wp_eq
  unfold m_headings_of m_headings_ofB
  rw [wp_V]
  generalize showO a b c d e p q = o at *
  cases o with
  | none => simp! [↓sp_check_five, ↓sp_check_course g, ↓S, optL, optD]
  | some ds => simp! [↓sp_check_five, ↓sp_check_course g, ↓S, optL, optD]
theorem nx_add {x y : Int} {k : Nat} (hx : x.natAbs < 2 ^ k) (hy : y.natAbs < 2 ^ k) : (x + y).natAbs < 2 ^ (k + 1) := by rw [Nat.pow_succ]; omega
theorem nx_sub {x y : Int} {k : Nat} (hx : x.natAbs < 2 ^ k) (hy : y.natAbs < 2 ^ k) : (x - y).natAbs < 2 ^ (k + 1) := by rw [Nat.pow_succ]; omega
theorem nx_mono {x : Int} {k l : Nat} (hx : x.natAbs < 2 ^ k) (h : k ≤ l) : x.natAbs < 2 ^ l := Nat.lt_of_lt_of_le hx (Nat.pow_le_pow_right (by decide) h)
def Nb (x : Rat) (N : Int) (j : Nat) : Prop := ∃ n : Int, n.natAbs < 2 ^ j ∧ x * (N : Rat) = (n : Rat)
section
variable {x y : Rat} {N M : Int} {i j k b : Nat}
theorem Nb.mono (h : Nb x N j) (l : j ≤ k) : Nb x N k := by
  obtain ⟨n, h1, h2⟩ := h
  exact ⟨n, nx_mono h1 l, h2⟩
theorem Nb.add (h : Nb x N j) (h' : Nb y N j) : Nb (x + y) N (j + 1) := by
  obtain ⟨n, h1, h2⟩ := h
  obtain ⟨m, h3, h4⟩ := h'
  exact ⟨n + m, nx_add h1 h3, by rw [Rat.intCast_add, ← h2, ← h4]; grind⟩
theorem Nb.sub (h : Nb x N j) (h' : Nb y N j) : Nb (x - y) N (j + 1) := by
  obtain ⟨n, h1, h2⟩ := h
  obtain ⟨m, h3, h4⟩ := h'
  exact ⟨n - m, nx_sub h1 h3, by rw [Rat.intCast_sub, ← h2, ← h4]; grind⟩
theorem Nb.neg (h : Nb x N j) : Nb (-x) N j := by
  obtain ⟨n, h1, h2⟩ := h
  exact ⟨-n, by rw [Int.natAbs_neg]; exact h1, by rw [Rat.intCast_neg, ← h2]; grind⟩
theorem Nb.mul (h : Nb x N i) (h' : Nb y M j) : Nb (x * y) (N * M) (i + j) := by
  obtain ⟨n, h1, h2⟩ := h
  obtain ⟨m, h3, h4⟩ := h'
  exact ⟨n * m, mul_ab h1 h3, by rw [Rat.intCast_mul, Rat.intCast_mul, ← h2, ← h4]; grind⟩
theorem Nb.zero : Nb 0 N j := ⟨0, Nat.two_pow_pos j, Rat.zero_mul _⟩
theorem Nb.self (h : N.natAbs < 2 ^ j) : Nb 1 N j := ⟨N, h, Rat.one_mul _⟩
theorem Nb.scale (h : Nb x N j) (hm : M.natAbs < 2 ^ i) : Nb x (N * M) (j + i) := by
  have := h.mul (Nb.self hm)
  rwa [Rat.mul_one] at this
theorem Nb.scaleL (h : Nb x N j) (hm : M.natAbs < 2 ^ i) : Nb x (M * N) (i + j) := by
  have := (Nb.self hm).mul h
  rwa [Rat.one_mul] at this
theorem Nb.imul {p : Int} (h : Nb x N j) (hp : p.natAbs < 2 ^ i) : Nb ((p : Rat) * x) N (i + j) := by
  obtain ⟨n, h1, h2⟩ := h
  exact ⟨p * n, mul_ab hp h1, by rw [Rat.intCast_mul, ← h2]; grind⟩
theorem int_ne {n : Int} (h : n ≠ 0) : ((n : Int) : Rat) ≠ 0 := fun z => by
  rw [show (0 : Rat) = ((0 : Int) : Rat) from rfl, Rat.intCast_inj] at z; exact h z
theorem dvo {x : Rat} {n m : Int} (hm : m ≠ 0) (h : x * m = n) : x = Rat.divInt n m := by
  rw [Rat.divInt_eq_div, ← h, Rat.div_def, Rat.mul_assoc, Rat.mul_inv_cancel _ (int_ne hm), Rat.mul_one]
theorem Nb.bd (h : Nb x N j) (h0 : N ≠ 0) (hN : N.natAbs < 2 ^ b) (hj : j ≤ b) : Bd b x := by
  obtain ⟨n, h1, h2⟩ := h
  rw [dvo h0 h2]
  exact Bd.divInt h0 (nx_mono h1 hj) hN
theorem Nb.div (h : Nb x N i) (h' : Nb y N j) (h0 : N ≠ 0) (hy : y ≠ 0) (hi : i ≤ b) (hj : j ≤ b) : Bd b (x / y) := by
  obtain ⟨n, h1, h2⟩ := h
  obtain ⟨m, h3, h4⟩ := h'
  have m0 : m ≠ 0 := fun z => by
    rw [z] at h4
    rcases Rat.mul_eq_zero.mp h4 with w | w
    · exact hy w
    · exact int_ne h0 w
  have e : x / y * (m : Rat) = (n : Rat) := by
    have := div_mul_self2 (x := x) hy
    rw [← h4, ← h2, ← Rat.mul_assoc, this]
  rw [dvo m0 e]
  exact Bd.divInt m0 (nx_mono h1 hi) (nx_mono h3 hj)
theorem Nb.ofBd (h : Bd k x) : Nb x x.den k := ⟨x.num, h.n, num_denA x⟩
theorem den_b (h : Bd k x) : ((x.den : Int)).natAbs < 2 ^ k := h.d'
theorem den_n (x : Rat) : (x.den : Int) ≠ 0 := by have := x.den_pos; omega
end
theorem LineB.of {k l m x y z : Rat} {N : Int} (h0 : N ≠ 0) (hN : N.natAbs < 2 ^ 50) (hk : Nb k N 128) (hl : Nb l N 128) (hm : Nb m N 128) (hx : Nb x N 128) (hy : Nb y N 128) (hz : Nb z N 128) (hM : mM l m ≠ 0) : LineB k l m x y z := by
  have nn : N * N ≠ 0 := fun w => by rcases Int.mul_eq_zero.mp w with z | z <;> exact h0 z
  have hNN : (N * N).natAbs < 2 ^ 100 := mul_ab hN hN
  have bM : Nb (mM l m) (N * N) 257 := (hl.mul hl).add (hm.mul hm)
  have bS : Nb (mS k l m) (N * N) 258 := bM.sub ((hk.mul hk).mono (by decide))
  have blk : Nb (l * k) (N * N) 256 := hl.mul hk
  have bmk : Nb (m * k) (N * N) 256 := hm.mul hk
  have bX : Bd 260 (lX k l m) := by
    have := blk.div bM nn hM (b := 260) (by decide) (by decide)
    unfold lX; infer_instance
  have bY : Bd 260 (lY k l m) := by
    have := bmk.div bM nn hM (b := 260) (by decide) (by decide)
    unfold lY; infer_instance
  have bF : Bd 260 (lF l m) := (hm.scale hN).div bM nn hM (b := 260) (by decide) (by decide)
  have bG : Bd 260 (lG l m) := (hl.scale hN).div bM nn hM (b := 260) (by decide) (by decide)
  obtain ⟨K, _, eM⟩ := bM
  obtain ⟨k', k1, k2⟩ := hk
  obtain ⟨l', l1, l2⟩ := hl
  obtain ⟨m', m1, m2⟩ := hm
  obtain ⟨y', y1, y2⟩ := hy
  obtain ⟨z', z1, z2⟩ := hz
  have K0 : K ≠ 0 := fun w => by
    rw [w] at eM
    rcases Rat.mul_eq_zero.mp eM with z | z
    · exact hM z
    · exact int_ne nn z
  have hK : K.natAbs < 2 ^ 257 := by assumption
  have eN : ((N * N : Int) : Rat) = (N : Rat) * N := Rat.intCast_mul _ _
  have dm : ∀ t : Rat, t / mM l m * (K : Rat) = t * ((N : Rat) * N) := fun t => by
    rw [← eM, eN, ← Rat.mul_assoc, div_mul_self2 hM]
  have nX : Nb (lX k l m) K 256 := ⟨-(l' * k'), by rw [Int.natAbs_neg]; exact mul_ab l1 k1, by
    have := dm (l * k)
    rw [Rat.intCast_neg, Rat.intCast_mul, ← l2, ← k2]
    unfold lX
    grind⟩
  have nY : Nb (lY k l m) K 256 := ⟨-(m' * k'), by rw [Int.natAbs_neg]; exact mul_ab m1 k1, by
    have := dm (m * k)
    rw [Rat.intCast_neg, Rat.intCast_mul, ← m2, ← k2]
    unfold lY
    grind⟩
  have nP : Nb (x + (y * lX k l m + z * lY k l m)) (N * K) 386 := (hx.scale hK).add (((show Nb y N 128 from ⟨y', y1, y2⟩).mul nX).add ((show Nb z N 128 from ⟨z', z1, z2⟩).mul nY))
  have f1 := dm m
  have f2 := dm l
  have nR : Nb (y * lF l m + z * -lG l m) K 257 := ⟨y' * m' - z' * l', nx_sub (mul_ab y1 m1) (mul_ab z1 l1), by
    rw [Rat.intCast_sub, Rat.intCast_mul, Rat.intCast_mul, ← y2, ← z2, ← l2, ← m2]
    unfold lF lG
    grind⟩
  have nR2 : Nb (y * -lF l m + z * lG l m) K 257 := by
    have := nR.neg
    rwa [show -(y * lF l m + z * -lG l m) = y * -lF l m + z * lG l m by grind] at this
  obtain ⟨S', hS, eS⟩ := bS
  have hKK : (K * K).natAbs < 2 ^ 516 := nx_mono (mul_ab hK hK) (by decide)
  have KK0 : K * K ≠ 0 := fun w => by rcases Int.mul_eq_zero.mp w with z | z <;> exact K0 z
  have nWF : Nb (lF l m * lF l m * mS k l m) (K * K) 514 := ⟨m' * m' * S', mul_ab (mul_ab m1 m1) hS, by
    rw [Rat.intCast_mul, Rat.intCast_mul, Rat.intCast_mul, ← m2, ← eS, eN]
    unfold lF
    have : m / mM l m * (m / mM l m) * mS k l m * ((K : Rat) * K) = (m / mM l m * (K : Rat)) * (m / mM l m * (K : Rat)) * mS k l m := by grind
    rw [this, f1]; grind⟩
  have nWG : Nb (lG l m * lG l m * mS k l m) (K * K) 514 := ⟨l' * l' * S', mul_ab (mul_ab l1 l1) hS, by
    rw [Rat.intCast_mul, Rat.intCast_mul, Rat.intCast_mul, ← l2, ← eS, eN]
    unfold lG
    have : l / mM l m * (l / mM l m) * mS k l m * ((K : Rat) * K) = (l / mM l m * (K : Rat)) * (l / mM l m * (K : Rat)) * mS k l m := by grind
    rw [this, f2]; grind⟩
  exact ⟨Nb.bd ⟨k', k1, k2⟩ h0 (nx_mono hN (by decide)) (by decide), Nb.bd ⟨l', l1, l2⟩ h0 (nx_mono hN (by decide)) (by decide), Nb.bd ⟨m', m1, m2⟩ h0 (nx_mono hN (by decide)) (by decide),
    hx.bd h0 (nx_mono hN (by decide)) (by decide), Nb.bd ⟨y', y1, y2⟩ h0 (nx_mono hN (by decide)) (by decide), Nb.bd ⟨z', z1, z2⟩ h0 (nx_mono hN (by decide)) (by decide), bX, bF, bY, bG,
    Nb.bd ⟨S', hS, eS⟩ nn (nx_mono hNN (by decide)) (by decide), nP.bd (fun w => by rcases Int.mul_eq_zero.mp w with z | z; exact h0 z; exact K0 z) (nx_mono (mul_ab hN hK) (by decide)) (by decide),
    nR.bd K0 (nx_mono hK (by decide)) (by decide), nR2.bd K0 (nx_mono hK (by decide)) (by decide), nWF.bd KK0 hKK (by decide), nWG.bd KK0 hKK (by decide)⟩
def FiveN (a b c d e : Rat) : Prop := ∃ N : Int, N ≠ 0 ∧ N.natAbs < 2 ^ 50 ∧ Nb a N 52 ∧ Nb b N 52 ∧ Nb c N 52 ∧ Nb d N 52 ∧ Nb e N 52
theorem FiveN.bd {a b c d e : Rat} (h : FiveN a b c d e) : Bd 52 a ∧ Bd 52 b ∧ Bd 52 c ∧ Bd 52 d ∧ Bd 52 e := by
  obtain ⟨N, h0, hN, ha, hb, hc, hd, he⟩ := h
  have := nx_mono hN (show 50 ≤ 52 by decide)
  exact ⟨ha.bd h0 this (by decide), hb.bd h0 this (by decide), hc.bd h0 this (by decide), hd.bd h0 this (by decide), he.bd h0 this (by decide)⟩
theorem ShowB.of {a b c d e : Rat} {p q : Int} (h : FiveN a b c d e) (hp : p.natAbs < 2 ^ 74) (hq : q.natAbs < 2 ^ 74) : ShowB a b c d e p q := by
  obtain ⟨ba, bb, bc, bd, be⟩ := h.bd
  obtain ⟨N, h0, hN, ha, hb, hc, hd, he⟩ := h
  have one : Nb 1 N 52 := Nb.self (nx_mono hN (by decide))
  have n0 : Nb (ac0 b c p q) N 128 := ((hb.imul hq).add (hc.imul hp)).mono (by decide)
  have n1 : Nb (ac1 a d e p q) N 128 := ((one.add hd).imul hq).add ((ha.add he).imul hp)
  have n2 : Nb (ac2 a d e p q) N 128 := ((ha.sub he).imul hq).add ((hd.sub one).imul hp)
  have m0 : Nb (al0 b c p q) N 128 := ((hb.imul hp).sub (hc.imul hq)).mono (by decide)
  have m1 : Nb (al1 a d e p q) N 128 := ((one.add hd).imul hp).sub ((ha.add he).imul hq)
  have m2 : Nb (al2 a d e p q) N 128 := ((ha.sub he).imul hp).sub ((hd.sub one).imul hq)
  have hN' := nx_mono hN (show 50 ≤ 128 by decide)
  exact ⟨ba.mono (by decide), bb.mono (by decide), bc.mono (by decide), bd.mono (by decide), be.mono (by decide), hp, hq, fun hz => LineB.of h0 hN n0 n1 n2 m0 m1 m2 (mM_ne hz), m0.bd h0 hN' (by decide), m1.bd h0 hN' (by decide), m2.bd h0 hN' (by decide)⟩
def Uq (c s : Rat) : Prop := ∃ M : Int, M ≠ 0 ∧ M.natAbs < 2 ^ 18 ∧ Nb c M 18 ∧ Nb s M 18
theorem Uq.half {u : Rat} (h : Bd 7 u) : Uq ((1 - u * u) / (1 + u * u)) (2 * u / (1 + u * u)) := by
  have a1 := h.n
  have a2 := h.d
  have p := u.den_pos
  have b1 : u.num.natAbs * u.num.natAbs < 2 ^ (7 + 7) := mul_lt2 a1 a1
  have b2 : u.den * u.den < 2 ^ (7 + 7) := mul_lt2 a2 a2
  have b3 : u.num.natAbs * u.den < 2 ^ (7 + 7) := mul_lt2 a1 a2
  have n1 : (u.num * u.num).natAbs = u.num.natAbs * u.num.natAbs := Int.natAbs_mul ..
  have n2 : 0 ≤ u.num * u.num := by
    rcases Int.le_total 0 u.num with z | z
    · exact Int.mul_nonneg z z
    · exact Int.mul_nonneg_of_nonpos_of_nonpos z z
  have n3 : ((u.den * u.den : Nat) : Int) = (u.den : Int) * u.den := Int.natCast_mul ..
  have n4 : 0 < u.den * u.den := Nat.mul_pos p p
  have n5 : (u.num * u.den).natAbs = u.num.natAbs * u.den := by rw [Int.natAbs_mul, Int.natAbs_natCast]
  have d0 : (u.den : Int) * u.den + u.num * u.num ≠ 0 := by omega
  obtain ⟨h1, h2⟩ := half_divInt u
  have back : ∀ n : Int, Rat.divInt n ((u.den : Int) * u.den + u.num * u.num) * (((u.den : Int) * u.den + u.num * u.num : Int) : Rat) = (n : Rat) := fun n => by
    rw [Rat.divInt_eq_div, div_mul_self2 (int_ne d0)]
  refine ⟨(u.den : Int) * u.den + u.num * u.num, d0, by omega, ⟨_, ?_, by rw [h1]; exact back _⟩, ⟨_, ?_, by rw [h2]; exact back _⟩⟩
  · omega
  · omega
theorem Uq.bd {c s : Rat} (h : Uq c s) : Bd 18 c ∧ Bd 18 s := by
  obtain ⟨M, h0, hM, h1, h2⟩ := h
  exact ⟨h1.bd h0 hM (by decide), h2.bd h0 hM (by decide)⟩
theorem sp_law_some_headingU {i n : Nat} {L : List D} {ρ : En} {Q : D → En → Prop} (e : ρ[i]? = some (.own L)) (hL : Lode (n + 6) L)
    (hQ : ∀ (c s : Rat) L', Uq c s → c * c + s * s = 1 → Lode n L' → Q (.tup [Fr c, Fr s]) (ρ.set i (.own L'))) : wp (callO 1 m_law_some_heading i []) ρ Q := by
  unfold m_law_some_heading m_law_some_headingB
  rw [wp_O, e]
  simp! []
  refine sp_law_half rfl hL (fun L1 hL1 => ?_) fun q L1 hq hL1 => ?_
  · simp! [↓sp_law_heading_non]
    exact hQ _ _ _ ⟨1, by decide, by decide, ⟨-1, by decide, by decide +kernel⟩, ⟨0, by decide, by decide +kernel⟩⟩ (by grind) hL1
  · simp! [↓sp_law_heading (show 7 ≤ 500 by decide)]
    exact hQ _ _ _ (Uq.half hq) (unit_half q) hL1
theorem FiveN.ofBd {a b c d e : Rat} (ha : Bd 10 a) (hb : Bd 10 b) (hc : Bd 10 c) (hd : Bd 10 d) (he : Bd 10 e) : FiveN a b c d e := by
  have na := den_b ha; have nb := den_b hb; have nc := den_b hc; have nd := den_b hd; have ne := den_b he
  have z : ∀ {x y : Int}, x ≠ 0 → y ≠ 0 → x * y ≠ 0 := fun {x y} h1 h2 w => by rcases Int.mul_eq_zero.mp w with z | z; exact h1 z; exact h2 z
  have q2 := mul_ab nd ne
  have q3 := mul_ab nc q2
  have q4 := mul_ab nb q3
  refine ⟨(a.den : Int) * ((b.den : Int) * ((c.den : Int) * ((d.den : Int) * (e.den : Int)))), z (den_n a) (z (den_n b) (z (den_n c) (z (den_n d) (den_n e)))), mul_ab na q4, ?_, ?_, ?_, ?_, ?_⟩
  · exact ((Nb.ofBd ha).scale q4).mono (by decide)
  · exact (((Nb.ofBd hb).scale q3).scaleL na).mono (by decide)
  · exact ((((Nb.ofBd hc).scale q2).scaleL nb).scaleL na).mono (by decide)
  · exact (((((Nb.ofBd hd).scale ne).scaleL nc).scaleL nb).scaleL na).mono (by decide)
  · exact (((((Nb.ofBd he).scaleL nd).scaleL nc).scaleL nb).scaleL na).mono (by decide)
theorem sp_law_dead_fiveU {i n : Nat} {L : List D} {x y : Rat} {ρ : En} {Q : D → En → Prop} (hu : Uq x y) (e : ρ[i]? = some (.own L)) (hL : Lode (n + 25) L)
    (hQ : ∀ (a b c d e : Rat) L', FiveN a b c d e → Lode n L' → ahd a b d e x y = 0 → asd a c d e x y = 0 → Q (five a b c d e) (ρ.set i (.own L'))) : wp (callO 2 m_law_dead_five i [.tup [Fr x, Fr y]]) ρ Q := by
  obtain ⟨hx, hy⟩ := hu.bd
  unfold m_law_dead_five m_law_dead_fiveB
  rw [wp_O, e]
  simp! []
  refine sp_law_any_five (k := 0) rfl hL (by decide) (by decide) (by decide) fun a b c d e L1 ba bb bc bd be hL1 => ?_
  simp! [R_zero, ↓sp_law_ship, ↓sp_law_back]
  refine hQ a (-ahd a 0 d e x y) (-asd a 0 d e x y) d e L1 ?_ hL1 ?_ ?_
  · obtain ⟨M, h0, hM, nx, ny⟩ := hu
    have na := den_b ba; have nd := den_b bd; have ne := den_b be
    have z : ∀ {x y : Int}, x ≠ 0 → y ≠ 0 → x * y ≠ 0 := fun {x y} h1 h2 w => by rcases Int.mul_eq_zero.mp w with z | z; exact h1 z; exact h2 z
    have q2 := mul_ab nd ne
    have q3 := mul_ab na q2
    have pa : Nb a ((a.den : Int) * ((d.den : Int) * (e.den : Int))) 9 := (Nb.ofBd ba).scale q2
    have pd : Nb d ((a.den : Int) * ((d.den : Int) * (e.den : Int))) 9 := ((Nb.ofBd bd).scale ne).scaleL na
    have pe : Nb e ((a.den : Int) * ((d.den : Int) * (e.den : Int))) 9 := ((Nb.ofBd be).scaleL nd).scaleL na
    have n0 : (a.den : Int) * ((d.den : Int) * (e.den : Int)) ≠ 0 := z (den_n a) (z (den_n d) (den_n e))
    generalize (a.den : Int) * ((d.den : Int) * (e.den : Int)) = N at *
    have one : Nb 1 N 9 := Nb.self q3
    have e1 : -ahd a 0 d e x y = -((1 + d) * x + (a - e) * y) := by unfold ahd; grind
    have e2 : -asd a 0 d e x y = -((a + e) * x + (d - 1) * y) := by unfold asd; grind
    rw [e1, e2]
    exact ⟨N * M, z n0 h0, nx_mono (mul_ab q3 hM) (by decide), (pa.scale hM).mono (by decide), ((((one.add pd).mul nx).add ((pa.sub pe).mul ny)).neg).mono (by decide), ((((pa.add pe).mul nx).add ((pd.sub one).mul ny)).neg).mono (by decide), (pd.scale hM).mono (by decide), (pe.scale hM).mono (by decide)⟩
  · unfold ahd; grind
  · unfold asd; grind
abbrev flD (a x y : Rat) : Rat := x * x - y * y + a * (y * x + x * y)
abbrev flE (a x y : Rat) : Rat := y * x + x * y - a * (x * x - y * y)
theorem sp_law_flat_fiveU {i n : Nat} {L : List D} {ρ : En} {Q : D → En → Prop} (e : ρ[i]? = some (.own L)) (hL : Lode (n + 20) L)
    (hQ : ∀ (a f x y : Rat) L', Bd 4 a → Bd 4 f → Uq x y → x * x + y * y = 1 → Lode n L' → Q (five a (f * x) (f * y) (flD a x y) (flE a x y)) (ρ.set i (.own L'))) : wp (callO 1 m_law_flat_five i []) ρ Q := by
  unfold m_law_flat_five m_law_flat_fiveB
  rw [wp_O, e]
  simp! []
  refine sp_law_any_part (n := n + 16) (k := 3) rfl hL (by decide) (by decide) (by decide) (by decide) fun a L1 ba hL1 => ?_
  simp! []
  refine sp_law_some_headingU (n := n + 10) rfl hL1 fun x y L2 hu u hL2 => ?_
  obtain ⟨bx, by'⟩ := hu.bd
  simp! []
  refine sp_law_some (n := n + 9) rfl hL2 (by simp) (by simp) fun d L3 hd hL3 => ?_
  simp! []
  obtain ⟨v, rfl, v0, v1⟩ : ∃ v : Int, d = .int v ∧ 1 ≤ v ∧ v < 2 ^ 4 := by
    simp only [List.mem_cons, List.not_mem_nil, or_false] at hd
    rcases hd with rfl | rfl | rfl <;> exact ⟨_, rfl, by decide, by decide⟩
  refine sp_law_any_part (n := n + 5) (k := 4) rfl hL3 v0 v1 (by decide) (by decide) fun f L4 bf hL4 => ?_
  simp! [↓sp_law_turn]
  refine sp_law_deal (n := n + 4) rfl hL4 (by decide) (by decide) fun w L5 w0 w1 hL5 => ?_
  simp! [↓ow_eq]
  by_cases c0 : w = 0
  · simp! [c0, R_zero, R_two]
    refine sp_law_some (n := n + 3) rfl hL5 (by simp) (by simp) fun d L6 hd hL6 => ?_
    obtain ⟨f, rfl, bf⟩ : ∃ f : Rat, d = Fr f ∧ Bd 4 f := by
      simp only [List.mem_cons, List.not_mem_nil, or_false] at hd
      rcases hd with rfl | rfl | rfl
      · exact ⟨2, rfl, Bd.mono (inferInstance : Bd _ (2 : Rat)) (by decide)⟩
      · exact ⟨-2, rfl, Bd.mono (inferInstance : Bd _ (-2 : Rat)) (by decide)⟩
      · exact ⟨0, rfl, Bd.mono (inferInstance : Bd _ (0 : Rat)) (by decide)⟩
    simp! [↓sp_law_mul, ↓sp_law_add, ↓sp_law_gap]
    exact hQ 0 f x y L6 (Bd.mono (inferInstance : Bd _ (0 : Rat)) (by decide)) bf hu u (hL6.mono (by omega))
  · simp! [c0, ↓sp_law_mul, ↓sp_law_add, ↓sp_law_gap]
    exact hQ a f x y L5 (ba.mono (by decide)) bf hu u (hL5.mono (by omega))
theorem flat_N {a x y : Rat} (ba : Bd 4 a) (hu : Uq x y) : ∃ N : Int, N ≠ 0 ∧ N.natAbs < 2 ^ 40 ∧ Nb a N 40 ∧ Nb (flD a x y) N 42 ∧ Nb (flE a x y) N 42 ∧ Nb x N 40 ∧ Nb y N 40 := by
  obtain ⟨M, h0, hM, nx, ny⟩ := hu
  have z : ∀ {x y : Int}, x ≠ 0 → y ≠ 0 → x * y ≠ 0 := fun {x y} h1 h2 w => by rcases Int.mul_eq_zero.mp w with z | z; exact h1 z; exact h2 z
  have na := den_b ba
  have mm := mul_ab hM hM
  have q1 : Nb (x * x - y * y) (M * M) 37 := (nx.mul nx).sub (ny.mul ny)
  have q2 : Nb (y * x + x * y) (M * M) 37 := (ny.mul nx).add (nx.mul ny)
  refine ⟨(a.den : Int) * (M * M), z (den_n a) (z h0 h0), mul_ab na mm, (Nb.ofBd ba).scale mm, ?_, ?_, ?_, ?_⟩
  · exact (q1.scaleL na).add ((Nb.ofBd ba).mul q2)
  · exact (q2.scaleL na).sub ((Nb.ofBd ba).mul q1)
  · exact (nx.scale hM).scaleL na
  · exact (ny.scale hM).scaleL na
theorem FiveN.flat {a f x y : Rat} (ba : Bd 4 a) (bf : Bd 4 f) (hu : Uq x y) : FiveN a (f * x) (f * y) (flD a x y) (flE a x y) := by
  have z : ∀ {x y : Int}, x ≠ 0 → y ≠ 0 → x * y ≠ 0 := fun {x y} h1 h2 w => by rcases Int.mul_eq_zero.mp w with z | z; exact h1 z; exact h2 z
  obtain ⟨N, h0, hN, na, nd, ne, nx, ny⟩ := flat_N ba hu
  have nf := den_b bf
  exact ⟨(f.den : Int) * N, z (den_n f) h0, nx_mono (mul_ab nf hN) (by decide), (na.scaleL nf).mono (by decide), ((Nb.ofBd bf).mul nx).mono (by decide), ((Nb.ofBd bf).mul ny).mono (by decide), (nd.scaleL nf).mono (by decide), (ne.scaleL nf).mono (by decide)⟩
theorem FiveN.mixed {a b c x y : Rat} (ba : Bd 4 a) (bb : Bd 4 b) (bc : Bd 4 c) (hu : Uq x y) : FiveN a b c (flD a x y) (flE a x y) := by
  have z : ∀ {x y : Int}, x ≠ 0 → y ≠ 0 → x * y ≠ 0 := fun {x y} h1 h2 w => by rcases Int.mul_eq_zero.mp w with z | z; exact h1 z; exact h2 z
  obtain ⟨N, h0, hN, na, nd, ne, nx, ny⟩ := flat_N ba hu
  have nb := den_b bb; have nc := den_b bc
  have q := mul_ab nb nc
  exact ⟨((b.den : Int) * (c.den : Int)) * N, z (z (den_n b) (den_n c)) h0, nx_mono (mul_ab q hN) (by decide), (na.scaleL q).mono (by decide), (((Nb.ofBd bb).scale nc).scale hN).mono (by decide), (((Nb.ofBd bc).scaleL nb).scale hN).mono (by decide), (nd.scaleL q).mono (by decide), (ne.scaleL q).mono (by decide)⟩
theorem flat_zero {a f x y : Rat} (u : x * x + y * y = 1) : wnm a (flD a x y) (flE a x y) = 0 ∧ tn1 a (f * x) (f * y) (flD a x y) (flE a x y) = 0 ∧ tn2 a (f * x) (f * y) (flD a x y) (flE a x y) = 0 := by
  refine ⟨?_, ?_, ?_⟩
  · have : wnm a (flD a x y) (flE a x y) = (1 + a * a) * (1 - (x * x + y * y) * (x * x + y * y)) := by unfold wnm flD flE; grind
    rw [this, u]; grind
  · have : tn1 a (f * x) (f * y) (flD a x y) (flE a x y) = f * (x + a * y) * (1 - (x * x + y * y)) := by unfold tn1 flD flE; grind
    rw [this, u]; grind
  · have : tn2 a (f * x) (f * y) (flD a x y) (flE a x y) = f * (y - a * x) * (1 - (x * x + y * y)) := by unfold tn2 flD flE; grind
    rw [this, u]; grind
theorem sp_law_kind_fiveU {i n : Nat} {L : List D} {ρ : En} {Q : D → En → Prop} (e : ρ[i]? = some (.own L)) (hL : Lode (n + 60) L)
    (hQ : ∀ a b c d e L', FiveN a b c d e → Lode n L' → Q (five a b c d e) (ρ.set i (.own L'))) : wp (callO 1 m_law_kind_five i []) ρ Q := by
  unfold m_law_kind_five m_law_kind_fiveB
  rw [wp_O, e]
  simp! []
  refine sp_law_deal (n := n + 50) rfl (hL.mono (by omega)) (by decide) (by decide) fun w L1 w0 w1 hL1 => ?_
  simp! [↓ow_eq]
  by_cases c0 : w = 0
  · simp! [c0]
    refine sp_law_flat_fiveU (n := n) rfl (hL1.mono (by omega)) fun a f x y L2 ba bf hu u hL2 => ?_
    simp! []
    exact hQ _ _ _ _ _ _ (FiveN.flat ba bf hu) hL2
  by_cases c1 : w = 1
  · simp! [c0, c1, Int.reduceEq]
    refine sp_law_some_headingU (n := n + 30) rfl (hL1.mono (by omega)) fun x y L2 hu u hL2 => ?_
    simp! []
    refine sp_law_dead_fiveU (n := n) hu rfl (hL2.mono (by omega)) fun a b c d e L3 hf hL3 _ _ => ?_
    simp! []
    exact hQ _ _ _ _ _ _ hf hL3
  simp! [c0, c1]
  refine sp_law_some (n := n + 49) rfl hL1 (by simp) (by simp) fun d L2 hd hL2 => ?_
  simp! []
  obtain ⟨v, rfl, v0, v1⟩ : ∃ v : Int, d = .int v ∧ 1 ≤ v ∧ v < 2 ^ (1 + 3) := by
    simp only [List.mem_cons, List.not_mem_nil, or_false] at hd
    rcases hd with rfl | rfl | rfl <;> exact ⟨_, rfl, by decide, by decide⟩
  refine sp_law_any_five (n := n + 24) (k := 1) rfl hL2 v0 v1 (by decide) fun a b c d e L3 ba bb bc bd be hL3 => ?_
  simp! [↓ow_eq]
  by_cases c2 : w = 2
  · simp! [c2]
    exact hQ _ _ _ _ _ _ (FiveN.ofBd ba.up bb.up bc.up bd.up be.up) (hL3.mono (by omega))
  by_cases c3 : w = 3
  · simp! [c2, c3, Int.reduceEq]
    refine sp_law_flat_fiveU (n := n) rfl (hL3.mono (by omega)) fun a' f' x y L4 ba' bf' hu u hL4 => ?_
    simp! []
    exact hQ _ _ _ _ _ _ (FiveN.mixed ba' bb bc hu) hL4
  by_cases c4 : w = 4
  · simp! [c2, c3, c4, Int.reduceEq, R_sixth, ↓wp_lc, ↓wp_lc1, ↓wp_lc0, wipeE, isOwn, List.all_cons, List.all_nil, ↓sp_law_mul]
    exact hQ _ _ _ _ _ _ (FiveN.ofBd (Bd.mono inferInstance (by decide)) (Bd.mono inferInstance (by decide)) (Bd.mono inferInstance (by decide)) (Bd.mono inferInstance (by decide)) (Bd.mono inferInstance (by decide))) (hL3.mono (by omega))
  simp! [c2, c3, c4]
  refine sp_law_over (n := n) (k := 2) rfl (hL3.mono (by omega)) (by decide) (by decide) (by decide) (by decide) fun g L4 bg pg hL4 => ?_
  simp! [R_two, ↓sp_law_add, ↓ow_eq]
  by_cases c5 : w = 5
  · simp! [c5, R_fifth, R_zero, ↓sp_law_mul]
    exact hQ _ _ _ _ _ _ (FiveN.ofBd (Bd.mono inferInstance (by decide)) (Bd.mono inferInstance (by decide)) (Bd.mono (inferInstance : Bd _ (0 : Rat)) (by decide)) (Bd.mono inferInstance (by decide)) (Bd.mono inferInstance (by decide))) hL4
  · simp! [c5, R_fifth, R_ninth, ↓sp_law_mul]
    exact hQ _ _ _ _ _ _ (FiveN.ofBd (Bd.mono inferInstance (by decide)) (Bd.mono inferInstance (by decide)) bc.up (Bd.mono inferInstance (by decide)) (Bd.mono inferInstance (by decide))) hL4
theorem wayR_tight {x y : Rat} {N : Int} {k : Nat} (h : ¬ (x = 0 ∧ y = 0)) (h0 : N ≠ 0) (hx : Nb x N k) (hy : Nb y N k) : ∃ p q : Int, wayR x y = .tup [.int p, .int q] ∧ Int.gcd p q = 1 ∧ p.natAbs < 2 ^ k ∧ q.natAbs < 2 ^ k ∧ ∃ l : Rat, 0 < l ∧ (p : Rat) = l * x ∧ (q : Rat) = l * y := by
  obtain ⟨X, x1, x2⟩ := hx
  obtain ⟨Y, y1, y2⟩ := hy
  obtain ⟨p, q, e, g, l, l0, e1, e2⟩ := wayR_spec h
  have pos : ∃ N' : Int, N' ≠ 0 ∧ 0 < N' ∧ ∃ X' Y' : Int, X'.natAbs = X.natAbs ∧ Y'.natAbs = Y.natAbs ∧ x * N' = X' ∧ y * N' = Y' := by
    rcases Int.lt_or_gt_of_ne h0 with z | z
    · exact ⟨-N, by omega, by omega, -X, -Y, Int.natAbs_neg _, Int.natAbs_neg _, by rw [Rat.intCast_neg, Rat.intCast_neg, ← x2]; grind, by rw [Rat.intCast_neg, Rat.intCast_neg, ← y2]; grind⟩
    · exact ⟨N, h0, z, X, Y, rfl, rfl, x2, y2⟩
  obtain ⟨N', n0, np, X', Y', a1, a2, a3, a4⟩ := pos
  rw [← a1] at x1
  rw [← a2] at y1
  have np' : (0 : Rat) < (N' : Rat) := by rw [show (0 : Rat) = ((0 : Int) : Rat) from rfl, Rat.intCast_lt_intCast]; exact np
  have hh : ¬ ((X' : Rat) = 0 ∧ (Y' : Rat) = 0) := fun ⟨z1, z2⟩ => h ⟨by
    rw [z1] at a3
    rcases Rat.mul_eq_zero.mp a3 with w | w
    · exact w
    · exact absurd w (int_ne n0), by
    rw [z2] at a4
    rcases Rat.mul_eq_zero.mp a4 with w | w
    · exact w
    · exact absurd w (int_ne n0)⟩
  have ew : wayR (X' : Rat) (Y' : Rat) = wayR x y := wayR_mul h np' (by rw [← a3, Rat.mul_comm]) (by rw [← a4, Rat.mul_comm])
  have ew2 : way X' Y' = .tup [.int p, .int q] := by
    rw [← e, ← ew]
    show way X' Y' = way (X' * 1) (Y' * 1)
    rw [Int.mul_one, Int.mul_one]
  have gz : Int.gcd X' Y' ≠ 0 := fun z => by
    rw [Int.gcd_eq_zero_iff] at z
    exact hh ⟨by rw [z.1]; rfl, by rw [z.2]; rfl⟩
  obtain ⟨b1, b2⟩ := way_bits gz x1 y1 ew2
  exact ⟨p, q, e, g, b1, b2, l, l0, e1, e2⟩
theorem FiveN.ship {a b c d e x y : Rat} (h : FiveN a b c d e) (hu : Uq x y) : ∃ N : Int, N ≠ 0 ∧ Nb (ahd a b d e x y) N 74 ∧ Nb (-asd a c d e x y) N 74 := by
  obtain ⟨N, h0, hN, ha, hb, hc, hd, he⟩ := h
  obtain ⟨M, m0, hM, nx, ny⟩ := hu
  have one : Nb 1 N 52 := Nb.self (nx_mono hN (by decide))
  have e1 : ahd a b d e x y = b + ((1 + d) * x + (a - e) * y) := by unfold ahd; grind
  have e2 : asd a c d e x y = c + ((a + e) * x + (d - 1) * y) := by unfold asd; grind
  refine ⟨N * M, fun w => by rcases Int.mul_eq_zero.mp w with z | z; exact h0 z; exact m0 z, ?_, ?_⟩
  · rw [e1]
    exact Nb.mono (((hb.scale hM).mono (show 70 ≤ 72 by decide)).add (((one.add hd).mul nx).add ((ha.sub he).mul ny))) (by decide)
  · rw [e2]
    exact Nb.mono (((hc.scale hM).mono (show 70 ≤ 72 by decide)).add (((ha.add he).mul nx).add ((hd.sub one).mul ny))).neg (by decide)
theorem isSq_mul (t : Rat) : isSq (t * t) := by
  have e : t * t = t ^ 2 := by rw [Rat.pow_succ, Rat.pow_succ, Rat.pow_zero, Rat.one_mul]
  have sq2 : ∀ n : Int, rt (n ^ 2) * rt (n ^ 2) = n ^ 2 := fun n => by
    have a : n ^ 2 = (n.natAbs : Int) * n.natAbs := by
      have h := Int.natAbs_mul_self (a := n)
      rw [Int.natCast_mul] at h
      rw [h, Int.pow_succ, Int.pow_succ, Int.pow_zero, Int.one_mul]
    rw [a, rt_sq (by omega)]
  rw [e]
  refine ⟨?_, ?_⟩
  · rw [Rat.num_pow]; exact sq2 _
  · rw [Rat.den_pow, Int.natCast_pow]; exact sq2 _
noncomputable def rr (f s : Rat) : Rat := if 0 < f then rtq (f * f * s) else -rtq (f * f * s)
theorem rr_sq {f s : Rat} (h0 : 0 ≤ s) (h : isSq (f * f * s)) : rr f s * rr f s = f * f * s := by
  have := rtq_sq (ffs_nn (f := f) h0) h
  unfold rr; split <;> grind
theorem rr_zero {s : Rat} : rr 0 s = 0 := by
  unfold rr
  rw [if_neg (by decide +kernel), show (0 : Rat) * 0 * s = 0 by grind, rtq_zero]; decide +kernel
theorem eq_of_sq {x y : Rat} (h : x * x = y * y) (hx : 0 ≤ x) (hy : 0 ≤ y) : x = y := by
  have : (x - y) * (x + y) = 0 := by grind
  rcases Rat.mul_eq_zero.mp this with z | z
  · grind
  · grind
theorem rr_pair {f g s : Rat} (h0 : 0 ≤ s) (hf : isSq (f * f * s)) (hg : isSq (g * g * s)) : rr f s * g = rr g s * f := by
  have a := rtq_sq (ffs_nn (f := f) h0) hf
  have b := rtq_sq (ffs_nn (f := g) h0) hg
  have a0 := rtq_nn (ffs_nn (f := f) h0) hf
  have b0 := rtq_nn (ffs_nn (f := g) h0) hg
  unfold rr
  generalize rtq (f * f * s) = r at *
  generalize rtq (g * g * s) = t at *
  have key : ∀ x y : Rat, 0 ≤ x → 0 ≤ y → x * x = f * f → y * y = g * g → r * y = t * x := fun x y hx hy ex ey => by
    refine eq_of_sq ?_ (Rat.mul_nonneg a0 hy) (Rat.mul_nonneg b0 hx)
    have e1 : r * y * (r * y) = f * f * s * (g * g) := by rw [← a, ← ey]; grind
    have e2 : t * x * (t * x) = g * g * s * (f * f) := by rw [← b, ← ex]; grind
    rw [e1, e2]; grind
  by_cases c1 : 0 < f <;> by_cases c2 : 0 < g
  · rw [if_pos c1, if_pos c2]
    exact key f g (by grind) (by grind) rfl rfl
  · rw [if_pos c1, if_neg c2]
    have := key f (-g) (by grind) (by grind) rfl (by grind)
    grind
  · rw [if_neg c1, if_pos c2]
    have := key (-f) g (by grind) (by grind) (by grind) rfl
    grind
  · rw [if_neg c1, if_neg c2]
    have := key (-f) (-g) (by grind) (by grind) (by grind) (by grind)
    grind
theorem isSq_other {f g s : Rat} (h0 : 0 ≤ s) (hf : isSq (f * f * s)) (f0 : f ≠ 0) : isSq (g * g * s) := by
  have a := rtq_sq (ffs_nn (f := f) h0) hf
  generalize rtq (f * f * s) = r at *
  have e : g * g * s = (g * r / f) * (g * r / f) := by
    have i := Rat.mul_inv_cancel f f0
    rw [Rat.div_def]
    generalize f⁻¹ = j at *
    have : g * r * j * (g * r * j) = g * g * (r * r) * (j * j) := by grind
    rw [this, a]
    have : g * g * (f * f * s) * (j * j) = g * g * s * ((f * j) * (f * j)) := by grind
    rw [this, i]; grind
  rw [e]; exact isSq_mul _
structure UnitH (X F Y G S : Rat) : Prop where
  X_ : Bd 260 X
  F_ : Bd 260 F
  Y_ : Bd 260 Y
  G_ : Bd 260 G
  S_ : Bd 260 S
  nn : 0 ≤ S
  one : X * X + Y * Y + (F * F + G * G) * S = 1
  orth : X * F + Y * G = 0
  W1 : Bd 516 (F * F * S)
  W2 : Bd 516 (G * G * S)
theorem unit_sum {X F Y G S : Rat} (h : UnitH X F Y G S) (hf : isSq (F * F * S)) (hg : isSq (G * G * S)) : (X + rr F S) * (X + rr F S) + (Y + rr G S) * (Y + rr G S) = 1 := by
  have a := rr_sq h.nn hf
  have b := rr_sq h.nn hg
  have c := rr_pair h.nn hf hg
  have o := h.orth
  have n := h.one
  have d : X * rr F S + Y * rr G S = 0 := by
    by_cases z : F = 0
    · by_cases w : G = 0
      · rw [z, w, rr_zero]; grind
      · have : (X * rr F S + Y * rr G S) * G = 0 := by
          have : (X * rr F S + Y * rr G S) * G = X * (rr F S * G) + Y * G * rr G S := by grind
          rw [this, c]; grind
        rcases Rat.mul_eq_zero.mp this with y | y
        · exact y
        · exact absurd y w
    · have : (X * rr F S + Y * rr G S) * F = 0 := by
        have : (X * rr F S + Y * rr G S) * F = X * F * rr F S + Y * (rr G S * F) := by grind
        rw [this, ← c]; grind
      rcases Rat.mul_eq_zero.mp this with y | y
      · exact y
      · exact absurd y z
  generalize rr F S = r at *
  generalize rr G S = t at *
  grind
theorem surd_tr {p f s : Rat} (h : isSq (f * f * s)) : surdD p f s = .tup [Fr (p + rr f s), .int 0, Fr 0] := surdD_t h
theorem rr_bd {f s : Rat} {k1 k2 : Nat} (b1 : Bd k1 f) (b2 : Bd k2 s) (h0 : 0 ≤ s) (h : isSq (f * f * s)) : Bd (2 * k1 + k2) (rr f s) := by
  have b : Bd (2 * k1 + k2) (rtq (f * f * s)) := rtq_bd (Bd.mono (inferInstance : Bd _ (f * f * s)) (by omega)) (ffs_nn h0) h
  unfold rr
  split <;> infer_instance
def HdU (h : D) : Prop := ∃ X F Y G S, h = hdD X F Y G S ∧ UnitH X F Y G S
theorem UnitH.line {k l m x y z : Rat} (hM : mM l m ≠ 0) (B : LineB k l m x y z) (s0 : 0 ≤ mS k l m) : UnitH (lX k l m) (lF l m) (lY k l m) (-lG l m) (mS k l m) ∧ UnitH (lX k l m) (-lF l m) (lY k l m) (lG l m) (mS k l m) := by
  have := B.X; have := B.F; have := B.Y; have := B.G
  have i := Rat.mul_inv_cancel _ hM
  have e1 : lX k l m * lX k l m + lY k l m * lY k l m + (lF l m * lF l m + lG l m * lG l m) * mS k l m = 1 := by
    unfold lX lY lF lG mS mM at *
    simp only [Rat.div_def]
    generalize (l * l + m * m)⁻¹ = j at *
    grind
  have e2 := line_XF (k := k) (l := l) (m := m)
  have w1 := B.WF; have w2 := B.WG
  exact ⟨⟨B.X, B.F, B.Y, inferInstance, B.S, s0, by grind, by grind, w1, by rw [nfs]; exact w2⟩, ⟨B.X, inferInstance, B.Y, B.G, B.S, s0, by grind, by grind, by rw [nfs]; exact w1, w2⟩⟩
theorem lineL_U {k l m x y z : Rat} {b1 b2 : Bool} (hM : mM l m ≠ 0) (B : LineB k l m x y z) : (lineL k l m b1 b2).length ≤ 2 ∧ ∀ h ∈ lineL k l m b1 b2, HdU h := by
  unfold lineL
  split
  · exact ⟨by decide, fun h hh => by simp at hh⟩
  · rename_i s1
    obtain ⟨u1, u2⟩ := UnitH.line hM B (by grind)
    have w1 : HdU (hdD (lX k l m) (lF l m) (lY k l m) (-lG l m) (mS k l m)) := ⟨_, _, _, _, _, rfl, u1⟩
    have w2 : HdU (hdD (lX k l m) (-lF l m) (lY k l m) (lG l m) (mS k l m)) := ⟨_, _, _, _, _, rfl, u2⟩
    generalize hdD (lX k l m) (lF l m) (lY k l m) (-lG l m) (mS k l m) = h1 at *
    split
    · unfold ordL
      split
      · split
        · split
          · exact ⟨by simp, fun h hh => by simp only [List.mem_cons, List.not_mem_nil, or_false] at hh; rcases hh with rfl | rfl; exact w2; exact ⟨_, _, _, _, _, rfl, u1⟩⟩
          · exact ⟨by simp, fun h hh => by simp only [List.mem_cons, List.not_mem_nil, or_false] at hh; rcases hh with rfl | rfl; exact ⟨_, _, _, _, _, rfl, u1⟩; exact w2⟩
        · exact ⟨by simp, fun h hh => by simp only [List.mem_cons, List.not_mem_nil, or_false] at hh; rcases hh with rfl; exact ⟨_, _, _, _, _, rfl, u1⟩⟩
      · split
        · exact ⟨by simp, fun h hh => by simp only [List.mem_cons, List.not_mem_nil, or_false] at hh; rcases hh with rfl; exact w2⟩
        · exact ⟨by decide, fun h hh => by simp at hh⟩
    · split
      · exact ⟨by simp, fun h hh => by simp only [List.mem_cons, List.not_mem_nil, or_false] at hh; rcases hh with rfl; exact w1⟩
      · exact ⟨by decide, fun h hh => by simp at hh⟩
def HdL (o : Option (List D)) : Prop := ∀ ds, o = some ds → ds.length ≤ 2 ∧ ∀ h ∈ ds, HdU h
theorem showO_U {a b c d e : Rat} {p q : Int} (B : ShowB a b c d e p q) : HdL (showO a b c d e p q) := by
  intro ds h
  unfold showO at h
  split at h
  · split at h
    · cases h
    · cases h; exact ⟨by decide, fun h hh => by simp at hh⟩
  · rename_i z
    cases h
    exact lineL_U (mM_ne z) (B.L z)
theorem rt_half {n : Int} {k : Nat} (h0 : 0 ≤ n) (h : n.natAbs < 2 ^ (2 * k)) : (rt n).natAbs < 2 ^ k := by
  obtain ⟨r0, r1, _⟩ := rt_spec h0
  refine Nat.lt_of_not_le fun z => ?_
  have a : 2 ^ k * 2 ^ k ≤ (rt n).natAbs * (rt n).natAbs := Nat.mul_le_mul z z
  have e : 2 ^ k * 2 ^ k = 2 ^ (2 * k) := by rw [← Nat.pow_add]; congr 1; omega
  have b : (rt n).natAbs * (rt n).natAbs = (rt n * rt n).natAbs := (Int.natAbs_mul _ _).symm
  have c := Int.mul_nonneg r0 r0
  rw [e, b] at a
  generalize 2 ^ (2 * k) = t at *
  omega
theorem rr_half {f s : Rat} {k : Nat} (b : Bd (2 * k) (f * f * s)) (h0 : 0 ≤ s) (h : isSq (f * f * s)) : Bd k (rr f s) := by
  obtain ⟨e1, e2⟩ := rtq_parts (ffs_nn h0) h
  have br : Bd k (rtq (f * f * s)) := ⟨by rw [e1]; exact rt_half (num_nn2 (ffs_nn h0)) b.n, by have := rt_half (n := (f * f * s).den) (k := k) (by omega) b.d'; rw [← e2] at this; omega⟩
  unfold rr
  split <;> infer_instance
theorem surd_shape {p f s : Rat} (b1 : Bd 260 p) (b2 : Bd 260 f) (b3 : Bd 260 s) (w : Bd 516 (f * f * s)) (h0 : 0 ≤ s) : ∃ P m S, surdD p f s = .tup [Fr P, .int m, Fr S] ∧ Bd 520 P ∧ Bd 520 S ∧ Ib 1 m := by
  by_cases h : isSq (f * f * s)
  · have b := rr_half (k := 258) w h0 h
    exact ⟨_, _, _, surd_tr h, Bd.mono (inferInstance : Bd _ (p + rr f s)) (by decide), Bd.mono (inferInstance : Bd _ (0 : Rat)) (by decide), ⟨by decide⟩⟩
  · refine ⟨_, _, _, surdD_f h, b1.mono (by decide), w.mono (by decide), ?_⟩
    rcases sgn_bd f.num with y | y | y <;> rw [y] <;> exact ⟨by decide⟩
theorem HdU.shape {h : D} (w : HdU h) : ∃ P m S P' m' S', h = .tup [.tup [Fr P, .int m, Fr S], .tup [Fr P', .int m', Fr S']] ∧ Bd 520 P ∧ Bd 520 S ∧ Ib 1 m ∧ Bd 520 P' ∧ Bd 520 S' ∧ Ib 1 m' := by
  obtain ⟨X, F, Y, G, S, rfl, u⟩ := w
  obtain ⟨P, m, T, e, b1, b2, b3⟩ := surd_shape u.X_ u.F_ u.S_ u.W1 u.nn
  obtain ⟨P', m', T', e', b1', b2', b3'⟩ := surd_shape u.Y_ u.G_ u.S_ u.W2 u.nn
  refine ⟨P, m, T, P', m', T', ?_, b1, b2, b3, b1', b2', b3'⟩
  show D.tup [_, _] = _
  rw [e, e']
theorem rep_pair {o : Option (List D)} (w : HdL o) {P : D → Prop} : ow (dRepr [.lst [optD o, optD o]]) P ↔ P (.str (D.lst [optD o, optD o]).py.shown) := by
  cases o with
  | none =>
    show ow (dRepr [.lst [.non, .non]]) P ↔ P (.str (D.lst [.non, .non]).py.shown)
    exact ow_repr' (by decide) (by decide)
  | some ds =>
    obtain ⟨l, hh⟩ := w ds rfl
    show ow (dRepr [.lst [.tup ds, .tup ds]]) P ↔ P (.str (D.lst [.tup ds, .tup ds]).py.shown)
    match ds, l, hh with
    | [], _, _ => exact ow_repr' (by decide) (by decide)
    | [h1], _, hh =>
      obtain ⟨P1, m, S, P', m', S', rfl, b1, b2, b3, b4, b5, b6⟩ := (hh h1 (by simp)).shape
      exact ow_repr' (by decide) (by decide)
    | [h1, h2], _, hh =>
      obtain ⟨P1, m, S, P', m', S', rfl, b1, b2, b3, b4, b5, b6⟩ := (hh h1 (by simp)).shape
      obtain ⟨P2, n, T, P2', n', T', rfl, c1, c2, c3, c4, c5, c6⟩ := (hh h2 (by simp)).shape
      exact ow_repr' (by decide) (by decide)
theorem good_2 {T : M D} (hT : ∀ (L : List D) (ρ : En) (Q : D → En → Prop), Lode 1000000 L → Q (.bl true) ρ → wp (callN 1 T L) ρ Q) :
    Good 63 (fnB [] 1 1 (asRet (mRet (mCB dAll (dCons (mLst (mLc 2 [1] (mIter' rng1 (dCons (M.ret (.int 2)) (dNil))) (gN 1) (M.ret true) (M.bind (M.bind (dCons (dVar 0) (dCons (dVar 1) (dNil))) (callL 2 mN_law_lode)) (callN 1 T)))) (dNil)))))) := good_of fun ns hn => by
  rw [wp_V]
  simp! [↓wp_lc]
  rw [ow_rng1 (by omega) (by omega)]
  refine ⟨rfl, by rw [upto_length]; omega, ?_⟩
  show wp (lcL 2 [1] (gN 1) (M.ret true) _ _) [.val (.fz ns), .no] _
  refine laps_true (fun d hd => ?_) (fun i ρ Q i0 i1 h => sp_law_lode hn i0 i1 h) hT rfl fun x hx => ?_
  · obtain ⟨i, hi, rfl⟩ := mem_upto hd
    exact ⟨_, by omega, by omega, rfl⟩
  · simp! [wipeE, List.all_cons, List.all_nil, hx, all_rep]
theorem shown_way {a b c d e x y : Rat} (h : FiveN a b c d e) (hu : Uq x y) (h0 : ¬ (ahd a b d e x y = 0 ∧ asd a c d e x y = 0)) : ∃ p q : Int, wayR (ahd a b d e x y) (-asd a c d e x y) = .tup [.int p, .int q] ∧ Int.gcd p q = 1 ∧ p.natAbs < 2 ^ 74 ∧ q.natAbs < 2 ^ 74 ∧ ∃ l : Rat, 0 < l ∧ (p : Rat) = l * ahd a b d e x y ∧ (q : Rat) = l * -asd a c d e x y := by
  obtain ⟨N, n0, n1, n2⟩ := h.ship hu
  exact wayR_tight (fun ⟨z1, z2⟩ => h0 ⟨z1, by grind⟩) n0 n1 n2
noncomputable abbrev ownD (c s : Rat) : D := .tup [.tup [Fr c, .int 0, Fr 0], .tup [Fr s, .int 0, Fr 0]]
theorem sp_law_as_surds {c s : Rat} {ρ : En} {Q : D → En → Prop} : wp (callV 1 m_law_as_surds [.tup [Fr c, Fr s]]) ρ Q ↔ Q (ownD c s) ρ := by
  apply wp_eq
  unfold m_law_as_surds m_law_as_surdsB
  rw [wp_V]
  simp! [R_zero]
theorem rr_t {f u : Rat} (h : 0 ≤ u) : rr f (u * u) = f * u := by
  have e : f * f * (u * u) = (f * u) * (f * u) := by grind
  have hs : isSq (f * f * (u * u)) := by rw [e]; exact isSq_mul _
  have a := rtq_sq (ffs_nn (f := f) (sq_nnW u)) hs
  have a0 := rtq_nn (ffs_nn (f := f) (sq_nnW u)) hs
  unfold rr
  generalize rtq (f * f * (u * u)) = r at *
  split
  · rename_i z
    exact eq_of_sq (by rw [a]; grind) a0 (Rat.mul_nonneg (by grind) h)
  · rename_i z
    have := eq_of_sq (x := r) (y := -f * u) (by rw [a]; grind) a0 (Rat.mul_nonneg (by grind) h)
    rw [this]; grind
theorem isSq_t (f u : Rat) : isSq (f * f * (u * u)) := by
  rw [show f * f * (u * u) = (f * u) * (f * u) by grind]; exact isSq_mul _
theorem surd_t {p f u : Rat} (h : 0 ≤ u) : surdD p f (u * u) = .tup [Fr (p + f * u), .int 0, Fr 0] := by rw [surd_tr (isSq_t f u), rr_t h]
theorem hd_t {X F Y G u : Rat} (h : 0 ≤ u) : hdD X F Y G (u * u) = ownD (X + F * u) (Y + G * u) := by
  show D.tup [_, _] = _
  rw [surd_t h, surd_t h]
theorem line_own {k l m c s : Rat} (hM : mM l m ≠ 0) (u : c * c + s * s = 1) (on : k + (l * c + m * s) = 0) :
    mS k l m = (l * s - m * c) * (l * s - m * c) ∧ c = lX k l m + lF l m * -(l * s - m * c) ∧ s = lY k l m + -lG l m * -(l * s - m * c) := by
  have i := Rat.mul_inv_cancel _ hM
  have ek : k = -(l * c + m * s) := by grind
  refine ⟨?_, ?_, ?_⟩
  · have : mM l m * (c * c + s * s) = mM l m := by rw [u]; grind
    unfold mS mM at *
    rw [ek]; grind
  · unfold lX lF
    simp only [Rat.div_def]
    unfold mM at *
    generalize (l * l + m * m)⁻¹ = j at *
    rw [ek]
    have : -(l * -(l * c + m * s) * j) + m * j * -(l * s - m * c) = c * ((l * l + m * m) * j) := by grind
    rw [this, i]; grind
  · unfold lY lG
    simp only [Rat.div_def]
    unfold mM at *
    generalize (l * l + m * m)⁻¹ = j at *
    rw [ek]
    have : -(m * -(l * c + m * s) * j) + -(l * j) * -(l * s - m * c) = s * ((l * l + m * m) * j) := by grind
    rw [this, i]; grind
theorem sg_rr {p f s : Rat} (h0 : 0 ≤ s) (h : isSq (f * f * s)) : sg p f s = sq (p + rr f s) := (sg_root h0 h).symm
theorem own_A {k l m x y z c s : Rat} (hM : mM l m ≠ 0) (u : c * c + s * s = 1) (on : k + (l * c + m * s) = 0) (ht : l * s - m * c ≤ 0) :
    hdD (lX k l m) (lF l m) (lY k l m) (-lG l m) (mS k l m) = ownD c s ∧ sA k l m x y z = sq (x + (y * c + z * s)) := by
  obtain ⟨e1, e2, e3⟩ := line_own hM u on
  have t0 : 0 ≤ -(l * s - m * c) := by grind
  have e1' : mS k l m = -(l * s - m * c) * -(l * s - m * c) := by rw [e1]; grind
  refine ⟨?_, ?_⟩
  · rw [e1', hd_t t0, ← e2, ← e3]
  · unfold sA
    rw [e1', sg_rr (sq_nnW _) (isSq_t _ _), rr_t t0]
    congr 1
    generalize l * s - m * c = t at *
    rw [e2, e3]; grind
theorem own_B {k l m x y z c s : Rat} (hM : mM l m ≠ 0) (u : c * c + s * s = 1) (on : k + (l * c + m * s) = 0) (ht : 0 ≤ l * s - m * c) :
    hdD (lX k l m) (-lF l m) (lY k l m) (lG l m) (mS k l m) = ownD c s ∧ sB k l m x y z = sq (x + (y * c + z * s)) := by
  obtain ⟨e1, e2, e3⟩ := line_own hM u on
  refine ⟨?_, ?_⟩
  · have : ∀ t : Rat, lX k l m + -lF l m * t = lX k l m + lF l m * -t := fun t => by grind
    have h2 : ∀ t : Rat, lY k l m + lG l m * t = lY k l m + -lG l m * -t := fun t => by grind
    rw [e1, hd_t ht, this, h2, ← e2, ← e3]
  · unfold sB
    rw [e1, sg_rr (sq_nnW _) (isSq_t _ _), rr_t ht]
    congr 1
    generalize l * s - m * c = t at *
    rw [e2, e3]; grind
theorem rr0 {f : Rat} : rr f 0 = 0 := by
  have := rr_t (f := f) (u := 0) (by decide)
  rw [show (0 : Rat) * 0 = 0 by decide +kernel, Rat.mul_zero] at this; exact this
theorem sAB0 {k l m x y z : Rat} (h : mS k l m = 0) : sB k l m x y z = sA k l m x y z := by
  have r0 : ∀ p q : Rat, sg p q 0 = sq p := fun p q => by
    unfold sg
    rw [if_neg (show ¬ (0 : Rat) < 0 by decide +kernel), if_pos (.inr (.inl rfl))]
    split
    · rename_i z; exact z.symm
    · rfl
  unfold sA sB; rw [h, r0, r0]
theorem hd_AB0 {k l m : Rat} (h : mS k l m = 0) : hdD (lX k l m) (-lF l m) (lY k l m) (lG l m) (mS k l m) = hdD (lX k l m) (lF l m) (lY k l m) (-lG l m) (mS k l m) := by rw [h, hd_nul, hd_nul]
theorem own_mem {k l m x y z c s : Rat} {f : Int → Bool} (hM : mM l m ≠ 0) (u : c * c + s * s = 1) (on : k + (l * c + m * s) = 0) (hf : f (sq (x + (y * c + z * s))) = true) : ownD c s ∈ lineL k l m (f (sA k l m x y z)) (f (sB k l m x y z)) := by
  have S := (line_own hM u on).1
  have s0 := sq_nnW (l * s - m * c)
  rw [← S] at s0
  unfold lineL
  rw [if_neg (by grind)]
  by_cases ht : l * s - m * c ≤ 0
  · obtain ⟨a, b⟩ := own_A (x := x) (y := y) (z := z) hM u on ht
    rw [b, hf, a]
    split
    · unfold ordL
      rw [if_pos rfl, a]
      split
      · split <;> simp
      · simp
    · simp
  · obtain ⟨a, b⟩ := own_B (x := x) (y := y) (z := z) hM u on (by grind)
    rw [b, hf]
    have sp : 0 < mS k l m := by
      rw [S]
      have := Rat.mul_pos (show 0 < l * s - m * c by grind) (show 0 < l * s - m * c by grind)
      exact this
    rw [if_pos sp]
    unfold ordL
    rw [if_pos rfl, a]
    split
    · split <;> simp
    · simp
theorem lineL_mem {k l m : Rat} {b1 b2 : Bool} {h : D} (hh : h ∈ lineL k l m b1 b2) : 0 ≤ mS k l m ∧ ((h = hdD (lX k l m) (lF l m) (lY k l m) (-lG l m) (mS k l m) ∧ b1 = true) ∨ (h = hdD (lX k l m) (-lF l m) (lY k l m) (lG l m) (mS k l m) ∧ b2 = true)) := by
  unfold lineL at hh
  split at hh
  · simp at hh
  · rename_i s1
    refine ⟨by grind, ?_⟩
    split at hh
    · unfold ordL at hh
      split at hh
      · rename_i w1
        split at hh
        · rename_i w2
          split at hh <;> simp only [List.mem_cons, List.not_mem_nil, or_false] at hh <;> rcases hh with rfl | rfl
          · exact .inr ⟨rfl, w2⟩
          · exact .inl ⟨rfl, w1⟩
          · exact .inl ⟨rfl, w1⟩
          · exact .inr ⟨rfl, w2⟩
        · simp only [List.mem_cons, List.not_mem_nil, or_false] at hh
          subst hh; exact .inl ⟨rfl, w1⟩
      · split at hh
        · rename_i w2
          simp only [List.mem_cons, List.not_mem_nil, or_false] at hh
          subst hh; exact .inr ⟨rfl, w2⟩
        · simp at hh
    · split at hh
      · rename_i w1
        simp only [List.mem_cons, List.not_mem_nil, or_false] at hh
        subst hh; exact .inl ⟨rfl, w1⟩
      · simp at hh
theorem Fr_inj {p q : Rat} (h : Fr p = Fr q) : p = q := by
  unfold Fr at h
  injection h with h
  injection h with h1 h
  injection h with h2 _
  injection h1 with h1
  injection h2 with h2
  exact Rat.ext h1 (by omega)
theorem surd_int {p f s P : Rat} {T : D} (h0 : 0 ≤ s) (h : surdD p f s = .tup [Fr P, .int 0, T]) : isSq (f * f * s) ∧ P = p + rr f s := by
  by_cases c : isSq (f * f * s)
  · rw [surd_tr c] at h
    refine ⟨c, ?_⟩
    injection h with h
    injection h with h1 _
    exact (Fr_inj h1).symm
  · rw [surdD_f c] at h
    injection h with h
    injection h with _ h
    injection h with h2 _
    injection h2 with h2
    have f0 : f = 0 := by
      rcases tri f with y | y | y
      · rw [show sgn f.num = -1 from sq_neg' y] at h2; cases h2
      · exact y
      · rw [show sgn f.num = 1 from sq_pos' y] at h2; cases h2
    exact absurd (by rw [f0, show (0 : Rat) * 0 * s = 0 by grind]; exact isSq_zero) c
theorem rr_lin {F G y z s : Rat} (h0 : 0 ≤ s) (hF : isSq (F * F * s)) (hG : isSq (G * G * s)) : isSq ((y * F + z * G) * (y * F + z * G) * s) ∧ rr (y * F + z * G) s = y * rr F s + z * rr G s := by
  by_cases f0 : F = 0
  · by_cases g0 : G = 0
    · have e : y * F + z * G = 0 := by rw [f0, g0]; grind
      rw [e, f0, g0, rr_zero]
      exact ⟨by rw [show (0 : Rat) * 0 * s = 0 by grind]; exact isSq_zero, by grind⟩
    · have h1 := isSq_other (g := y * F + z * G) h0 hG g0
      have h2 := rr_pair h0 h1 hG
      refine ⟨h1, ?_⟩
      rw [f0, rr_zero] at *
      have : (rr (y * 0 + z * G) s - (y * 0 + z * rr G s)) * G = 0 := by grind
      rcases Rat.mul_eq_zero.mp this with w | w
      · grind
      · exact absurd w g0
  · have h1 := isSq_other (g := y * F + z * G) h0 hF f0
    have h2 := rr_pair h0 h1 hF
    have h3 := rr_pair h0 hF hG
    refine ⟨h1, ?_⟩
    have : (rr (y * F + z * G) s - (y * rr F s + z * rr G s)) * F = 0 := by
      have : (rr (y * F + z * G) s - (y * rr F s + z * rr G s)) * F = rr (y * F + z * G) s * F - y * F * rr F s - z * (rr G s * F) := by grind
      rw [this, h2, ← h3]; grind
    rcases Rat.mul_eq_zero.mp this with w | w
    · grind
    · exact absurd w f0
theorem mem_own {k l m x y z C S : Rat} {b1 b2 : Bool} {T T' : D} (hM : mM l m ≠ 0) (B : LineB k l m x y z) (hh : .tup [.tup [Fr C, .int 0, T], .tup [Fr S, .int 0, T']] ∈ lineL k l m b1 b2) :
    C * C + S * S = 1 ∧ k + (l * C + m * S) = 0 ∧ ((b1 = true ∧ sA k l m x y z = sq (x + (y * C + z * S))) ∨ (b2 = true ∧ sB k l m x y z = sq (x + (y * C + z * S)))) := by
  obtain ⟨s0, hh⟩ := lineL_mem hh
  obtain ⟨u1, u2⟩ := UnitH.line hM B s0
  have i := Rat.mul_inv_cancel _ hM
  have base : k + (l * lX k l m + m * lY k l m) = 0 := by
    unfold lX lY
    simp only [Rat.div_def]
    unfold mM at *
    generalize (l * l + m * m)⁻¹ = j at *
    have : k + (l * -(l * k * j) + m * -(m * k * j)) = k - k * ((l * l + m * m) * j) := by grind
    rw [this, i]; grind
  have perp : l * lF l m - m * lG l m = 0 := by unfold lF lG; simp only [Rat.div_def]; grind
  rcases hh with ⟨e, hb⟩ | ⟨e, hb⟩
  · injection e with e
    injection e with e1 e
    injection e with e2 _
    obtain ⟨q1, rfl⟩ := surd_int s0 e1.symm
    obtain ⟨q2, rfl⟩ := surd_int s0 e2.symm
    have L1 := rr_lin (y := l) (z := m) s0 q1 q2
    have L2 := rr_lin (y := y) (z := z) s0 q1 q2
    refine ⟨unit_sum u1 q1 q2, ?_, .inl ⟨hb, ?_⟩⟩
    · have w := L1.2
      rw [show l * lF l m + m * -lG l m = 0 by grind, rr_zero] at w
      grind
    · unfold sA
      rw [sg_rr s0 L2.1, L2.2]
      congr 1; grind
  · injection e with e
    injection e with e1 e
    injection e with e2 _
    obtain ⟨q1, rfl⟩ := surd_int s0 e1.symm
    obtain ⟨q2, rfl⟩ := surd_int s0 e2.symm
    have L1 := rr_lin (y := l) (z := m) s0 q1 q2
    have L2 := rr_lin (y := y) (z := z) s0 q1 q2
    refine ⟨unit_sum u2 q1 q2, ?_, .inr ⟨hb, ?_⟩⟩
    · have w := L1.2
      rw [show l * -lF l m + m * lG l m = 0 by grind, rr_zero] at w
      grind
    · unfold sB
      rw [sg_rr s0 L2.1, L2.2]
      congr 1; grind
theorem ac_val {a b c d e p q x y : Rat} : ac0 b c p q + (ac1 a d e p q * x + ac2 a d e p q * y) = q * ahd a b d e x y + p * asd a c d e x y := by unfold ac0 ac1 ac2 ahd asd; grind
theorem al_val {a b c d e p q x y : Rat} : al0 b c p q + (al1 a d e p q * x + al2 a d e p q * y) = p * ahd a b d e x y - q * asd a c d e x y := by unfold al0 al1 al2 ahd asd; grind
theorem sq_gt {x : Rat} : 0 < sq x ↔ 0 < x := by
  rcases tri x with h | h | h
  · rw [sq_neg' h]; exact ⟨fun z => absurd z (by decide), fun z => by grind⟩
  · rw [sq_nul h]; exact ⟨fun z => absurd z (by decide), fun z => by grind⟩
  · rw [sq_pos' h]; exact ⟨fun _ => h, fun _ => by decide⟩
theorem sq_eq0 {x : Rat} : sq x = 0 ↔ x = 0 := by
  rcases tri x with h | h | h
  · rw [sq_neg' h]; exact ⟨fun z => absurd z (by decide), fun z => by grind⟩
  · rw [sq_nul h]; exact ⟨fun _ => h, fun _ => rfl⟩
  · rw [sq_pos' h]; exact ⟨fun z => absurd z (by decide), fun z => by grind⟩
theorem sum2_pos {x y : Rat} (h : ¬ (x = 0 ∧ y = 0)) : 0 < x * x + y * y := by
  have a := sq_nnW x
  have b := sq_nnW y
  refine Rat.not_le.mp fun z => h ?_
  have a0 : x * x = 0 := by grind
  have b0 : y * y = 0 := by grind
  exact ⟨by rcases Rat.mul_eq_zero.mp a0 with y | y <;> exact y, by rcases Rat.mul_eq_zero.mp b0 with y | y <;> exact y⟩
theorem rises_of {x y z c s : Rat} (u : c * c + s * s = 1) (h : 0 < x + (y * c + z * s)) : 0 < x ∨ x * x < y * y + z * z := by
  by_cases p : 0 < x
  · exact .inl p
  · refine .inr ?_
    have w : -x < y * c + z * s := by grind
    have w0 : 0 ≤ -x := by grind
    have e : (y * c + z * s) * (y * c + z * s) + (y * s - z * c) * (y * s - z * c) = (y * y + z * z) * (c * c + s * s) := by grind
    rw [u, Rat.mul_one] at e
    have n := sq_nnW (y * s - z * c)
    generalize y * c + z * s = t at *
    have : 0 < (t - -x) * (t + -x) := Rat.mul_pos (by grind) (by grind)
    grind
theorem showO_own {a b c d e x y l : Rat} {p q : Int} (u : x * x + y * y = 1) (h0 : ¬ (ahd a b d e x y = 0 ∧ asd a c d e x y = 0)) (l0 : 0 < l) (e1 : (p : Rat) = l * ahd a b d e x y) (e2 : (q : Rat) = l * -asd a c d e x y) :
    ∀ ds, showO a b c d e p q = some ds → ownD x y ∈ ds := by
  have v1 := ac_val (a := a) (b := b) (c := c) (d := d) (e := e) (p := p) (q := q) (x := x) (y := y)
  have v2 := al_val (a := a) (b := b) (c := c) (d := d) (e := e) (p := p) (q := q) (x := x) (y := y)
  have on : ac0 b c p q + (ac1 a d e p q * x + ac2 a d e p q * y) = 0 := by rw [v1, e1, e2]; grind
  have po : 0 < al0 b c p q + (al1 a d e p q * x + al2 a d e p q * y) := by
    rw [v2, e1, e2]
    have := Rat.mul_pos l0 (sum2_pos h0)
    grind
  intro ds h
  unfold showO at h
  split at h
  · rename_i z
    split at h
    · cases h
    · rename_i w
      refine absurd ⟨?_, rises_of u po⟩ w
      rw [z.1, z.2] at on
      grind
  · rename_i z
    cases h
    exact own_mem (f := fun n => decide (0 < n)) (mM_ne z) u on (decide_eq_true (sq_gt.mpr po))
theorem own_tup {c s : Rat} : ownD c s = .tup [.tup [Fr c, .int 0, Fr 0], .tup [Fr s, .int 0, Fr 0]] := rfl
theorem showO_rat {a b c d e C S : Rat} {p q : Int} {T T' : D} (B : ShowB a b c d e p q) (g : Int.gcd p q = 1) {ds : List D} (h : showO a b c d e p q = some ds) (hh : .tup [.tup [Fr C, .int 0, T], .tup [Fr S, .int 0, T']] ∈ ds) :
    C * C + S * S = 1 ∧ 0 < p * ahd a b d e C S - q * asd a c d e C S ∧ ¬ (ahd a b d e C S = 0 ∧ asd a c d e C S = 0) ∧ wayR (ahd a b d e C S) (-asd a c d e C S) = .tup [.int p, .int q] := by
  have v1 := ac_val (a := a) (b := b) (c := c) (d := d) (e := e) (p := p) (q := q) (x := C) (y := S)
  have v2 := al_val (a := a) (b := b) (c := c) (d := d) (e := e) (p := p) (q := q) (x := C) (y := S)
  unfold showO at h
  split at h
  · split at h
    · cases h
    · cases h; simp at hh
  · rename_i z
    cases h
    obtain ⟨u, on, w⟩ := mem_own (mM_ne z) (B.L z) hh
    have po : 0 < al0 b c p q + (al1 a d e p q * C + al2 a d e p q * S) := by
      rcases w with ⟨w1, w2⟩ | ⟨w1, w2⟩
      · have := of_decide_eq_true w1; rw [w2] at this; exact sq_gt.mp this
      · have := of_decide_eq_true w1; rw [w2] at this; exact sq_gt.mp this
    rw [v1] at on
    rw [v2] at po
    generalize ahd a b d e C S = X at *
    generalize asd a c d e C S = Y at *
    have hn : ¬ (X = 0 ∧ Y = 0) := fun ⟨z1, z2⟩ => by rw [z1, z2] at po; grind
    have pq : ¬ ((p : Rat) = 0 ∧ (q : Rat) = 0) := fun ⟨z1, z2⟩ => by rw [z1, z2] at po; grind
    have m0 := sum2_pos pq
    have mi := Rat.mul_inv_cancel _ (show (p : Rat) * p + q * q ≠ 0 by grind)
    have ip : 0 < ((p : Rat) * p + q * q)⁻¹ := Rat.inv_pos.mpr m0
    generalize ((p : Rat) * p + q * q)⁻¹ = j at *
    have hl : 0 < (p * X - q * Y) * j := Rat.mul_pos po ip
    refine ⟨u, po, hn, ?_⟩
    have f1 : X = (p * X - q * Y) * j * p := by
      have : (p * X - q * Y) * j * p = X * (((p : Rat) * p + q * q) * j) - q * j * (q * X + p * Y) := by grind
      rw [this, mi, on]; grind
    have f2 : -Y = (p * X - q * Y) * j * q := by
      have : (p * X - q * Y) * j * q = -Y * (((p : Rat) * p + q * q) * j) + p * j * (q * X + p * Y) := by grind
      rw [this, mi, on]; grind
    rw [wayR_mul (x := (p : Rat)) (y := (q : Rat)) pq hl f1 f2]
    show way (p * 1) (q * 1) = _
    unfold way
    rw [Int.mul_one, Int.mul_one, g]
    show D.tup [.int (p.fdiv 1), .int (q.fdiv 1)] = _
    rw [Int.fdiv_one, Int.fdiv_one]
theorem showO_against {a b c d e x y l : Rat} {p q : Int} (B : ShowB a b c d e (0 - p) (0 - q)) (g : Int.gcd p q = 1) (l0 : 0 < l) (e1 : (p : Rat) = l * ahd a b d e x y) (e2 : (q : Rat) = l * -asd a c d e x y) :
    ∀ ds, showO a b c d e ((0 - p : Int) : Rat) ((0 - q : Int) : Rat) = some ds → ownD x y ∉ ds := by
  intro ds h hh
  have g' : Int.gcd (0 - p) (0 - q) = 1 := by rw [Int.zero_sub, Int.zero_sub, Int.gcd_neg, Int.neg_gcd]; exact g
  obtain ⟨-, po, -, -⟩ := showO_rat B g' h hh
  rw [Int.zero_sub, Int.zero_sub, Rat.intCast_neg, Rat.intCast_neg, e1, e2] at po
  have a1 := sq_nnW (ahd a b d e x y)
  have a2 := sq_nnW (asd a c d e x y)
  have := Rat.mul_nonneg (Rat.le_of_lt l0) a1
  have := Rat.mul_nonneg (Rat.le_of_lt l0) a2
  grind
noncomputable def deadO (a b c d e : Rat) : List D :=
  if rwd a b c d e = "dead" then (if 1 + d = 0 ∧ a - e = 0 then lineL c (a + e) (d - 1) (decide (sA c (a + e) (d - 1) b (1 + d) (a - e) = 0)) (decide (sB c (a + e) (d - 1) b (1 + d) (a - e) = 0))
    else lineL b (1 + d) (a - e) (decide (sA b (1 + d) (a - e) c (a + e) (d - 1) = 0)) (decide (sB b (1 + d) (a - e) c (a + e) (d - 1) = 0))) else []
theorem row2_ne {a d e : Rat} (h : 1 + d = 0 ∧ a - e = 0) : ¬ (a + e = 0 ∧ d - 1 = 0) := fun z => by
  have h1 := h.1
  have h2 := z.2
  have : (2 : Rat) = 0 := by grind
  exact absurd this (by decide +kernel)
theorem FiveN.rows {a b c d e : Rat} (h : FiveN a b c d e) : (¬ (1 + d = 0 ∧ a - e = 0) → LineB b (1 + d) (a - e) c (a + e) (d - 1)) ∧ (¬ (a + e = 0 ∧ d - 1 = 0) → LineB c (a + e) (d - 1) b (1 + d) (a - e)) := by
  obtain ⟨N, h0, hN, ha, hb, hc, hd, he⟩ := h
  have one : Nb 1 N 52 := Nb.self (nx_mono hN (by decide))
  have n1 : Nb (1 + d) N 128 := (one.add hd).mono (by decide)
  have n2 : Nb (a - e) N 128 := (ha.sub he).mono (by decide)
  have n3 : Nb (a + e) N 128 := (ha.add he).mono (by decide)
  have n4 : Nb (d - 1) N 128 := (hd.sub one).mono (by decide)
  have n5 : Nb b N 128 := hb.mono (by decide)
  have n6 : Nb c N 128 := hc.mono (by decide)
  exact ⟨fun z => LineB.of h0 hN n5 n1 n2 n6 n3 n4 (mM_ne z), fun z => LineB.of h0 hN n6 n3 n4 n5 n1 n2 (mM_ne z)⟩
theorem deadO_own {a b c d e x y : Rat} (u : x * x + y * y = 1) (z1 : ahd a b d e x y = 0) (z2 : asd a c d e x y = 0) : ownD x y ∈ deadO a b c d e := by
  have v1 : b + ((1 + d) * x + (a - e) * y) = 0 := by unfold ahd at z1; grind
  have v2 : c + ((a + e) * x + (d - 1) * y) = 0 := by unfold asd at z2; grind
  unfold deadO
  rw [if_pos (rwd_dead_five u z1 z2)]
  split
  · rename_i h
    exact own_mem (f := fun n => decide (n = 0)) (mM_ne (row2_ne h)) u v2 (decide_eq_true (sq_eq0.mpr v1))
  · rename_i h
    exact own_mem (f := fun n => decide (n = 0)) (mM_ne h) u v1 (decide_eq_true (sq_eq0.mpr v2))
theorem deadO_U {a b c d e : Rat} (h : FiveN a b c d e) : HdL (some (deadO a b c d e)) := by
  obtain ⟨r1, r2⟩ := h.rows
  intro ds e'
  cases e'
  unfold deadO
  split
  · split
    · rename_i h
      exact lineL_U (mM_ne (row2_ne h)) (r2 (row2_ne h))
    · rename_i h
      exact lineL_U (mM_ne h) (r1 h)
  · exact ⟨by decide, fun h hh => by simp at hh⟩
noncomputable def fl_rest : M Fl := mRet (M.bind (dCons (mLst (mLc 5 [4] (mIter (M.bind (dCons (dVar 2) (dNil)) (callV 1 m_points_on))) (gN 4) (mTest (mOp dEq (mMeth "Point" "sign_of_row" (dVar 4) (dCons (dVar 3) (dNil)) 2 m_Point_sign_of_row) (M.ret (.int 0)))) (dVar 4))) (dNil)) (callV 1 m_in_order))
theorem forceless_B : m_forcelessB = mSeq (mIfS (mTest (mOp dNe (M.bind (dCons (dVar 0) (dNil)) (callV 1 m_word_for)) (M.ret (.str "dead")))) (mRet (mLst (dNil))) (M.ret .nx)) (mSeq (mSet 1 (M.bind (dCons (dVar 0) (dNil)) (callV 1 m_ship_rows))) (mSeq (mAsg (mIf (mNotT (mTest (M.bind (dCons (mOp dIx (dVar 1) (M.ret (.int 0))) (dNil)) (callV 1 m_is_nought_row)))) (dVar 1) (mUn dRev (dVar 1))) (gT (gsCons (gN 2) (gsCons (gN 3) (gsNil))))) fl_rest)) := rfl
theorem ow_rev_tupB {xs : List D} {P : D → Prop} : ow (dRev (.tup xs)) P ↔ P (.tup xs.reverse) := ow_some
theorem sp_forceless {a b c d e : Rat} {ρ : En} {Q : D → En → Prop} (h : FiveN a b c d e) : wp (callV 1 m_forceless [five a b c d e]) ρ Q ↔ Q (.lst (deadO a b c d e)) ρ := by
  obtain ⟨ba, bb, bc, bd, be⟩ := h.bd
  obtain ⟨r1, r2⟩ := h.rows
  have WF := fun {ρ : En} {Q : D → En → Prop} => sp_word_for (ρ := ρ) (Q := Q) (a := a) (b := b) (c := c) (d := d) (e := e) (k1 := 52) (k2 := 52) (k3 := 52) (k4 := 52) (k5 := 52) (by decide)
  have SR := fun {ρ : En} {Q : D → En → Prop} => sp_ship_rows (ρ := ρ) (Q := Q) (a := a) (b := b) (c := c) (d := d) (e := e) (k1 := 52) (k2 := 52) (k3 := 52) (k4 := 52) (k5 := 52) (by decide)
  apply wp_eq
  unfold m_forceless deadO
  rw [forceless_B, wp_V]
  by_cases w : rwd a b c d e = "dead"
  · have fin : ∀ {k l m x y z : Rat} {s0 s1 : Sl} {Q : D → Prop}, mM l m ≠ 0 → LineB k l m x y z → (Q (.lst (lineL k l m (decide (sA k l m x y z = 0)) (decide (sB k l m x y z = 0))))) →
        wp fl_rest
          [s0, s1, .val (.tup [Fr k, Fr l, Fr m]), .val (.tup [Fr x, Fr y, Fr z]), .no] fun fl r => retw fl fun d => 1 ≤ r.length ∧ Q d := fun {k l m x y z s0 s1 Q} hM L hQ => by
      unfold fl_rest
      have := L.k_; have := L.l_; have := L.m_; have := L.x_; have := L.y_; have := L.z_; have := L.X; have := L.F; have := L.Y; have := L.G; have := L.S; have := L.P; have := L.R1; have := L.R2
      have PO := fun {ρ : En} {Q : D → En → Prop} => sp_points_on (ρ := ρ) (Q := Q) (k := k) (l := l) (m := m) (j := 128) (by decide) hM
      rw [ptsP_eq] at PO
      unfold lineL at hQ
      by_cases s1 : mS k l m < 0
      · rw [if_pos s1] at PO
        rw [if_pos s1] at hQ
        simp! [↓PO, ↓wp_lc, ↓wp_lc1, ↓wp_lc0, wipeE, isOwn, List.all_cons, List.all_nil, ↓sp_in_order0]
        exact hQ
      · have s0 : 0 ≤ mS k l m := by grind
        have SA := fun {ρ : En} {Q : D → En → Prop} => sp_sign_of_rowB (ρ := ρ) (Q := Q) (a := lX k l m) (b := lF l m) (c := lY k l m) (d := -lG l m) (s := mS k l m) (x := x) (y := y) (z := z) (k := 260) (l := 260) (m := 128) (k1 := 390) (k2 := 261) s0 (by decide) (by decide)
        have SB := fun {ρ : En} {Q : D → En → Prop} => sp_sign_of_rowB (ρ := ρ) (Q := Q) (a := lX k l m) (b := -lF l m) (c := lY k l m) (d := lG l m) (s := mS k l m) (x := x) (y := y) (z := z) (k := 260) (l := 260) (m := 128) (k1 := 390) (k2 := 261) s0 (by decide) (by decide)
        have eA : sg (x + (y * lX k l m + z * lY k l m)) (y * lF l m + z * -lG l m) (mS k l m) = sA k l m x y z := rfl
        have eB : sg (x + (y * lX k l m + z * lY k l m)) (y * -lF l m + z * lG l m) (mS k l m) = sB k l m x y z := rfl
        rw [eA] at SA
        rw [eB] at SB
        have O1 := fun {ρ : En} {Q : D → En → Prop} => sp_in_order1 (ρ := ρ) (Q := Q) (X := lX k l m) (F := lF l m) (Y := lY k l m) (G := -lG l m) (S := mS k l m) (k := 260) s0 (by decide)
        have O2 := fun {ρ : En} {Q : D → En → Prop} => sp_in_order1 (ρ := ρ) (Q := Q) (X := lX k l m) (F := -lF l m) (Y := lY k l m) (G := lG l m) (S := mS k l m) (k := 260) s0 (by decide)
        rw [if_neg s1] at PO
        rw [if_neg s1] at hQ
        by_cases s2 : 0 < mS k l m
        · rw [if_pos s2] at PO
          rw [if_pos s2] at hQ
          have O3 := fun {ρ : En} {Q : D → En → Prop} => sp_in_order2 (ρ := ρ) (Q := Q) (X := lX k l m) (F := lF l m) (Y := lY k l m) (G := lG l m) (S := mS k l m) (k := 260) s2 (by decide)
          unfold ordL at hQ
          by_cases p1 : sA k l m x y z = 0 <;> by_cases p2 : sB k l m x y z = 0 <;>
            simp! [↓PO, ↓wp_lc, ↓wp_lc1, ↓wp_lc0, wipeE, isOwn, List.all_cons, List.all_nil, ↓wp_meth, ↓wp_methP ms_sign, ↓SA, ↓SB, p1, p2, ↓sp_in_order0, ↓O1, ↓O2, ↓O3, ↓ow_eq] <;> simpa [p1, p2] using hQ
        · rw [if_neg s2] at PO
          rw [if_neg s2] at hQ
          by_cases p1 : sA k l m x y z = 0 <;>
            simp! [↓PO, ↓wp_lc, ↓wp_lc1, ↓wp_lc0, wipeE, isOwn, List.all_cons, List.all_nil, ↓wp_meth, ↓wp_methP ms_sign, ↓SA, p1, ↓sp_in_order0, ↓O1, ↓ow_eq] <;> simpa [p1] using hQ
    rw [if_pos w]
    by_cases z : 1 + d = 0 ∧ a - e = 0
    · rw [if_pos z]
      have zz := eq_true z
      simp! [↓WF, w, ↓ow_ne, ↓SR, ↓sp_is_nought_row, zz, ↓ow_rev_tupB, List.reverse_cons, List.reverse_nil]
      exact fin (mM_ne (row2_ne z)) (r2 (row2_ne z)) ⟨rfl, rfl⟩
    · rw [if_neg z]
      simp! [↓WF, w, ↓ow_ne, ↓SR, ↓sp_is_nought_row, z]
      exact fin (mM_ne z) (r1 z) ⟨rfl, rfl⟩
  · rw [if_neg w]
    simp! [↓WF, ↓ow_ne, w, eqD_str, decide_false, Bool.not_false]
theorem sp_dead_headings {a b c d e : Rat} {ρ : En} {Q : D → En → Prop} (h : FiveN a b c d e) : wp (callV 1 m_dead_headings [five a b c d e]) ρ Q ↔ Q (.tup (deadO a b c d e)) ρ := by
  have S := fun {ρ : En} {Q : D → En → Prop} => sp_forceless (ρ := ρ) (Q := Q) h
  apply wp_eq
  unfold m_dead_headings m_dead_headingsB
  rw [wp_V]
  simp! [↓sp_check_five, ↓S]
theorem eqD_own {h : D} {x y : Rat} (w : HdU h) : eqD h (ownD x y) = true ↔ h = ownD x y := by
  obtain ⟨P, m, S, P', m', S', rfl, -⟩ := w.shape
  simp only [eqD_tup1, eqD_R, eqD_int, eqD_tup0, Bool.and_true, Bool.and_eq_true, decide_eq_true_eq]
  constructor
  · rintro ⟨⟨rfl, rfl, rfl⟩, rfl, rfl, rfl⟩; rfl
  · intro e
    injection e with e
    injection e with e1 e
    injection e with e2 _
    injection e1 with e1
    injection e1 with a1 e1
    injection e1 with a2 e1
    injection e1 with a3 _
    injection e2 with e2
    injection e2 with b1 e2
    injection e2 with b2 e2
    injection e2 with b3 _
    injection a2 with a2
    injection b2 with b2
    exact ⟨⟨Fr_inj a1, a2, Fr_inj a3⟩, Fr_inj b1, b2, Fr_inj b3⟩
theorem okq_hds {ds : List D} (w : HdL (some ds)) : okq 60 (.tup ds) = true := by
  obtain ⟨l, hh⟩ := w ds rfl
  match ds, l, hh with
  | [], _, _ => rfl
  | [h1], _, hh =>
    obtain ⟨P1, m, S, P', m', S', rfl, -⟩ := (hh h1 (by simp)).shape
    rfl
  | [h1, h2], _, hh =>
    obtain ⟨P1, m, S, P', m', S', rfl, -⟩ := (hh h1 (by simp)).shape
    obtain ⟨P2, n, T, P2', n', T', rfl, -⟩ := (hh h2 (by simp)).shape
    rfl
theorem any_own {ds : List D} {x y : Rat} (w : HdL (some ds)) : (ds.any fun z => eqD z (ownD x y)) = true ↔ ownD x y ∈ ds := by
  obtain ⟨l, hh⟩ := w ds rfl
  rw [List.any_eq_true]
  constructor
  · rintro ⟨z, hz, e⟩
    rw [← (eqD_own (hh z hz)).mp e]; exact hz
  · intro h
    exact ⟨_, h, (eqD_own (hh _ h)).mpr rfl⟩
section
variable {ds : List D} {x y : Rat} {P : D → Prop}
theorem in_own_t (w : HdL (some ds)) (h : ownD x y ∈ ds) : ow (dInT (ownD x y) (.tup ds)) P ↔ P (.bl true) := by
  refine ow_of ?_
  show (if okq 60 (ownD x y) = true ∧ okq 60 (.tup ds) = true then _ else none) = _
  rw [if_pos ⟨rfl, okq_hds w⟩, (any_own w).mpr h]
theorem notIn_own_t (w : HdL (some ds)) (h : ownD x y ∈ ds) : ow (dNotInT (ownD x y) (.tup ds)) P ↔ P (.bl false) := by
  refine ow_of ?_
  show (if okq 60 (ownD x y) = true ∧ okq 60 (.tup ds) = true then _ else none) = _
  rw [if_pos ⟨rfl, okq_hds w⟩, (any_own w).mpr h]; rfl
theorem in_own_f (w : HdL (some ds)) (h : ownD x y ∉ ds) : ow (dInT (ownD x y) (.tup ds)) P ↔ P (.bl false) := by
  refine ow_of ?_
  show (if okq 60 (ownD x y) = true ∧ okq 60 (.tup ds) = true then _ else none) = _
  have : (ds.any fun z => eqD z (ownD x y)) = false := by rw [Bool.eq_false_iff]; exact fun z => h ((any_own w).mp z)
  rw [if_pos ⟨rfl, okq_hds w⟩, this]
theorem notIn_own_f (w : HdL (some ds)) (h : ownD x y ∉ ds) : ow (dNotInT (ownD x y) (.tup ds)) P ↔ P (.bl true) := by
  refine ow_of ?_
  show (if okq 60 (ownD x y) = true ∧ okq 60 (.tup ds) = true then _ else none) = _
  have : (ds.any fun z => eqD z (ownD x y)) = false := by rw [Bool.eq_false_iff]; exact fun z => h ((any_own w).mp z)
  rw [if_pos ⟨rfl, okq_hds w⟩, this]; rfl
end
def Uq15 (c s : Rat) : Prop := ∃ M : Int, M ≠ 0 ∧ M.natAbs < 2 ^ 15 ∧ Nb c M 15 ∧ Nb s M 15
theorem Uq15.up {c s : Rat} (h : Uq15 c s) : Uq c s := by
  obtain ⟨M, h0, hM, h1, h2⟩ := h
  exact ⟨M, h0, nx_mono hM (by decide), h1.mono (by decide), h2.mono (by decide)⟩
theorem Uq15.bd {c s : Rat} (h : Uq15 c s) : Bd 15 c ∧ Bd 15 s := by
  obtain ⟨M, h0, hM, h1, h2⟩ := h
  exact ⟨h1.bd h0 hM (by decide), h2.bd h0 hM (by decide)⟩
theorem Uq15.half {u : Rat} (h : Bd 7 u) : Uq15 ((1 - u * u) / (1 + u * u)) (2 * u / (1 + u * u)) := by
  have a1 := h.n
  have a2 := h.d
  have p := u.den_pos
  have b1 : u.num.natAbs * u.num.natAbs < 2 ^ (7 + 7) := mul_lt2 a1 a1
  have b2 : u.den * u.den < 2 ^ (7 + 7) := mul_lt2 a2 a2
  have b3 : u.num.natAbs * u.den < 2 ^ (7 + 7) := mul_lt2 a1 a2
  have n1 : (u.num * u.num).natAbs = u.num.natAbs * u.num.natAbs := Int.natAbs_mul ..
  have n2 : 0 ≤ u.num * u.num := by
    rcases Int.le_total 0 u.num with z | z
    · exact Int.mul_nonneg z z
    · exact Int.mul_nonneg_of_nonpos_of_nonpos z z
  have n3 : ((u.den * u.den : Nat) : Int) = (u.den : Int) * u.den := Int.natCast_mul ..
  have n4 : 0 < u.den * u.den := Nat.mul_pos p p
  have n5 : (u.num * u.den).natAbs = u.num.natAbs * u.den := by rw [Int.natAbs_mul, Int.natAbs_natCast]
  have d0 : (u.den : Int) * u.den + u.num * u.num ≠ 0 := by omega
  obtain ⟨h1, h2⟩ := half_divInt u
  have back : ∀ n : Int, Rat.divInt n ((u.den : Int) * u.den + u.num * u.num) * (((u.den : Int) * u.den + u.num * u.num : Int) : Rat) = (n : Rat) := fun n => by
    rw [Rat.divInt_eq_div, div_mul_self2 (int_ne d0)]
  refine ⟨(u.den : Int) * u.den + u.num * u.num, d0, by omega, ⟨_, ?_, by rw [h1]; exact back _⟩, ⟨_, ?_, by rw [h2]; exact back _⟩⟩
  · omega
  · omega
theorem sp_law_some_headingV {i n : Nat} {L : List D} {ρ : En} {Q : D → En → Prop} (e : ρ[i]? = some (.own L)) (hL : Lode (n + 6) L)
    (hQ : ∀ (c s : Rat) L', Uq15 c s → c * c + s * s = 1 → Lode n L' → Q (.tup [Fr c, Fr s]) (ρ.set i (.own L'))) : wp (callO 1 m_law_some_heading i []) ρ Q := by
  unfold m_law_some_heading m_law_some_headingB
  rw [wp_O, e]
  simp! []
  refine sp_law_half rfl hL (fun L1 hL1 => ?_) fun q L1 hq hL1 => ?_
  · simp! [↓sp_law_heading_non]
    exact hQ _ _ _ ⟨1, by decide, by decide, ⟨-1, by decide, by decide +kernel⟩, ⟨0, by decide, by decide +kernel⟩⟩ (by grind) hL1
  · simp! [↓sp_law_heading (show 7 ≤ 500 by decide)]
    exact hQ _ _ _ (Uq15.half hq) (unit_half q) hL1
theorem Uq15.turn {c s a b : Rat} {A B : Int} (h : Uq15 c s) (ha : a * 5 = A) (hb : b * 5 = B) (h1 : A.natAbs ≤ 5) (h2 : B.natAbs ≤ 5) (h3 : A.natAbs + B.natAbs ≤ 7) : Uq (c * a - s * b) (c * b + s * a) := by
  obtain ⟨M, h0, hM, ⟨C, c1, c2⟩, ⟨S, s1, s2⟩⟩ := h
  have five : ((M * 5 : Int) : Rat) = (M : Rat) * 5 := Rat.intCast_mul _ _
  have bnd : ∀ (X Y : Int), X.natAbs < 2 ^ 15 → Y.natAbs < 2 ^ 15 → ∀ U V : Int, U.natAbs + V.natAbs ≤ 7 → (X * U + Y * V).natAbs < 2 ^ 18 := fun X Y hX hY U V hUV => by
    have e1 : (X * U).natAbs = X.natAbs * U.natAbs := Int.natAbs_mul ..
    have e2 : (Y * V).natAbs = Y.natAbs * V.natAbs := Int.natAbs_mul ..
    have f1 : X.natAbs * U.natAbs ≤ 32767 * U.natAbs := Nat.mul_le_mul_right _ (by omega)
    have f2 : Y.natAbs * V.natAbs ≤ 32767 * V.natAbs := Nat.mul_le_mul_right _ (by omega)
    omega
  refine ⟨M * 5, by omega, by omega, ⟨C * A + S * -B, bnd C S c1 s1 A (-B) (by omega), ?_⟩, ⟨C * B + S * A, bnd C S c1 s1 B A (by omega), ?_⟩⟩
  · rw [five, Rat.intCast_add, Rat.intCast_mul, Rat.intCast_mul, Rat.intCast_neg, ← c2, ← s2, ← ha, ← hb]; grind
  · rw [five, Rat.intCast_add, Rat.intCast_mul, Rat.intCast_mul, ← c2, ← s2, ← ha, ← hb]; grind
noncomputable def k28_loop : M Fl := (mFor (mIter (mIf (mTest (mOp dIsNot (dVar 6) (M.ret .non))) (dVar 6) (mTup (dNil)))) (gT (gsCons (gN 8) (gsCons (gN 9) (gsNil)))) (mIfS (mAndT (mTest (mOp dEq (mOp dIx (dVar 8) (M.ret (.int 1))) (M.ret (.int 0)))) (mTest (mOp dEq (mOp dIx (dVar 9) (M.ret (.int 1))) (M.ret (.int 0))))) (mIfS (mOrT (mTest (mOp dIsNot (M.bind (dCons (mTup (dCons (mOp dIx (dVar 8) (M.ret (.int 0))) (dCons (mOp dIx (dVar 9) (M.ret (.int 0))) (dNil)))) (dNil)) (callV 1 m_is_heading)) (M.ret (.bl true)))) (mTest (mOp dNe (M.bind (dCons (dVar 2) (dCons (mTup (dCons (mOp dIx (dVar 8) (M.ret (.int 0))) (dCons (mOp dIx (dVar 9) (M.ret (.int 0))) (dNil)))) (dNil))) (callV 2 m_course_at)) (dVar 4)))) (mRet (M.ret (.bl false))) (M.ret .nx)) (M.ret .nx)))
noncomputable def k28_alive : M Fl := (mSeq (mSet 6 (M.bind (dCons (dVar 4) (dCons (dVar 2) (dNil))) fun es => callK 2 0 2 [1, 0] m_headings_of [] es)) (mSeq (mSet 7 (M.bind (dCons (dVar 2) (dCons (mTup (dCons (mOp dSub (M.ret (.int 0)) (mOp dIx (dVar 4) (M.ret (.int 0)))) (dCons (mOp dSub (M.ret (.int 0)) (mOp dIx (dVar 4) (M.ret (.int 1)))) (dNil)))) (dNil))) (callV 2 m_headings_of))) (mSeq (mIfS (mOrT (mAndT (mTest (mOp dIsNot (dVar 6) (M.ret .non))) (mTest (mOp dNotInT (dVar 5) (dVar 6)))) (mAndT (mTest (mOp dIsNot (dVar 7) (M.ret .non))) (mTest (mOp dInT (dVar 5) (dVar 7))))) (mRet (M.ret (.bl false))) (M.ret .nx)) k28_loop)))
noncomputable def k28_body : M Fl := (mSeq (mPar 4 5 (dCons (M.bind (dCons (dVar 1) (dCons (dVar 2) (dNil))) fun es => callK 2 0 2 [1, 0] m_course_at [] es) (dCons (M.bind (dCons (dVar 1) (dNil)) (callV 1 m_law_as_surds)) (dNil)))) (mSeq (mIfS (mTest (mOp dNe (mCB dRepr (dCons (dVar 4) (dNil))) (mCB dRepr (dCons (M.bind (dCons (dVar 2) (dCons (dVar 1) (dNil))) (callV 2 m_law_shown)) (dNil))))) (mRet (M.ret (.bl false))) (M.ret .nx)) (mIfS (mTest (mOp dIs (dVar 4) (M.ret .non))) (mIfS (mTest (mOp dNotInT (dVar 5) (M.bind (dCons (dVar 2) (dNil)) fun es => callK 1 0 1 [0] m_dead_headings [] es))) (mRet (M.ret (.bl false))) (M.ret .nx)) k28_alive)))
theorem k28_B : m_law_right_v49B = mSeq (mPar 2 3 (dCons (mOwned 0 (M.bind (dNil) (callO 1 m_law_kind_five 0))) (dCons (mOwned 0 (M.bind (dNil) (callO 1 m_law_some_heading 0))) (dNil)))) (mSeq (mFor (mIter (mLst (dCons (dVar 3) (dCons (M.bind (dCons (dVar 3) (dCons (mTup (dCons (mTup (dCons (M.ret (.int 0)) (dCons (M.ret (.int 1)) (dNil)))) (dCons (mTup (dCons (M.ret (.int 1)) (dCons (M.ret (.int 1)) (dNil)))) (dNil)))) (dNil))) (callV 2 m_turned)) (dCons (M.bind (dCons (dVar 3) (dCons (mTup (dCons (mTup (dCons (mUn dNeg (M.ret (.int 3))) (dCons (M.ret (.int 5)) (dNil)))) (dCons (mTup (dCons (M.ret (.int 4)) (dCons (M.ret (.int 5)) (dNil)))) (dNil)))) (dNil))) (callV 2 m_turned)) (dNil)))))) (gN 1) k28_body) (mRet (M.ret (.bl true)))) := rfl
theorem k28_loop_ok {a b c d e x y : Rat} {p q : Int} {L : List D} {s1 s3 s5 s7 s8 s9 : Sl} {Q : Fl → En → Prop} (h : FiveN a b c d e) (B : ShowB a b c d e p q) (g : Int.gcd p q = 1)
    (hQ : ∀ s8 s9, Q .nx [.own L, s1, .val (five a b c d e), s3, .val (.tup [.int p, .int q]), s5, .val (optD (showO a b c d e p q)), s7, s8, s9]) :
    wp k28_loop [.own L, s1, .val (five a b c d e), s3, .val (.tup [.int p, .int q]), s5, .val (optD (showO a b c d e p q)), s7, s8, s9] Q := by
  obtain ⟨ba, bb, bc, bd, be⟩ := h.bd
  have U := showO_U B
  have R := fun {C S : Rat} {T T' : D} {ds : List D} => showO_rat (C := C) (S := S) (T := T) (T' := T') (ds := ds) B g
  generalize showO a b c d e p q = o at *
  unfold k28_loop
  cases o with
  | none =>
    simp! [optD, ↓wp_loop0]
    exact hQ _ _
  | some ds =>
    obtain ⟨l, hh⟩ := U ds rfl
    simp! [optD]
    refine wp_loop (fun es r => (∀ hd ∈ es, hd ∈ ds) ∧ ∃ s8 s9, r = [.own L, s1, .val (five a b c d e), s3, .val (.tup [.int p, .int q]), s5, .val (.tup ds), s7, s8, s9]) ⟨fun _ z => z, _, _, rfl⟩ ?_ ?_
    · rintro hd es r ⟨hes, s8, s9, rfl⟩
      have mem := hes hd List.mem_cons_self
      obtain ⟨P, m, S, P', m', S', rfl, b1, b2, b3, b4, b5, b6⟩ := (hh hd mem).shape
      by_cases c1 : m = 0
      · by_cases c2 : m' = 0
        · subst c1 c2
          obtain ⟨u, -, h0, ew⟩ := R rfl mem
          have CA := fun {ρ : En} {Q : D → En → Prop} => sp_course_at (ρ := ρ) (Q := Q) (a := a) (b := b) (c := c) (d := d) (e := e) (x := P) (y := P') (k1 := 52) (k2 := 52) (k3 := 52) (k4 := 52) (k5 := 52) (k6 := 520) (k7 := 520) (by decide) u
          rw [ahd_eq, asd_eq, ew] at CA
          simp only [if_neg h0] at CA
          simp! [↓ow_eq, ↓ow_ne, ↓sp_is_heading, u, ↓CA]
          exact ⟨fun z hz => hes z (List.mem_cons_of_mem _ hz), _, _, rfl⟩
        · simp! [↓ow_eq, c1, c2]
          exact ⟨fun z hz => hes z (List.mem_cons_of_mem _ hz), _, _, rfl⟩
      · simp! [↓ow_eq, c1]
        exact ⟨fun z hz => hes z (List.mem_cons_of_mem _ hz), _, _, rfl⟩
    · rintro r ⟨-, s8, s9, rfl⟩
      exact hQ _ _
theorem k28_body_ok {a b c d e x y : Rat} {L : List D} {s3 s4 s5 s6 s7 s8 s9 : Sl} {Q : Fl → En → Prop} (h : FiveN a b c d e) (hu : Uq x y) (u : x * x + y * y = 1)
    (hQ : ∀ s1 s4 s5 s6 s7 s8 s9, Q .nx [.own L, s1, .val (five a b c d e), s3, s4, s5, s6, s7, s8, s9]) :
    wp k28_body [.own L, .val (.tup [Fr x, Fr y]), .val (five a b c d e), s3, s4, s5, s6, s7, s8, s9] Q := by
  obtain ⟨ba, bb, bc, bd, be⟩ := h.bd
  obtain ⟨bx, by'⟩ := hu.bd
  have CA := fun {ρ : En} {Q : D → En → Prop} => sp_course_at (ρ := ρ) (Q := Q) (a := a) (b := b) (c := c) (d := d) (e := e) (x := x) (y := y) (k1 := 52) (k2 := 52) (k3 := 52) (k4 := 52) (k5 := 52) (k6 := 18) (k7 := 18) (by decide) u
  have SH := fun {ρ : En} {Q : D → En → Prop} => sp_law_shown (ρ := ρ) (Q := Q) (a := a) (b := b) (c := c) (d := d) (e := e) (x := x) (y := y) (k1 := 52) (k2 := 52) (k3 := 52) (k4 := 52) (k5 := 52) (k6 := 18) (k7 := 18) (by decide)
  rw [ahd_eq, asd_eq] at CA
  unfold k28_body
  by_cases h0 : ahd a b d e x y = 0 ∧ asd a c d e x y = 0
  · simp only [if_pos h0] at CA SH
    have w := deadO_U h
    have m := deadO_own u h0.1 h0.2
    have DH := fun {ρ : En} {Q : D → En → Prop} => sp_dead_headings (ρ := ρ) (Q := Q) h
    simp! [↓CA, ↓SH, ↓sp_law_as_surds, ↓ow_repr', ↓ow_ne, ↓DH, ↓notIn_own_t w m]
    exact hQ _ _ _ _ _ _ _
  · obtain ⟨p, q, ew, g, hp, hq, l, l0, e1, e2⟩ := shown_way h hu h0
    have ip : Ib 74 p := ⟨hp⟩
    have iq : Ib 74 q := ⟨hq⟩
    rw [ew] at CA SH
    simp only [if_neg h0] at CA SH
    have B := ShowB.of h hp hq
    have B' := ShowB.of (p := 0 - p) (q := 0 - q) h (by omega) (by omega)
    have g' : Int.gcd (0 - p) (0 - q) = 1 := by rw [Int.zero_sub, Int.zero_sub, Int.gcd_neg, Int.neg_gcd]; exact g
    have H := fun {ρ : En} {Q : D → En → Prop} => sp_headings_of (ρ := ρ) (Q := Q) B g
    have H' := fun {ρ : En} {Q : D → En → Prop} => sp_headings_of (ρ := ρ) (Q := Q) B' g'
    have o1 := showO_own u h0 l0 e1 e2
    have o2 := showO_against B' g l0 e1 e2
    have U := showO_U B
    have U' := showO_U B'
    have LP := fun {s8 s9 : Sl} {s7 s5 : Sl} {Q : Fl → En → Prop} => k28_loop_ok (x := x) (y := y) (L := L) (s1 := .val (.tup [Fr x, Fr y])) (s3 := s3) (s5 := s5) (s7 := s7) (s8 := s8) (s9 := s9) (Q := Q) h B g
    unfold k28_alive
    generalize showO a b c d e p q = oo at *
    generalize showO a b c d e ((0 - p : Int) : Rat) ((0 - q : Int) : Rat) = oo' at *
    cases oo with
    | none =>
      cases oo' with
      | none =>
        simp! [↓CA, ↓SH, ↓sp_law_as_surds, ↓ow_repr', ↓ow_ne, ↓H, ↓H', optD]
        exact LP fun _ _ => hQ _ _ _ _ _ _ _
      | some ds' =>
        simp! [↓CA, ↓SH, ↓sp_law_as_surds, ↓ow_repr', ↓ow_ne, ↓H, ↓H', optD, ↓in_own_f U' (o2 ds' rfl)]
        exact LP fun _ _ => hQ _ _ _ _ _ _ _
    | some ds =>
      cases oo' with
      | none =>
        simp! [↓CA, ↓SH, ↓sp_law_as_surds, ↓ow_repr', ↓ow_ne, ↓H, ↓H', optD, ↓notIn_own_t U (o1 ds rfl)]
        exact LP fun _ _ => hQ _ _ _ _ _ _ _
      | some ds' =>
        simp! [↓CA, ↓SH, ↓sp_law_as_surds, ↓ow_repr', ↓ow_ne, ↓H, ↓H', optD, ↓notIn_own_t U (o1 ds rfl), ↓in_own_f U' (o2 ds' rfl)]
        exact LP fun _ _ => hQ _ _ _ _ _ _ _
theorem R_threefifths : (.tup [.int (-3), .int 5] : D) = Fr (-3 / 5) := by
  have h1 : (-3 / 5 : Rat).num = -3 := by decide +kernel
  have h2 : (-3 / 5 : Rat).den = 5 := by decide +kernel
  unfold Fr; rw [h1, h2]; rfl
theorem R_fourfifths : (.tup [.int 4, .int 5] : D) = Fr (4 / 5) := by
  have h1 : (4 / 5 : Rat).num = 4 := by decide +kernel
  have h2 : (4 / 5 : Rat).den = 5 := by decide +kernel
  unfold Fr; rw [h1, h2]; rfl
theorem sp_law_right_k28 {L : List D} {ρ : En} {Q : D → En → Prop} (hL : Lode 1000 L) (hQ : Q (.bl true) ρ) : wp (callN 1 m_law_right_v49 L) ρ Q := by
  unfold m_law_right_v49
  rw [k28_B, wp_N, wp_seq]
  simp! []
  refine sp_law_kind_fiveU (n := 900) rfl (hL.mono (by decide)) fun a b c d e L1 hf hL1 => ?_
  simp! []
  refine sp_law_some_headingV (n := 800) rfl (hL1.mono (by decide)) fun x y L2 hu u hL2 => ?_
  obtain ⟨bx, by'⟩ := hu.bd
  have u1 : (0 : Rat) * 0 + 1 * 1 = 1 := by decide +kernel
  have u2 : (-3 / 5 : Rat) * (-3 / 5) + 4 / 5 * (4 / 5) = 1 := by decide +kernel
  have T1 := hu.turn (a := 0) (b := 1) (A := 0) (B := 5) (by decide +kernel) (by decide +kernel) (by decide) (by decide) (by decide)
  have T2 := hu.turn (a := -3 / 5) (b := 4 / 5) (A := -3) (B := 4) (by decide +kernel) (by decide +kernel) (by decide) (by decide) (by decide)
  have b3 : Bd 4 (-3 / 5 : Rat) := ⟨by decide +kernel, by decide +kernel⟩
  have b4 : Bd 4 (4 / 5 : Rat) := ⟨by decide +kernel, by decide +kernel⟩
  have TU1 := fun {ρ : En} {Q : D → En → Prop} => sp_turned (ρ := ρ) (Q := Q) (a1 := x) (a2 := y) (b1 := 0) (b2 := 1) (k1 := 15) (k2 := 15) (k3 := 1) (k4 := 1) (by decide) u u1
  have TU2 := fun {ρ : En} {Q : D → En → Prop} => sp_turned (ρ := ρ) (Q := Q) (a1 := x) (a2 := y) (b1 := -3 / 5) (b2 := 4 / 5) (k1 := 15) (k2 := 15) (k3 := 4) (k4 := 4) (by decide) u u2
  simp! [R_zero, R_one, R_threefifths, R_fourfifths, ↓TU1, ↓TU2]
  refine wp_loop (fun ds r => (∀ w ∈ ds, ∃ x y : Rat, w = .tup [Fr x, Fr y] ∧ Uq x y ∧ x * x + y * y = 1) ∧ ∃ L s1 s3 s4 s5 s6 s7 s8 s9, r = [.own L, s1, .val (five a b c d e), s3, s4, s5, s6, s7, s8, s9]) ⟨?_, _, _, _, _, _, _, _, _, _, rfl⟩ ?_ ?_
  · intro w hw
    simp only [List.mem_cons, List.not_mem_nil, or_false] at hw
    rcases hw with rfl | rfl | rfl
    · exact ⟨x, y, rfl, hu.up, u⟩
    · exact ⟨_, _, rfl, T1, by grind⟩
    · exact ⟨_, _, rfl, T2, by grind⟩
  · rintro w ds r ⟨hd, L, s1, s3, s4, s5, s6, s7, s8, s9, rfl⟩
    obtain ⟨x, y, rfl, hu, u⟩ := hd w List.mem_cons_self
    simp! []
    refine k28_body_ok hf hu u fun s1 s4 s5 s6 s7 s8 s9 => ?_
    simp! []
    exact ⟨fun z hz => hd z (List.mem_cons_of_mem _ hz), _, _, _, _, _, _, _, _, _, rfl⟩
  · rintro r ⟨-, L, s1, s3, s4, s5, s6, s7, s8, s9, rfl⟩
    simp! []
    exact hQ
theorem good_k28 : Good 63 m_law_v49 := good_23 fun L ρ Q hL hQ => sp_law_right_k28 (hL.mono (by decide)) hQ
end PB
namespace PV
open PySem PySem.Spec PyProof.Rows L2
variable {P : Program} {w : World} {K : PySem.W.Frag} {mg : Str → Option Value} {base : Heap}
theorem sc__law_gcd : FnScope N__law_gcd ["_law_one", "_law_two"] (defScope s__law_gcd) := ⟨rfl, rfl, rfl, by decide +kernel, rfl, by decide +kernel, by decide +kernel⟩
theorem w__law_gcd (T : Tp K mg) : Walk P w K mg base "_law_gcd" s__law_gcd 0 N__law_gcd [] m_law_gcdB := fun fa cdv A outer s H E Fi => b_cons (s_par 0 1 rfl Fi.nd (l_cons (e_callB call_abs abs_d rfl (T.free 4) boot_abs (l_cons (e_var 0) (l_nil))) (l_cons (e_callB call_abs abs_d rfl (T.free 4) boot_abs (l_cons (e_var 1) (l_nil))) (l_nil)))) (b_cons (s_while Fi.hp (t_cmp op_gt gt_d (e_var 1) (e_int) (nomark _)) (b_one (s_par 0 1 rfl Fi.nd (l_cons (e_var 1) (l_cons (e_bin op_modN mod_d (e_callTy call_int1 int_d rfl (T.free 5) boot_int (l_cons (e_var 0) (l_nil))) (e_var 1)) (l_nil)))))) (b_one (s_ret (e_var 0))))
theorem ok__law_gcd (T : Tp K mg) : DefV P w K mg base "_law_gcd" s__law_gcd 1 ["_law_one", "_law_two"] m_law_gcd := defV_mk (T.glo 6) (T.fd 0 (d := dd__law_gcd)) sc__law_gcd (fun _ _ _ _ _ _ us hl => match us, hl with | [_, _], _ => rfl) rfl (w__law_gcd T)
theorem sc__law_low : FnScope N__law_low ["_law_numbers"] (defScope s__law_low) := ⟨rfl, rfl, rfl, by decide +kernel, rfl, by decide +kernel, by decide +kernel⟩
theorem w__law_low (T : Tp K mg) : Walk P w K mg base "_law_low" s__law_low 1 N__law_low [] m_law_lowB := fun fa cdv A outer s H E Fi => b_cons (s_set 1 Fi.nd (e_int)) (b_cons (s_for Fi.hp rfl (i_seq (e_var 0)) (g_name 2 Fi.nd) (b_one (s_set 1 Fi.nd (e_callV (ok__law_gcd T) Fi.hr Fi.hg Fi.tw rfl (l_cons (e_var 1) (l_cons (e_var 2) (l_nil))))))) (b_one (s_ret (e_callTy call_tuple_of tuple_d rfl (T.free 7) boot_tuple (l_cons (e_new (n_lc (n := 3) (fx' := [0, 1]) (own := [("_law_each", 2)]) rfl Fi.nd (i_seq (e_var 0)) (⟨rfl, by decide +kernel, by decide +kernel, by decide +kernel, by decide +kernel⟩ : BlkOk N__law_low (defScope s__law_low) _ [("_law_each", 2)]) (fun _ _ _ _ _ => g_name 2 Fi.nd) (fun _ _ _ _ _ => if_nil) (fun _ _ _ _ _ => e_bin op_divG div_d (e_var 2) (e_var 1)) (by decide))) (l_nil))))))
theorem ok__law_low (T : Tp K mg) : DefV P w K mg base "_law_low" s__law_low 2 ["_law_numbers"] m_law_low := defV_mk (T.glo 8) (T.fd 1 (d := dd__law_low)) sc__law_low (fun _ _ _ _ _ _ us hl => match us, hl with | [_], _ => rfl) rfl (w__law_low T)
theorem sc__law_part : FnScope N__law_part ["_law_top", "_law_deep"] (defScope s__law_part) := ⟨rfl, rfl, rfl, by decide +kernel, rfl, by decide +kernel, by decide +kernel⟩
theorem w__law_part (T : Tp K mg) : Walk P w K mg base "_law_part" s__law_part 2 N__law_part [] m_law_partB := fun fa cdv A outer s H E Fi => b_one (s_ret (e_callV (ok__law_low T) Fi.hr Fi.hg Fi.tw rfl (l_cons (e_if (t_cmp op_gt gt_d (e_var 1) (e_int) (nomark _)) (e_tup (l_cons (e_var 0) (l_cons (e_var 1) (l_nil))) (len_cons (len_cons len_nil))) (e_tup (l_cons (e_bin op_sub sub_d (e_int) (e_var 0)) (l_cons (e_bin op_sub sub_d (e_int) (e_var 1)) (l_nil))) (len_cons (len_cons len_nil)))) (l_nil))))
theorem ok__law_part (T : Tp K mg) : DefV P w K mg base "_law_part" s__law_part 3 ["_law_top", "_law_deep"] m_law_part := defV_mk (T.glo 9) (T.fd 2 (d := dd__law_part)) sc__law_part (fun _ _ _ _ _ _ us hl => match us, hl with | [_, _], _ => rfl) rfl (w__law_part T)
theorem sc__law_mul : FnScope N__law_mul ["_law_one", "_law_two"] (defScope s__law_mul) := ⟨rfl, rfl, rfl, by decide +kernel, rfl, by decide +kernel, by decide +kernel⟩
theorem w__law_mul (T : Tp K mg) : Walk P w K mg base "_law_mul" s__law_mul 3 N__law_mul [] m_law_mulB := fun fa cdv A outer s H E Fi => b_one (s_ret (e_callV (ok__law_part T) Fi.hr Fi.hg Fi.tw rfl (l_cons (e_bin op_mulA mul_d (e_ix ix_A ix_d (e_var 0) (e_int) (by intro _ _; rfl)) (e_ix ix_A ix_d (e_var 1) (e_int) (by intro _ _; rfl))) (l_cons (e_bin op_mulA mul_d (e_ix ix_A ix_d (e_var 0) (e_int) (by intro _ _; rfl)) (e_ix ix_A ix_d (e_var 1) (e_int) (by intro _ _; rfl))) (l_nil)))))
theorem ok__law_mul (T : Tp K mg) : DefV P w K mg base "_law_mul" s__law_mul 4 ["_law_one", "_law_two"] m_law_mul := defV_mk (T.glo 10) (T.fd 3 (d := dd__law_mul)) sc__law_mul (fun _ _ _ _ _ _ us hl => match us, hl with | [_, _], _ => rfl) rfl (w__law_mul T)
theorem sc__law_add : FnScope N__law_add ["_law_one", "_law_two"] (defScope s__law_add) := ⟨rfl, rfl, rfl, by decide +kernel, rfl, by decide +kernel, by decide +kernel⟩
theorem w__law_add (T : Tp K mg) : Walk P w K mg base "_law_add" s__law_add 3 N__law_add [] m_law_addB := fun fa cdv A outer s H E Fi => b_one (s_ret (e_callV (ok__law_part T) Fi.hr Fi.hg Fi.tw rfl (l_cons (e_bin op_addA add_d (e_bin op_mulA mul_d (e_ix ix_A ix_d (e_var 0) (e_int) (by intro _ _; rfl)) (e_ix ix_A ix_d (e_var 1) (e_int) (by intro _ _; rfl))) (e_bin op_mulA mul_d (e_ix ix_A ix_d (e_var 1) (e_int) (by intro _ _; rfl)) (e_ix ix_A ix_d (e_var 0) (e_int) (by intro _ _; rfl)))) (l_cons (e_bin op_mulA mul_d (e_ix ix_A ix_d (e_var 0) (e_int) (by intro _ _; rfl)) (e_ix ix_A ix_d (e_var 1) (e_int) (by intro _ _; rfl))) (l_nil)))))
theorem ok__law_add (T : Tp K mg) : DefV P w K mg base "_law_add" s__law_add 4 ["_law_one", "_law_two"] m_law_add := defV_mk (T.glo 11) (T.fd 4 (d := dd__law_add)) sc__law_add (fun _ _ _ _ _ _ us hl => match us, hl with | [_, _], _ => rfl) rfl (w__law_add T)
theorem sc__law_div : FnScope N__law_div ["_law_one", "_law_two"] (defScope s__law_div) := ⟨rfl, rfl, rfl, by decide +kernel, rfl, by decide +kernel, by decide +kernel⟩
theorem w__law_div (T : Tp K mg) : Walk P w K mg base "_law_div" s__law_div 3 N__law_div [] m_law_divB := fun fa cdv A outer s H E Fi => b_one (s_ret (e_callV (ok__law_part T) Fi.hr Fi.hg Fi.tw rfl (l_cons (e_bin op_mulA mul_d (e_ix ix_A ix_d (e_var 0) (e_int) (by intro _ _; rfl)) (e_ix ix_A ix_d (e_var 1) (e_int) (by intro _ _; rfl))) (l_cons (e_bin op_mulA mul_d (e_ix ix_A ix_d (e_var 0) (e_int) (by intro _ _; rfl)) (e_ix ix_A ix_d (e_var 1) (e_int) (by intro _ _; rfl))) (l_nil)))))
theorem ok__law_div (T : Tp K mg) : DefV P w K mg base "_law_div" s__law_div 4 ["_law_one", "_law_two"] m_law_div := defV_mk (T.glo 12) (T.fd 5 (d := dd__law_div)) sc__law_div (fun _ _ _ _ _ _ us hl => match us, hl with | [_, _], _ => rfl) rfl (w__law_div T)
theorem sc__law_gap : FnScope N__law_gap ["_law_one", "_law_two"] (defScope s__law_gap) := ⟨rfl, rfl, rfl, by decide +kernel, rfl, by decide +kernel, by decide +kernel⟩
theorem w__law_gap (T : Tp K mg) : Walk P w K mg base "_law_gap" s__law_gap 3 N__law_gap [] m_law_gapB := fun fa cdv A outer s H E Fi => b_one (s_ret (e_callV (ok__law_part T) Fi.hr Fi.hg Fi.tw rfl (l_cons (e_bin op_sub sub_d (e_bin op_mulA mul_d (e_ix ix_A ix_d (e_var 0) (e_int) (by intro _ _; rfl)) (e_ix ix_A ix_d (e_var 1) (e_int) (by intro _ _; rfl))) (e_bin op_mulA mul_d (e_ix ix_A ix_d (e_var 1) (e_int) (by intro _ _; rfl)) (e_ix ix_A ix_d (e_var 0) (e_int) (by intro _ _; rfl)))) (l_cons (e_bin op_mulA mul_d (e_ix ix_A ix_d (e_var 0) (e_int) (by intro _ _; rfl)) (e_ix ix_A ix_d (e_var 1) (e_int) (by intro _ _; rfl))) (l_nil)))))
theorem ok__law_gap (T : Tp K mg) : DefV P w K mg base "_law_gap" s__law_gap 4 ["_law_one", "_law_two"] m_law_gap := defV_mk (T.glo 13) (T.fd 6 (d := dd__law_gap)) sc__law_gap (fun _ _ _ _ _ _ us hl => match us, hl with | [_, _], _ => rfl) rfl (w__law_gap T)
theorem sc__law_heading : FnScope N__law_heading ["_law_half_here"] (defScope s__law_heading) := ⟨rfl, rfl, rfl, by decide +kernel, rfl, by decide +kernel, by decide +kernel⟩
theorem w__law_heading (T : Tp K mg) : Walk P w K mg base "_law_heading" s__law_heading 4 N__law_heading [] m_law_headingB := fun fa cdv A outer s H E Fi => b_cons (s_if (t_cmp op_isA is_d (e_var 0) (e_non) (nomark _)) (b_one (s_ret (e_tup (l_cons (e_tup (l_cons (e_un un_neg neg_d (e_int)) (l_cons (e_int) (l_nil))) (len_cons (len_cons len_nil))) (l_cons (e_tup (l_cons (e_int) (l_cons (e_int) (l_nil))) (len_cons (len_cons len_nil))) (l_nil))) (len_cons (len_cons len_nil))))) (b_nil)) (b_cons (s_set 1 Fi.nd (e_callV (ok__law_mul T) Fi.hr Fi.hg Fi.tw rfl (l_cons (e_var 0) (l_cons (e_var 0) (l_nil))))) (b_cons (s_set 2 Fi.nd (e_callV (ok__law_add T) Fi.hr Fi.hg Fi.tw rfl (l_cons (e_tup (l_cons (e_int) (l_cons (e_int) (l_nil))) (len_cons (len_cons len_nil))) (l_cons (e_var 1) (l_nil))))) (b_one (s_ret (e_tup (l_cons (e_callV (ok__law_div T) Fi.hr Fi.hg Fi.tw rfl (l_cons (e_callV (ok__law_gap T) Fi.hr Fi.hg Fi.tw rfl (l_cons (e_tup (l_cons (e_int) (l_cons (e_int) (l_nil))) (len_cons (len_cons len_nil))) (l_cons (e_var 1) (l_nil)))) (l_cons (e_var 2) (l_nil)))) (l_cons (e_callV (ok__law_div T) Fi.hr Fi.hg Fi.tw rfl (l_cons (e_callV (ok__law_mul T) Fi.hr Fi.hg Fi.tw rfl (l_cons (e_tup (l_cons (e_int) (l_cons (e_int) (l_nil))) (len_cons (len_cons len_nil))) (l_cons (e_var 0) (l_nil)))) (l_cons (e_var 2) (l_nil)))) (l_nil))) (len_cons (len_cons len_nil)))))))
theorem ok__law_heading (T : Tp K mg) : DefV P w K mg base "_law_heading" s__law_heading 5 ["_law_half_here"] m_law_heading := defV_mk (T.glo 14) (T.fd 7 (d := dd__law_heading)) sc__law_heading (fun _ _ _ _ _ _ us hl => match us, hl with | [_], _ => rfl) rfl (w__law_heading T)
theorem sc__law_deal : FnScope N__law_deal ["_law_lode_here", "_law_many"] (defScope s__law_deal) := ⟨rfl, rfl, rfl, by decide +kernel, rfl, by decide +kernel, by decide +kernel⟩
theorem w__law_deal (T : Tp K mg) : Walk P w K mg base "_law_deal" s__law_deal 0 N__law_deal [0] m_law_dealB := fun fa cdv A outer s H E Fi => b_cons (s_if (t_cmp op_gt gt_d (e_ixO 0 (pv 0) (e_int) (by intro _ _; rfl)) (e_int) (nomark _)) (b_cons (s_asg (e_callB call_divmodW divmod_d rfl (T.free 15) boot_divmod (l_cons (e_ixO 0 (pv 0) (e_int) (by intro _ _; rfl)) (l_cons (e_var 1) (l_nil)))) (g_tup rfl (gs_cons (g_sub 0 (pv 0) (e_int)) (gs_cons (g_name 3 Fi.nd) (gs_nil))) (hg := gn_cons (gSub_noer _ _) (gn_cons (gN_noer _) (gn_nil))))) (b_one (s_ret (e_var 3)))) (b_nil)) (b_cons (s_asg (e_bin op_addA add_d (e_ixO 0 (pv 0) (e_int) (by intro _ _; rfl)) (e_int)) (g_sub 0 (pv 0) (e_int))) (b_cons (s_set 2 Fi.nd (e_bin op_addA add_d (e_bin op_modN mod_d (e_callTy call_int1 int_d rfl (T.free 5) boot_int (l_cons (e_ixO 0 (pv 0) (e_int) (by intro _ _; rfl)) (l_nil))) (e_int)) (e_int))) (b_cons (s_asg (e_bin op_modN mod_d (e_callTy call_int1 int_d rfl (T.free 5) boot_int (l_cons (e_bin op_addA add_d (e_bin op_addA add_d (e_bin op_mulA mul_d (e_ixO 0 (pv 0) (e_int) (by intro _ _; rfl)) (e_var 2)) (e_bin op_mulA mul_d (e_int) (e_ixO 0 (pv 0) (e_int) (by intro _ _; rfl)))) (e_int)) (l_nil))) (e_int)) (g_sub 0 (pv 0) (e_int))) (b_one (s_ret (e_bin op_modN mod_d (e_callTy call_int1 int_d rfl (T.free 5) boot_int (l_cons (e_bin op_divG div_d (e_ixO 0 (pv 0) (e_int) (by intro _ _; rfl)) (e_int)) (l_nil))) (e_var 1)))))))
theorem ok__law_deal (T : Tp K mg) : DefV P w K mg base "_law_deal" s__law_deal 1 ["_law_lode_here", "_law_many"] m_law_deal := defV_mk (T.glo 16) (T.fd 8 (d := dd__law_deal)) sc__law_deal (fun _ _ _ _ _ _ us hl => match us, hl with | [_, _], _ => rfl) rfl (w__law_deal T)
theorem sc__law_some : FnScope N__law_some ["_law_lode_here", "_law_some_here"] (defScope s__law_some) := ⟨rfl, rfl, rfl, by decide +kernel, rfl, by decide +kernel, by decide +kernel⟩
theorem w__law_some (T : Tp K mg) : Walk P w K mg base "_law_some" s__law_some 1 N__law_some [0] m_law_someB := fun fa cdv A outer s H E Fi => b_one (s_ret (e_ix ix_A ix_d (e_var 1) (e_callO 0 (ok__law_deal T) Fi.hr Fi.hg Fi.tw rfl (pv 0) (l_cons (e_callB call_lenA len_d rfl (T.free 0) boot_len (l_cons (e_var 1) (l_nil))) (l_nil))) (by intro _ _; rfl)))
theorem ok__law_some (T : Tp K mg) : DefV P w K mg base "_law_some" s__law_some 2 ["_law_lode_here", "_law_some_here"] m_law_some := defV_mk (T.glo 17) (T.fd 9 (d := dd__law_some)) sc__law_some (fun _ _ _ _ _ _ us hl => match us, hl with | [_, _], _ => rfl) rfl (w__law_some T)
theorem sc__law_about : FnScope N__law_about ["_law_lode_here", "_law_wide"] (defScope s__law_about) := ⟨rfl, rfl, rfl, by decide +kernel, rfl, by decide +kernel, by decide +kernel⟩
theorem w__law_about (T : Tp K mg) : Walk P w K mg base "_law_about" s__law_about 1 N__law_about [0] m_law_aboutB := fun fa cdv A outer s H E Fi => b_cons (s_if (t_cmp op_lt lt_d (e_var 1) (e_bin op_pow pow_d (e_int) (e_int)) (nomark _)) (b_one (s_ret (e_bin op_sub sub_d (e_callO 0 (ok__law_deal T) Fi.hr Fi.hg Fi.tw rfl (pv 0) (l_cons (e_bin op_addA add_d (e_bin op_mulA mul_d (e_int) (e_var 1)) (e_int)) (l_nil))) (e_var 1)))) (b_nil)) (b_cons (s_set 2 Fi.nd (e_callO 0 (ok__law_deal T) Fi.hr Fi.hg Fi.tw rfl (pv 0) (l_cons (e_int) (l_nil)))) (b_one (s_ret (e_bin op_sub sub_d (e_bin op_modN mod_d (e_callTy call_int1 int_d rfl (T.free 5) boot_int (l_cons (e_bin op_addA add_d (e_bin op_mulA mul_d (e_var 2) (e_int)) (e_callO 0 (ok__law_deal T) Fi.hr Fi.hg Fi.tw rfl (pv 0) (l_cons (e_int) (l_nil)))) (l_nil))) (e_bin op_addA add_d (e_bin op_mulA mul_d (e_int) (e_var 1)) (e_int))) (e_var 1)))))
theorem ok__law_about (T : Tp K mg) : DefV P w K mg base "_law_about" s__law_about 2 ["_law_lode_here", "_law_wide"] m_law_about := defV_mk (T.glo 18) (T.fd 10 (d := dd__law_about)) sc__law_about (fun _ _ _ _ _ _ us hl => match us, hl with | [_, _], _ => rfl) rfl (w__law_about T)
theorem sc__law_any_part : FnScope N__law_any_part ["_law_lode_here", "_law_wide"] (defScope s__law_any_part) := ⟨rfl, rfl, rfl, by decide +kernel, rfl, by decide +kernel, by decide +kernel⟩
theorem w__law_any_part (T : Tp K mg) : Walk P w K mg base "_law_any_part" s__law_any_part 3 N__law_any_part [0] m_law_any_partB := fun fa cdv A outer s H E Fi => b_one (s_ret (e_callV (ok__law_part T) Fi.hr Fi.hg Fi.tw rfl (l_cons (e_callO 0 (ok__law_about T) Fi.hr Fi.hg Fi.tw rfl (pv 0) (l_cons (e_var 1) (l_nil))) (l_cons (e_bin op_addA add_d (e_int) (e_callO 0 (ok__law_deal T) Fi.hr Fi.hg Fi.tw rfl (pv 0) (l_cons (e_callO 0 (ok__law_some T) Fi.hr Fi.hg Fi.tw rfl (pv 0) (l_cons (e_new (n_lst (l_cons (e_int) (l_cons (e_int) (l_cons (e_int) (l_cons (e_int) (l_cons (e_int) (l_cons (e_callB (call_min2 rfl) min_d rfl (T.free 1) boot_min (l_cons (e_var 1) (l_cons (e_bin op_pow pow_d (e_int) (e_int)) (l_nil)))) (l_nil))))))) (len_cons (len_cons (len_cons (len_cons (len_cons (len_cons len_nil)))))))) (l_nil))) (l_nil)))) (l_nil)))))
theorem ok__law_any_part (T : Tp K mg) : DefV P w K mg base "_law_any_part" s__law_any_part 4 ["_law_lode_here", "_law_wide"] m_law_any_part := defV_mk (T.glo 19) (T.fd 11 (d := dd__law_any_part)) sc__law_any_part (fun _ _ _ _ _ _ us hl => match us, hl with | [_, _], _ => rfl) rfl (w__law_any_part T)
theorem sc__law_half : FnScope N__law_half ["_law_lode_here"] (defScope s__law_half) := ⟨rfl, rfl, rfl, by decide +kernel, rfl, by decide +kernel, by decide +kernel⟩
theorem w__law_half (T : Tp K mg) : Walk P w K mg base "_law_half" s__law_half 4 N__law_half [0] m_law_halfB := fun fa cdv A outer s H E Fi => b_cons (s_set 1 Fi.nd (e_callO 0 (ok__law_some T) Fi.hr Fi.hg Fi.tw rfl (pv 0) (l_cons (e_new (n_lst (l_cons (e_int) (l_cons (e_int) (l_cons (e_int) (l_cons (e_int) (l_cons (e_int) (l_nil)))))) (len_cons (len_cons (len_cons (len_cons (len_cons len_nil))))))) (l_nil)))) (b_one (s_ret (e_if (t_cmp (op_eqA Fi.un) eq_d (e_callO 0 (ok__law_deal T) Fi.hr Fi.hg Fi.tw rfl (pv 0) (l_cons (e_int) (l_nil))) (e_int) (nomark _)) (e_callO 0 (ok__law_some T) Fi.hr Fi.hg Fi.tw rfl (pv 0) (l_cons (e_new (n_lst (l_cons (e_non) (l_cons (e_tup (l_cons (e_int) (l_cons (e_int) (l_nil))) (len_cons (len_cons len_nil))) (l_cons (e_tup (l_cons (e_int) (l_cons (e_int) (l_nil))) (len_cons (len_cons len_nil))) (l_cons (e_tup (l_cons (e_un un_neg neg_d (e_int)) (l_cons (e_int) (l_nil))) (len_cons (len_cons len_nil))) (l_nil))))) (len_cons (len_cons (len_cons (len_cons len_nil)))))) (l_nil))) (e_callO 0 (ok__law_any_part T) Fi.hr Fi.hg Fi.tw rfl (pv 0) (l_cons (e_var 1) (l_nil))))))
theorem ok__law_half (T : Tp K mg) : DefV P w K mg base "_law_half" s__law_half 5 ["_law_lode_here"] m_law_half := defV_mk (T.glo 20) (T.fd 12 (d := dd__law_half)) sc__law_half (fun _ _ _ _ _ _ us hl => match us, hl with | [_], _ => rfl) rfl (w__law_half T)
theorem sc__law_some_heading : FnScope N__law_some_heading ["_law_lode_here"] (defScope s__law_some_heading) := ⟨rfl, rfl, rfl, by decide +kernel, rfl, by decide +kernel, by decide +kernel⟩
theorem w__law_some_heading (T : Tp K mg) : Walk P w K mg base "_law_some_heading" s__law_some_heading 5 N__law_some_heading [0] m_law_some_headingB := fun fa cdv A outer s H E Fi => b_one (s_ret (e_callV (ok__law_heading T) Fi.hr Fi.hg Fi.tw rfl (l_cons (e_callO 0 (ok__law_half T) Fi.hr Fi.hg Fi.tw rfl (pv 0) (l_nil)) (l_nil))))
theorem ok__law_some_heading (T : Tp K mg) : DefV P w K mg base "_law_some_heading" s__law_some_heading 6 ["_law_lode_here"] m_law_some_heading := defV_mk (T.glo 21) (T.fd 13 (d := dd__law_some_heading)) sc__law_some_heading (fun _ _ _ _ _ _ us hl => match us, hl with | [_], _ => rfl) rfl (w__law_some_heading T)
theorem sc__law_turn : FnScope N__law_turn ["_law_one", "_law_two"] (defScope s__law_turn) := ⟨rfl, rfl, rfl, by decide +kernel, rfl, by decide +kernel, by decide +kernel⟩
theorem w__law_turn (T : Tp K mg) : Walk P w K mg base "_law_turn" s__law_turn 4 N__law_turn [] m_law_turnB := fun fa cdv A outer s H E Fi => b_one (s_ret (e_tup (l_cons (e_callV (ok__law_gap T) Fi.hr Fi.hg Fi.tw rfl (l_cons (e_callV (ok__law_mul T) Fi.hr Fi.hg Fi.tw rfl (l_cons (e_ix ix_A ix_d (e_var 0) (e_int) (by intro _ _; rfl)) (l_cons (e_ix ix_A ix_d (e_var 1) (e_int) (by intro _ _; rfl)) (l_nil)))) (l_cons (e_callV (ok__law_mul T) Fi.hr Fi.hg Fi.tw rfl (l_cons (e_ix ix_A ix_d (e_var 0) (e_int) (by intro _ _; rfl)) (l_cons (e_ix ix_A ix_d (e_var 1) (e_int) (by intro _ _; rfl)) (l_nil)))) (l_nil)))) (l_cons (e_callV (ok__law_add T) Fi.hr Fi.hg Fi.tw rfl (l_cons (e_callV (ok__law_mul T) Fi.hr Fi.hg Fi.tw rfl (l_cons (e_ix ix_A ix_d (e_var 0) (e_int) (by intro _ _; rfl)) (l_cons (e_ix ix_A ix_d (e_var 1) (e_int) (by intro _ _; rfl)) (l_nil)))) (l_cons (e_callV (ok__law_mul T) Fi.hr Fi.hg Fi.tw rfl (l_cons (e_ix ix_A ix_d (e_var 0) (e_int) (by intro _ _; rfl)) (l_cons (e_ix ix_A ix_d (e_var 1) (e_int) (by intro _ _; rfl)) (l_nil)))) (l_nil)))) (l_nil))) (len_cons (len_cons len_nil))))
theorem ok__law_turn (T : Tp K mg) : DefV P w K mg base "_law_turn" s__law_turn 5 ["_law_one", "_law_two"] m_law_turn := defV_mk (T.glo 22) (T.fd 14 (d := dd__law_turn)) sc__law_turn (fun _ _ _ _ _ _ us hl => match us, hl with | [_, _], _ => rfl) rfl (w__law_turn T)
theorem sc__law_flat_five : FnScope N__law_flat_five ["_law_lode_here"] (defScope s__law_flat_five) := ⟨rfl, rfl, rfl, by decide +kernel, rfl, by decide +kernel, by decide +kernel⟩
theorem w__law_flat_five (T : Tp K mg) : Walk P w K mg base "_law_flat_five" s__law_flat_five 6 N__law_flat_five [0] m_law_flat_fiveB := fun fa cdv A outer s H E Fi => b_cons (s_par3 4 5 6 rfl Fi.nd (l_cons (e_callO 0 (ok__law_any_part T) Fi.hr Fi.hg Fi.tw rfl (pv 0) (l_cons (e_int) (l_nil))) (l_cons (e_callO 0 (ok__law_some_heading T) Fi.hr Fi.hg Fi.tw rfl (pv 0) (l_nil)) (l_cons (e_callO 0 (ok__law_any_part T) Fi.hr Fi.hg Fi.tw rfl (pv 0) (l_cons (e_callO 0 (ok__law_some T) Fi.hr Fi.hg Fi.tw rfl (pv 0) (l_cons (e_new (n_lst (l_cons (e_int) (l_cons (e_int) (l_cons (e_int) (l_nil)))) (len_cons (len_cons (len_cons len_nil))))) (l_nil))) (l_nil))) (l_nil))))) (b_cons (s_set 1 Fi.nd (e_callV (ok__law_turn T) Fi.hr Fi.hg Fi.tw rfl (l_cons (e_var 5) (l_cons (e_var 5) (l_nil))))) (b_cons (s_if (t_cmp (op_eqA Fi.un) eq_d (e_callO 0 (ok__law_deal T) Fi.hr Fi.hg Fi.tw rfl (pv 0) (l_cons (e_int) (l_nil))) (e_int) (nomark _)) (b_one (s_par 4 6 rfl Fi.nd (l_cons (e_tup (l_cons (e_int) (l_cons (e_int) (l_nil))) (len_cons (len_cons len_nil))) (l_cons (e_callO 0 (ok__law_some T) Fi.hr Fi.hg Fi.tw rfl (pv 0) (l_cons (e_new (n_lst (l_cons (e_tup (l_cons (e_int) (l_cons (e_int) (l_nil))) (len_cons (len_cons len_nil))) (l_cons (e_tup (l_cons (e_un un_neg neg_d (e_int)) (l_cons (e_int) (l_nil))) (len_cons (len_cons len_nil))) (l_cons (e_tup (l_cons (e_int) (l_cons (e_int) (l_nil))) (len_cons (len_cons len_nil))) (l_nil)))) (len_cons (len_cons (len_cons len_nil))))) (l_nil))) (l_nil))))) (b_nil)) (b_cons (s_set 2 Fi.nd (e_callV (ok__law_add T) Fi.hr Fi.hg Fi.tw rfl (l_cons (e_ix ix_A ix_d (e_var 1) (e_int) (by intro _ _; rfl)) (l_cons (e_callV (ok__law_mul T) Fi.hr Fi.hg Fi.tw rfl (l_cons (e_var 4) (l_cons (e_ix ix_A ix_d (e_var 1) (e_int) (by intro _ _; rfl)) (l_nil)))) (l_nil))))) (b_cons (s_set 3 Fi.nd (e_callV (ok__law_gap T) Fi.hr Fi.hg Fi.tw rfl (l_cons (e_ix ix_A ix_d (e_var 1) (e_int) (by intro _ _; rfl)) (l_cons (e_callV (ok__law_mul T) Fi.hr Fi.hg Fi.tw rfl (l_cons (e_var 4) (l_cons (e_ix ix_A ix_d (e_var 1) (e_int) (by intro _ _; rfl)) (l_nil)))) (l_nil))))) (b_one (s_ret (e_tup (l_cons (e_var 4) (l_cons (e_callV (ok__law_mul T) Fi.hr Fi.hg Fi.tw rfl (l_cons (e_var 6) (l_cons (e_ix ix_A ix_d (e_var 5) (e_int) (by intro _ _; rfl)) (l_nil)))) (l_cons (e_callV (ok__law_mul T) Fi.hr Fi.hg Fi.tw rfl (l_cons (e_var 6) (l_cons (e_ix ix_A ix_d (e_var 5) (e_int) (by intro _ _; rfl)) (l_nil)))) (l_cons (e_var 2) (l_cons (e_var 3) (l_nil)))))) (len_cons (len_cons (len_cons (len_cons (len_cons len_nil))))))))))))
theorem ok__law_flat_five (T : Tp K mg) : DefV P w K mg base "_law_flat_five" s__law_flat_five 7 ["_law_lode_here"] m_law_flat_five := defV_mk (T.glo 23) (T.fd 15 (d := dd__law_flat_five)) sc__law_flat_five (fun _ _ _ _ _ _ us hl => match us, hl with | [_], _ => rfl) rfl (w__law_flat_five T)
theorem sc__law_any_five : FnScope N__law_any_five ["_law_lode_here", "_law_wide"] (defScope s__law_any_five) := ⟨rfl, rfl, rfl, by decide +kernel, rfl, by decide +kernel, by decide +kernel⟩
theorem w__law_any_five (T : Tp K mg) : Walk P w K mg base "_law_any_five" s__law_any_five 4 N__law_any_five [0] m_law_any_fiveB := fun fa cdv A outer s H E Fi => b_cons (s_own 2 Fi.nd (n_lst (l_nil) len_nil)) (b_cons (s_for Fi.hp rfl (i_range1 rfl (T.free 3) (l_cons (e_int) (l_nil))) (g_name 3 Fi.nd) (b_one (s_expr (e_app 2 (pv 2) (e_if (t_cmp (op_eqA Fi.un) eq_d (e_callO 0 (ok__law_deal T) Fi.hr Fi.hg Fi.tw rfl (pv 0) (l_cons (e_int) (l_nil))) (e_int) (nomark _)) (e_tup (l_cons (e_int) (l_cons (e_int) (l_nil))) (len_cons (len_cons len_nil))) (e_callO 0 (ok__law_any_part T) Fi.hr Fi.hg Fi.tw rfl (pv 0) (l_cons (e_var 1) (l_nil)))) rfl (fun t ha => pe_bm PySem.F.plainAttrs_list PySem.F.slot_list_append PySem.F.type_list_append mt_append (pv 2) ha))))) (b_one (s_ret (e_callTy call_tuple_of tuple_d rfl (T.free 7) boot_tuple (l_cons (e_var 2) (l_nil))))))
theorem ok__law_any_five (T : Tp K mg) : DefV P w K mg base "_law_any_five" s__law_any_five 5 ["_law_lode_here", "_law_wide"] m_law_any_five := defV_mk (T.glo 24) (T.fd 16 (d := dd__law_any_five)) sc__law_any_five (fun _ _ _ _ _ _ us hl => match us, hl with | [_, _], _ => rfl) rfl (w__law_any_five T)
theorem sc__law_total : FnScope N__law_total ["_law_parts"] (defScope s__law_total) := ⟨rfl, rfl, rfl, by decide +kernel, rfl, by decide +kernel, by decide +kernel⟩
theorem w__law_total (T : Tp K mg) : Walk P w K mg base "_law_total" s__law_total 4 N__law_total [] m_law_totalB := fun fa cdv A outer s H E Fi => b_cons (s_set 1 Fi.nd (e_tup (l_cons (e_int) (l_cons (e_int) (l_nil))) (len_cons (len_cons len_nil)))) (b_cons (s_for Fi.hp rfl (i_seq (e_var 0)) (g_name 2 Fi.nd) (b_one (s_set 1 Fi.nd (e_callV (ok__law_add T) Fi.hr Fi.hg Fi.tw rfl (l_cons (e_var 1) (l_cons (e_var 2) (l_nil))))))) (b_one (s_ret (e_var 1))))
theorem ok__law_total (T : Tp K mg) : DefV P w K mg base "_law_total" s__law_total 5 ["_law_parts"] m_law_total := defV_mk (T.glo 25) (T.fd 17 (d := dd__law_total)) sc__law_total (fun _ _ _ _ _ _ us hl => match us, hl with | [_], _ => rfl) rfl (w__law_total T)
theorem sc__law_ship : FnScope N__law_ship ["_law_five", "_law_heading_here"] (defScope s__law_ship) := ⟨rfl, rfl, rfl, by decide +kernel, rfl, by decide +kernel, by decide +kernel⟩
theorem w__law_ship (T : Tp K mg) : Walk P w K mg base "_law_ship" s__law_ship 5 N__law_ship [] m_law_shipB := fun fa cdv A outer s H E Fi => b_cons (s_asg (e_tup (l_cons (e_var 0) (l_cons (e_var 1) (l_nil))) (len_cons (len_cons len_nil))) (g_tup rfl (gs_cons (g_tup rfl (gs_cons (g_name 4 Fi.nd) (gs_cons (g_name 5 Fi.nd) (gs_cons (g_name 6 Fi.nd) (gs_cons (g_name 7 Fi.nd) (gs_cons (g_name 8 Fi.nd) (gs_nil)))))) (hg := gn_cons (gN_noer _) (gn_cons (gN_noer _) (gn_cons (gN_noer _) (gn_cons (gN_noer _) (gn_cons (gN_noer _) (gn_nil))))))) (gs_cons (g_tup rfl (gs_cons (g_name 9 Fi.nd) (gs_cons (g_name 10 Fi.nd) (gs_nil))) (hg := gn_cons (gN_noer _) (gn_cons (gN_noer _) (gn_nil)))) (gs_nil))) (hg := gn_cons (gT_noer (gsCons_noer (gN_noer _) (gsCons_noer (gN_noer _) (gsCons_noer (gN_noer _) (gsCons_noer (gN_noer _) (gsCons_noer (gN_noer _) gsNil_noer)))))) (gn_cons (gT_noer (gsCons_noer (gN_noer _) (gsCons_noer (gN_noer _) gsNil_noer))) (gn_nil))))) (b_cons (s_set 2 Fi.nd (e_new (n_lst (l_cons (e_var 5) (l_cons (e_callV (ok__law_mul T) Fi.hr Fi.hg Fi.tw rfl (l_cons (e_callV (ok__law_add T) Fi.hr Fi.hg Fi.tw rfl (l_cons (e_tup (l_cons (e_int) (l_cons (e_int) (l_nil))) (len_cons (len_cons len_nil))) (l_cons (e_var 7) (l_nil)))) (l_cons (e_var 9) (l_nil)))) (l_cons (e_callV (ok__law_mul T) Fi.hr Fi.hg Fi.tw rfl (l_cons (e_callV (ok__law_gap T) Fi.hr Fi.hg Fi.tw rfl (l_cons (e_var 4) (l_cons (e_var 8) (l_nil)))) (l_cons (e_var 10) (l_nil)))) (l_nil)))) (len_cons (len_cons (len_cons len_nil)))))) (b_cons (s_set 3 Fi.nd (e_new (n_lst (l_cons (e_var 6) (l_cons (e_callV (ok__law_mul T) Fi.hr Fi.hg Fi.tw rfl (l_cons (e_callV (ok__law_add T) Fi.hr Fi.hg Fi.tw rfl (l_cons (e_var 4) (l_cons (e_var 8) (l_nil)))) (l_cons (e_var 9) (l_nil)))) (l_cons (e_callV (ok__law_mul T) Fi.hr Fi.hg Fi.tw rfl (l_cons (e_callV (ok__law_gap T) Fi.hr Fi.hg Fi.tw rfl (l_cons (e_var 7) (l_cons (e_tup (l_cons (e_int) (l_cons (e_int) (l_nil))) (len_cons (len_cons len_nil))) (l_nil)))) (l_cons (e_var 10) (l_nil)))) (l_nil)))) (len_cons (len_cons (len_cons len_nil)))))) (b_one (s_ret (e_tup (l_cons (e_callV (ok__law_total T) Fi.hr Fi.hg Fi.tw rfl (l_cons (e_var 2) (l_nil))) (l_cons (e_callV (ok__law_total T) Fi.hr Fi.hg Fi.tw rfl (l_cons (e_var 3) (l_nil))) (l_nil))) (len_cons (len_cons len_nil)))))))
theorem ok__law_ship (T : Tp K mg) : DefV P w K mg base "_law_ship" s__law_ship 6 ["_law_five", "_law_heading_here"] m_law_ship := defV_mk (T.glo 26) (T.fd 18 (d := dd__law_ship)) sc__law_ship (fun _ _ _ _ _ _ us hl => match us, hl with | [_, _], _ => rfl) rfl (w__law_ship T)
theorem sc__law_back : FnScope N__law_back ["_law_one"] (defScope s__law_back) := ⟨rfl, rfl, rfl, by decide +kernel, rfl, by decide +kernel, by decide +kernel⟩
theorem w__law_back (T : Tp K mg) : Walk P w K mg base "_law_back" s__law_back 0 N__law_back [] m_law_backB := fun fa cdv A outer s H E Fi => b_one (s_ret (e_tup (l_cons (e_bin op_sub sub_d (e_int) (e_ix ix_A ix_d (e_var 0) (e_int) (by intro _ _; rfl))) (l_cons (e_ix ix_A ix_d (e_var 0) (e_int) (by intro _ _; rfl)) (l_nil))) (len_cons (len_cons len_nil))))
theorem ok__law_back (T : Tp K mg) : DefV P w K mg base "_law_back" s__law_back 1 ["_law_one"] m_law_back := defV_mk (T.glo 27) (T.fd 19 (d := dd__law_back)) sc__law_back (fun _ _ _ _ _ _ us hl => match us, hl with | [_], _ => rfl) rfl (w__law_back T)
theorem sc__law_dead_five : FnScope N__law_dead_five ["_law_lode_here", "_law_heading_here"] (defScope s__law_dead_five) := ⟨rfl, rfl, rfl, by decide +kernel, rfl, by decide +kernel, by decide +kernel⟩
theorem w__law_dead_five (T : Tp K mg) : Walk P w K mg base "_law_dead_five" s__law_dead_five 6 N__law_dead_five [0] m_law_dead_fiveB := fun fa cdv A outer s H E Fi => b_cons (s_set 2 Fi.nd (e_callO 0 (ok__law_any_five T) Fi.hr Fi.hg Fi.tw rfl (pv 0) (l_cons (e_int) (l_nil)))) (b_cons (s_asg (e_callV (ok__law_ship T) Fi.hr Fi.hg Fi.tw rfl (l_cons (e_tup (l_cons (e_ix ix_A ix_d (e_var 2) (e_int) (by intro _ _; rfl)) (l_cons (e_tup (l_cons (e_int) (l_cons (e_int) (l_nil))) (len_cons (len_cons len_nil))) (l_cons (e_tup (l_cons (e_int) (l_cons (e_int) (l_nil))) (len_cons (len_cons len_nil))) (l_cons (e_ix ix_A ix_d (e_var 2) (e_int) (by intro _ _; rfl)) (l_cons (e_ix ix_A ix_d (e_var 2) (e_int) (by intro _ _; rfl)) (l_nil)))))) (len_cons (len_cons (len_cons (len_cons (len_cons len_nil)))))) (l_cons (e_var 1) (l_nil)))) (g_tup rfl (gs_cons (g_name 3 Fi.nd) (gs_cons (g_name 4 Fi.nd) (gs_nil))) (hg := gn_cons (gN_noer _) (gn_cons (gN_noer _) (gn_nil))))) (b_one (s_ret (e_tup (l_cons (e_ix ix_A ix_d (e_var 2) (e_int) (by intro _ _; rfl)) (l_cons (e_callV (ok__law_back T) Fi.hr Fi.hg Fi.tw rfl (l_cons (e_var 3) (l_nil))) (l_cons (e_callV (ok__law_back T) Fi.hr Fi.hg Fi.tw rfl (l_cons (e_var 4) (l_nil))) (l_cons (e_ix ix_A ix_d (e_var 2) (e_int) (by intro _ _; rfl)) (l_cons (e_ix ix_A ix_d (e_var 2) (e_int) (by intro _ _; rfl)) (l_nil)))))) (len_cons (len_cons (len_cons (len_cons (len_cons len_nil)))))))))
theorem ok__law_dead_five (T : Tp K mg) : DefV P w K mg base "_law_dead_five" s__law_dead_five 7 ["_law_lode_here", "_law_heading_here"] m_law_dead_five := defV_mk (T.glo 28) (T.fd 20 (d := dd__law_dead_five)) sc__law_dead_five (fun _ _ _ _ _ _ us hl => match us, hl with | [_, _], _ => rfl) rfl (w__law_dead_five T)
theorem sc__law_over : FnScope N__law_over ["_law_lode_here", "_law_wide"] (defScope s__law_over) := ⟨rfl, rfl, rfl, by decide +kernel, rfl, by decide +kernel, by decide +kernel⟩
theorem w__law_over (T : Tp K mg) : Walk P w K mg base "_law_over" s__law_over 3 N__law_over [0] m_law_overB := fun fa cdv A outer s H E Fi => b_one (s_ret (e_callV (ok__law_part T) Fi.hr Fi.hg Fi.tw rfl (l_cons (e_bin op_addA add_d (e_int) (e_callB call_abs abs_d rfl (T.free 4) boot_abs (l_cons (e_callO 0 (ok__law_about T) Fi.hr Fi.hg Fi.tw rfl (pv 0) (l_cons (e_var 1) (l_nil))) (l_nil)))) (l_cons (e_bin op_addA add_d (e_int) (e_callO 0 (ok__law_deal T) Fi.hr Fi.hg Fi.tw rfl (pv 0) (l_cons (e_callO 0 (ok__law_some T) Fi.hr Fi.hg Fi.tw rfl (pv 0) (l_cons (e_new (n_lst (l_cons (e_int) (l_cons (e_int) (l_cons (e_int) (l_cons (e_int) (l_cons (e_int) (l_nil)))))) (len_cons (len_cons (len_cons (len_cons (len_cons len_nil))))))) (l_nil))) (l_nil)))) (l_nil)))))
theorem ok__law_over (T : Tp K mg) : DefV P w K mg base "_law_over" s__law_over 4 ["_law_lode_here", "_law_wide"] m_law_over := defV_mk (T.glo 29) (T.fd 21 (d := dd__law_over)) sc__law_over (fun _ _ _ _ _ _ us hl => match us, hl with | [_, _], _ => rfl) rfl (w__law_over T)
theorem sc__law_kind_five : FnScope N__law_kind_five ["_law_lode_here"] (defScope s__law_kind_five) := ⟨rfl, rfl, rfl, by decide +kernel, rfl, by decide +kernel, by decide +kernel⟩
theorem w__law_kind_five (T : Tp K mg) : Walk P w K mg base "_law_kind_five" s__law_kind_five 7 N__law_kind_five [0] m_law_kind_fiveB := fun fa cdv A outer s H E Fi => b_cons (s_set 1 Fi.nd (e_callO 0 (ok__law_deal T) Fi.hr Fi.hg Fi.tw rfl (pv 0) (l_cons (e_int) (l_nil)))) (b_cons (s_if (t_cmp (op_eqA Fi.un) eq_d (e_var 1) (e_int) (nomark _)) (b_one (s_ret (e_callO 0 (ok__law_flat_five T) Fi.hr Fi.hg Fi.tw rfl (pv 0) (l_nil)))) (b_nil)) (b_cons (s_if (t_cmp (op_eqA Fi.un) eq_d (e_var 1) (e_int) (nomark _)) (b_one (s_ret (e_callO 0 (ok__law_dead_five T) Fi.hr Fi.hg Fi.tw rfl (pv 0) (l_cons (e_callO 0 (ok__law_some_heading T) Fi.hr Fi.hg Fi.tw rfl (pv 0) (l_nil)) (l_nil))))) (b_nil)) (b_cons (s_set 2 Fi.nd (e_callO 0 (ok__law_any_five T) Fi.hr Fi.hg Fi.tw rfl (pv 0) (l_cons (e_callO 0 (ok__law_some T) Fi.hr Fi.hg Fi.tw rfl (pv 0) (l_cons (e_new (n_lst (l_cons (e_int) (l_cons (e_int) (l_cons (e_int) (l_nil)))) (len_cons (len_cons (len_cons len_nil))))) (l_nil))) (l_nil)))) (b_cons (s_if (t_cmp (op_eqA Fi.un) eq_d (e_var 1) (e_int) (nomark _)) (b_one (s_ret (e_var 2))) (b_nil)) (b_cons (s_if (t_cmp (op_eqA Fi.un) eq_d (e_var 1) (e_int) (nomark _)) (b_cons (s_set 4 Fi.nd (e_callO 0 (ok__law_flat_five T) Fi.hr Fi.hg Fi.tw rfl (pv 0) (l_nil))) (b_one (s_ret (e_tup (l_cons (e_ix ix_A ix_d (e_var 4) (e_int) (by intro _ _; rfl)) (l_cons (e_ix ix_A ix_d (e_var 2) (e_int) (by intro _ _; rfl)) (l_cons (e_ix ix_A ix_d (e_var 2) (e_int) (by intro _ _; rfl)) (l_cons (e_ix ix_A ix_d (e_var 4) (e_int) (by intro _ _; rfl)) (l_cons (e_ix ix_A ix_d (e_var 4) (e_int) (by intro _ _; rfl)) (l_nil)))))) (len_cons (len_cons (len_cons (len_cons (len_cons len_nil))))))))) (b_nil)) (b_cons (s_if (t_cmp (op_eqA Fi.un) eq_d (e_var 1) (e_int) (nomark _)) (b_one (s_ret (e_callTy call_tuple_of tuple_d rfl (T.free 7) boot_tuple (l_cons (e_new (n_lc (n := 6) (fx' := [0, 1, 2, 3, 4]) (own := [("_law_each", 5)]) rfl Fi.nd (i_seq (e_var 2)) (⟨rfl, by decide +kernel, by decide +kernel, by decide +kernel, by decide +kernel⟩ : BlkOk N__law_kind_five (defScope s__law_kind_five) _ [("_law_each", 5)]) (fun _ _ _ _ _ => g_name 5 Fi.nd) (fun _ _ _ _ _ => if_nil) (fun _ _ _ _ _ => e_callV (ok__law_mul T) Fi.hr Fi.hg takes0 rfl (l_cons (e_var 5) (l_cons (e_tup (l_cons (e_int) (l_cons (e_int) (l_nil))) (len_cons (len_cons len_nil))) (l_nil)))) (by decide))) (l_nil))))) (b_nil)) (b_cons (s_set 3 Fi.nd (e_callV (ok__law_add T) Fi.hr Fi.hg Fi.tw rfl (l_cons (e_tup (l_cons (e_int) (l_cons (e_int) (l_nil))) (len_cons (len_cons len_nil))) (l_cons (e_callO 0 (ok__law_over T) Fi.hr Fi.hg Fi.tw rfl (pv 0) (l_cons (e_int) (l_nil))) (l_nil))))) (b_cons (s_if (t_cmp (op_eqA Fi.un) eq_d (e_var 1) (e_int) (nomark _)) (b_one (s_ret (e_tup (l_cons (e_callV (ok__law_mul T) Fi.hr Fi.hg Fi.tw rfl (l_cons (e_ix ix_A ix_d (e_var 2) (e_int) (by intro _ _; rfl)) (l_cons (e_tup (l_cons (e_int) (l_cons (e_int) (l_nil))) (len_cons (len_cons len_nil))) (l_nil)))) (l_cons (e_callV (ok__law_mul T) Fi.hr Fi.hg Fi.tw rfl (l_cons (e_ix ix_A ix_d (e_var 2) (e_int) (by intro _ _; rfl)) (l_cons (e_tup (l_cons (e_int) (l_cons (e_int) (l_nil))) (len_cons (len_cons len_nil))) (l_nil)))) (l_cons (e_tup (l_cons (e_int) (l_cons (e_int) (l_nil))) (len_cons (len_cons len_nil))) (l_cons (e_var 3) (l_cons (e_callV (ok__law_mul T) Fi.hr Fi.hg Fi.tw rfl (l_cons (e_ix ix_A ix_d (e_var 2) (e_int) (by intro _ _; rfl)) (l_cons (e_tup (l_cons (e_int) (l_cons (e_int) (l_nil))) (len_cons (len_cons len_nil))) (l_nil)))) (l_nil)))))) (len_cons (len_cons (len_cons (len_cons (len_cons len_nil)))))))) (b_nil)) (b_one (s_ret (e_tup (l_cons (e_callV (ok__law_mul T) Fi.hr Fi.hg Fi.tw rfl (l_cons (e_ix ix_A ix_d (e_var 2) (e_int) (by intro _ _; rfl)) (l_cons (e_tup (l_cons (e_int) (l_cons (e_int) (l_nil))) (len_cons (len_cons len_nil))) (l_nil)))) (l_cons (e_var 3) (l_cons (e_ix ix_A ix_d (e_var 2) (e_int) (by intro _ _; rfl)) (l_cons (e_callV (ok__law_mul T) Fi.hr Fi.hg Fi.tw rfl (l_cons (e_ix ix_A ix_d (e_var 2) (e_int) (by intro _ _; rfl)) (l_cons (e_tup (l_cons (e_int) (l_cons (e_int) (l_nil))) (len_cons (len_cons len_nil))) (l_nil)))) (l_cons (e_callV (ok__law_mul T) Fi.hr Fi.hg Fi.tw rfl (l_cons (e_ix ix_A ix_d (e_var 2) (e_int) (by intro _ _; rfl)) (l_cons (e_tup (l_cons (e_int) (l_cons (e_int) (l_nil))) (len_cons (len_cons len_nil))) (l_nil)))) (l_nil)))))) (len_cons (len_cons (len_cons (len_cons (len_cons len_nil))))))))))))))))
theorem ok__law_kind_five (T : Tp K mg) : DefV P w K mg base "_law_kind_five" s__law_kind_five 8 ["_law_lode_here"] m_law_kind_five := defV_mk (T.glo 30) (T.fd 22 (d := dd__law_kind_five)) sc__law_kind_five (fun _ _ _ _ _ _ us hl => match us, hl with | [_], _ => rfl) rfl (w__law_kind_five T)
theorem sc_divisor_of : FnScope N_divisor_of ["numbers"] (defScope s_divisor_of) := ⟨rfl, rfl, rfl, by decide +kernel, rfl, by decide +kernel, by decide +kernel⟩
theorem w_divisor_of (T : Tp K mg) : Walk P w K mg base "divisor_of" s_divisor_of 0 N_divisor_of [] m_divisor_ofB := fun fa cdv A outer s H E Fi => b_cons (s_set 1 Fi.nd (e_int)) (b_cons (s_for Fi.hp rfl (i_seq (e_var 0)) (g_name 2 Fi.nd) (b_one (s_set 1 Fi.nd (e_callF cr_gcd gcd_d rfl (T.bi 31) (l_cons (e_var 1) (l_cons (e_var 2) (l_nil))))))) (b_one (s_ret (e_var 1))))
theorem ok_divisor_of (T : Tp K mg) : DefV P w K mg base "divisor_of" s_divisor_of 1 ["numbers"] m_divisor_of := defV_mk (T.glo 32) (T.fd 23 (d := dd_divisor_of)) sc_divisor_of (fun _ _ _ _ _ _ us hl => match us, hl with | [_], _ => rfl) rfl (w_divisor_of T)
theorem sc_ratio : FnScope N_ratio ["number", "under"] (defScope s_ratio) := ⟨rfl, rfl, rfl, by decide +kernel, rfl, by decide +kernel, by decide +kernel⟩
theorem w_ratio (T : Tp K mg) : Walk P w K mg base "ratio" s_ratio 1 N_ratio [] m_ratioB := fun fa cdv A outer s H E Fi => b_cons (s_set 2 Fi.nd (e_callV (ok_divisor_of T) Fi.hr Fi.hg Fi.tw rfl (l_cons (e_tup (l_cons (e_var 0) (l_cons (e_var 1) (l_nil))) (len_cons (len_cons len_nil))) (l_nil)))) (b_cons (s_set 2 Fi.nd (e_if (t_cmp op_gt gt_d (e_var 1) (e_int) (nomark _)) (e_var 2) (e_un un_neg neg_d (e_var 2)))) (b_one (s_ret (e_tup (l_cons (e_bin op_divG div_d (e_var 0) (e_var 2)) (l_cons (e_bin op_divG div_d (e_var 1) (e_var 2)) (l_nil))) (len_cons (len_cons len_nil))))))
theorem ok_ratio (T : Tp K mg) : DefV P w K mg base "ratio" s_ratio 2 ["number", "under"] m_ratio := defV_mk (T.glo 33) (T.fd 24 (d := dd_ratio)) sc_ratio (fun _ _ _ _ _ _ us hl => match us, hl with | [_, _], _ => rfl) rfl (w_ratio T)
theorem sc_ratio_sum : FnScope N_ratio_sum ["one", "two"] (defScope s_ratio_sum) := ⟨rfl, rfl, rfl, by decide +kernel, rfl, by decide +kernel, by decide +kernel⟩
theorem w_ratio_sum (T : Tp K mg) : Walk P w K mg base "ratio_sum" s_ratio_sum 2 N_ratio_sum [] m_ratio_sumB := fun fa cdv A outer s H E Fi => b_one (s_ret (e_callV (ok_ratio T) Fi.hr Fi.hg Fi.tw rfl (l_cons (e_bin op_addA add_d (e_bin op_mulA mul_d (e_ix ix_A ix_d (e_var 0) (e_int) (by intro _ _; rfl)) (e_ix ix_A ix_d (e_var 1) (e_int) (by intro _ _; rfl))) (e_bin op_mulA mul_d (e_ix ix_A ix_d (e_var 1) (e_int) (by intro _ _; rfl)) (e_ix ix_A ix_d (e_var 0) (e_int) (by intro _ _; rfl)))) (l_cons (e_bin op_mulA mul_d (e_ix ix_A ix_d (e_var 0) (e_int) (by intro _ _; rfl)) (e_ix ix_A ix_d (e_var 1) (e_int) (by intro _ _; rfl))) (l_nil)))))
theorem ok_ratio_sum (T : Tp K mg) : DefV P w K mg base "ratio_sum" s_ratio_sum 3 ["one", "two"] m_ratio_sum := defV_mk (T.glo 34) (T.fd 25 (d := dd_ratio_sum)) sc_ratio_sum (fun _ _ _ _ _ _ us hl => match us, hl with | [_, _], _ => rfl) rfl (w_ratio_sum T)
theorem sc_ratio_product : FnScope N_ratio_product ["one", "two"] (defScope s_ratio_product) := ⟨rfl, rfl, rfl, by decide +kernel, rfl, by decide +kernel, by decide +kernel⟩
theorem w_ratio_product (T : Tp K mg) : Walk P w K mg base "ratio_product" s_ratio_product 2 N_ratio_product [] m_ratio_productB := fun fa cdv A outer s H E Fi => b_one (s_ret (e_callV (ok_ratio T) Fi.hr Fi.hg Fi.tw rfl (l_cons (e_bin op_mulA mul_d (e_ix ix_A ix_d (e_var 0) (e_int) (by intro _ _; rfl)) (e_ix ix_A ix_d (e_var 1) (e_int) (by intro _ _; rfl))) (l_cons (e_bin op_mulA mul_d (e_ix ix_A ix_d (e_var 0) (e_int) (by intro _ _; rfl)) (e_ix ix_A ix_d (e_var 1) (e_int) (by intro _ _; rfl))) (l_nil)))))
theorem ok_ratio_product (T : Tp K mg) : DefV P w K mg base "ratio_product" s_ratio_product 3 ["one", "two"] m_ratio_product := defV_mk (T.glo 35) (T.fd 26 (d := dd_ratio_product)) sc_ratio_product (fun _ _ _ _ _ _ us hl => match us, hl with | [_, _], _ => rfl) rfl (w_ratio_product T)
theorem sc_square_length : FnScope N_square_length ["one"] (defScope s_square_length) := ⟨rfl, rfl, rfl, by decide +kernel, rfl, by decide +kernel, by decide +kernel⟩
theorem w_square_length (T : Tp K mg) : Walk P w K mg base "square_length" s_square_length 3 N_square_length [] m_square_lengthB := fun fa cdv A outer s H E Fi => b_one (s_ret (e_callV (ok_ratio_sum T) Fi.hr Fi.hg Fi.tw rfl (l_cons (e_callV (ok_ratio_product T) Fi.hr Fi.hg Fi.tw rfl (l_cons (e_ix ix_A ix_d (e_var 0) (e_int) (by intro _ _; rfl)) (l_cons (e_ix ix_A ix_d (e_var 0) (e_int) (by intro _ _; rfl)) (l_nil)))) (l_cons (e_callV (ok_ratio_product T) Fi.hr Fi.hg Fi.tw rfl (l_cons (e_ix ix_A ix_d (e_var 0) (e_int) (by intro _ _; rfl)) (l_cons (e_ix ix_A ix_d (e_var 0) (e_int) (by intro _ _; rfl)) (l_nil)))) (l_nil)))))
theorem ok_square_length (T : Tp K mg) : DefV P w K mg base "square_length" s_square_length 4 ["one"] m_square_length := defV_mk (T.glo 36) (T.fd 27 (d := dd_square_length)) sc_square_length (fun _ _ _ _ _ _ us hl => match us, hl with | [_], _ => rfl) rfl (w_square_length T)
theorem sc_is_reduced : FnScope N_is_reduced ["numbers"] (defScope s_is_reduced) := ⟨rfl, rfl, rfl, by decide +kernel, rfl, by decide +kernel, by decide +kernel⟩
theorem w_is_reduced (T : Tp K mg) : Walk P w K mg base "is_reduced" s_is_reduced 1 N_is_reduced [] m_is_reducedB := fun fa cdv A outer s H E Fi => b_one (s_ret (e_cmp (op_eqA Fi.un) eq_d (e_callV (ok_divisor_of T) Fi.hr Fi.hg Fi.tw rfl (l_cons (e_var 0) (l_nil))) (e_int) (nomark _)))
theorem ok_is_reduced (T : Tp K mg) : DefV P w K mg base "is_reduced" s_is_reduced 2 ["numbers"] m_is_reduced := defV_mk (T.glo 38) (T.fd 28 (d := dd_is_reduced)) sc_is_reduced (fun _ _ _ _ _ _ us hl => match us, hl with | [_], _ => rfl) rfl (w_is_reduced T)
theorem sc_is_whole : FnScope N_is_whole ["value"] (defScope s_is_whole) := ⟨rfl, rfl, rfl, by decide +kernel, rfl, by decide +kernel, by decide +kernel⟩
theorem w_is_whole (T : Tp K mg) : Walk P w K mg base "is_whole" s_is_whole 0 N_is_whole [] m_is_wholeB := fun fa cdv A outer s H E Fi => b_one (s_ret (e_and (e_isi rfl (T.free 39) (e_var 0) rfl (T.free 5) boot_int) (e_one (e_not (e_isi rfl (T.free 39) (e_var 0) rfl (T.free 40) boot_bool)))))
theorem ok_is_whole (T : Tp K mg) : DefV P w K mg base "is_whole" s_is_whole 1 ["value"] m_is_whole := defV_mk (T.glo 41) (T.fd 29 (d := dd_is_whole)) sc_is_whole (fun _ _ _ _ _ _ us hl => match us, hl with | [_], _ => rfl) rfl (w_is_whole T)
theorem sc_are_wholes : FnScope N_are_wholes ["value", "many"] (defScope s_are_wholes) := ⟨rfl, rfl, rfl, by decide +kernel, rfl, by decide +kernel, by decide +kernel⟩
theorem w_are_wholes (T : Tp K mg) : Walk P w K mg base "are_wholes" s_are_wholes 1 N_are_wholes [] m_are_wholesB := fun fa cdv A outer s H E Fi => b_one (s_ret (e_and (e_isi rfl (T.free 39) (e_var 0) rfl (T.free 7) boot_tuple) (e_and (e_cmp (op_eqA Fi.un) eq_d (e_callB call_lenA len_d rfl (T.free 0) boot_len (l_cons (e_var 0) (l_nil))) (e_var 1) (nomark _)) (e_one (e_callB (cr_all rfl) all_d rfl (T.free 42) boot_all (l_cons (e_new (n_lc (n := 3) (fx' := [0, 1]) (own := [("number", 2)]) rfl Fi.nd (i_seq (e_var 0)) (⟨rfl, by decide +kernel, by decide +kernel, by decide +kernel, by decide +kernel⟩ : BlkOk N_are_wholes (defScope s_are_wholes) _ [("number", 2)]) (fun _ _ _ _ _ => g_name 2 Fi.nd) (fun _ _ _ _ _ => if_nil) (fun _ _ _ _ _ => e_callV (ok_is_whole T) Fi.hr Fi.hg takes0 rfl (l_cons (e_var 2) (l_nil))) (by decide))) (l_nil)))))))
theorem ok_are_wholes (T : Tp K mg) : DefV P w K mg base "are_wholes" s_are_wholes 2 ["value", "many"] m_are_wholes := defV_mk (T.glo 43) (T.fd 30 (d := dd_are_wholes)) sc_are_wholes (fun _ _ _ _ _ _ us hl => match us, hl with | [_, _], _ => rfl) rfl (w_are_wholes T)
theorem sc_is_ratio : FnScope N_is_ratio ["value"] (defScope s_is_ratio) := ⟨rfl, rfl, rfl, by decide +kernel, rfl, by decide +kernel, by decide +kernel⟩
theorem w_is_ratio (T : Tp K mg) : Walk P w K mg base "is_ratio" s_is_ratio 2 N_is_ratio [] m_is_ratioB := fun fa cdv A outer s H E Fi => b_one (s_ret (e_and (e_callV (ok_are_wholes T) Fi.hr Fi.hg Fi.tw rfl (l_cons (e_var 0) (l_cons (e_int) (l_nil)))) (e_and (e_cmp op_gt gt_d (e_ix ix_A ix_d (e_var 0) (e_int) (by intro _ _; rfl)) (e_int) (nomark _)) (e_one (e_callV (ok_is_reduced T) Fi.hr Fi.hg Fi.tw rfl (l_cons (e_var 0) (l_nil)))))))
theorem ok_is_ratio (T : Tp K mg) : DefV P w K mg base "is_ratio" s_is_ratio 3 ["value"] m_is_ratio := defV_mk (T.glo 44) (T.fd 31 (d := dd_is_ratio)) sc_is_ratio (fun _ _ _ _ _ _ us hl => match us, hl with | [_], _ => rfl) rfl (w_is_ratio T)
theorem sc_is_pair : FnScope N_is_pair ["value"] (defScope s_is_pair) := ⟨rfl, rfl, rfl, by decide +kernel, rfl, by decide +kernel, by decide +kernel⟩
theorem w_is_pair (T : Tp K mg) : Walk P w K mg base "is_pair" s_is_pair 3 N_is_pair [] m_is_pairB := fun fa cdv A outer s H E Fi => b_one (s_ret (e_and (e_isi rfl (T.free 39) (e_var 0) rfl (T.free 7) boot_tuple) (e_and (e_cmp (op_eqA Fi.un) eq_d (e_callB call_lenA len_d rfl (T.free 0) boot_len (l_cons (e_var 0) (l_nil))) (e_int) (nomark _)) (e_and (e_callV (ok_is_ratio T) Fi.hr Fi.hg Fi.tw rfl (l_cons (e_ix ix_A ix_d (e_var 0) (e_int) (by intro _ _; rfl)) (l_nil))) (e_one (e_callV (ok_is_ratio T) Fi.hr Fi.hg Fi.tw rfl (l_cons (e_ix ix_A ix_d (e_var 0) (e_int) (by intro _ _; rfl)) (l_nil))))))))
theorem ok_is_pair (T : Tp K mg) : DefV P w K mg base "is_pair" s_is_pair 4 ["value"] m_is_pair := defV_mk (T.glo 45) (T.fd 32 (d := dd_is_pair)) sc_is_pair (fun _ _ _ _ _ _ us hl => match us, hl with | [_], _ => rfl) rfl (w_is_pair T)
theorem sc_is_unit : FnScope N_is_unit ["value"] (defScope s_is_unit) := ⟨rfl, rfl, rfl, by decide +kernel, rfl, by decide +kernel, by decide +kernel⟩
theorem w_is_unit (T : Tp K mg) : Walk P w K mg base "is_unit" s_is_unit 4 N_is_unit [] m_is_unitB := fun fa cdv A outer s H E Fi => b_one (s_ret (e_and (e_callV (ok_is_pair T) Fi.hr Fi.hg Fi.tw rfl (l_cons (e_var 0) (l_nil))) (e_one (e_cmp (op_eqA Fi.un) eq_d (e_callV (ok_square_length T) Fi.hr Fi.hg Fi.tw rfl (l_cons (e_var 0) (l_nil))) (e_con (T.con 37 (d := (.tup [(.int 1), (.int 1)])))) (nomark _)))))
theorem ok_is_unit (T : Tp K mg) : DefV P w K mg base "is_unit" s_is_unit 5 ["value"] m_is_unit := defV_mk (T.glo 46) (T.fd 33 (d := dd_is_unit)) sc_is_unit (fun _ _ _ _ _ _ us hl => match us, hl with | [_], _ => rfl) rfl (w_is_unit T)
theorem sc_check_heading : FnScope N_check_heading ["value"] (defScope s_check_heading) := ⟨rfl, rfl, rfl, by decide +kernel, rfl, by decide +kernel, by decide +kernel⟩
theorem w_check_heading (T : Tp K mg) : Walk P w K mg base "check_heading" s_check_heading 5 N_check_heading [] m_check_headingB := fun fa cdv A outer s H E Fi => b_one (s_if (t_not (t_val (e_callV (ok_is_unit T) Fi.hr Fi.hg Fi.tw rfl (l_cons (e_var 0) (l_nil))))) (b_one (s_no)) (b_nil))
theorem ok_check_heading (T : Tp K mg) : DefV P w K mg base "check_heading" s_check_heading 6 ["value"] m_check_heading := defV_mk (T.glo 47) (T.fd 34 (d := dd_check_heading)) sc_check_heading (fun _ _ _ _ _ _ us hl => match us, hl with | [_], _ => rfl) rfl (w_check_heading T)
theorem sc_ratio_less : FnScope N_ratio_less ["one", "two"] (defScope s_ratio_less) := ⟨rfl, rfl, rfl, by decide +kernel, rfl, by decide +kernel, by decide +kernel⟩
theorem w_ratio_less (T : Tp K mg) : Walk P w K mg base "ratio_less" s_ratio_less 2 N_ratio_less [] m_ratio_lessB := fun fa cdv A outer s H E Fi => b_one (s_ret (e_callV (ok_ratio T) Fi.hr Fi.hg Fi.tw rfl (l_cons (e_bin op_sub sub_d (e_bin op_mulA mul_d (e_ix ix_A ix_d (e_var 0) (e_int) (by intro _ _; rfl)) (e_ix ix_A ix_d (e_var 1) (e_int) (by intro _ _; rfl))) (e_bin op_mulA mul_d (e_ix ix_A ix_d (e_var 1) (e_int) (by intro _ _; rfl)) (e_ix ix_A ix_d (e_var 0) (e_int) (by intro _ _; rfl)))) (l_cons (e_bin op_mulA mul_d (e_ix ix_A ix_d (e_var 0) (e_int) (by intro _ _; rfl)) (e_ix ix_A ix_d (e_var 1) (e_int) (by intro _ _; rfl))) (l_nil)))))
theorem ok_ratio_less (T : Tp K mg) : DefV P w K mg base "ratio_less" s_ratio_less 3 ["one", "two"] m_ratio_less := defV_mk (T.glo 48) (T.fd 35 (d := dd_ratio_less)) sc_ratio_less (fun _ _ _ _ _ _ us hl => match us, hl with | [_, _], _ => rfl) rfl (w_ratio_less T)
theorem sc_gauss_product : FnScope N_gauss_product ["one", "two"] (defScope s_gauss_product) := ⟨rfl, rfl, rfl, by decide +kernel, rfl, by decide +kernel, by decide +kernel⟩
theorem w_gauss_product (T : Tp K mg) : Walk P w K mg base "gauss_product" s_gauss_product 3 N_gauss_product [] m_gauss_productB := fun fa cdv A outer s H E Fi => b_cons (s_set 2 Fi.nd (e_callV (ok_ratio_less T) Fi.hr Fi.hg Fi.tw rfl (l_cons (e_callV (ok_ratio_product T) Fi.hr Fi.hg Fi.tw rfl (l_cons (e_ix ix_A ix_d (e_var 0) (e_int) (by intro _ _; rfl)) (l_cons (e_ix ix_A ix_d (e_var 1) (e_int) (by intro _ _; rfl)) (l_nil)))) (l_cons (e_callV (ok_ratio_product T) Fi.hr Fi.hg Fi.tw rfl (l_cons (e_ix ix_A ix_d (e_var 0) (e_int) (by intro _ _; rfl)) (l_cons (e_ix ix_A ix_d (e_var 1) (e_int) (by intro _ _; rfl)) (l_nil)))) (l_nil))))) (b_one (s_ret (e_tup (l_cons (e_var 2) (l_cons (e_callV (ok_ratio_sum T) Fi.hr Fi.hg Fi.tw rfl (l_cons (e_callV (ok_ratio_product T) Fi.hr Fi.hg Fi.tw rfl (l_cons (e_ix ix_A ix_d (e_var 0) (e_int) (by intro _ _; rfl)) (l_cons (e_ix ix_A ix_d (e_var 1) (e_int) (by intro _ _; rfl)) (l_nil)))) (l_cons (e_callV (ok_ratio_product T) Fi.hr Fi.hg Fi.tw rfl (l_cons (e_ix ix_A ix_d (e_var 0) (e_int) (by intro _ _; rfl)) (l_cons (e_ix ix_A ix_d (e_var 1) (e_int) (by intro _ _; rfl)) (l_nil)))) (l_nil)))) (l_nil))) (len_cons (len_cons len_nil)))))
theorem ok_gauss_product (T : Tp K mg) : DefV P w K mg base "gauss_product" s_gauss_product 4 ["one", "two"] m_gauss_product := defV_mk (T.glo 49) (T.fd 36 (d := dd_gauss_product)) sc_gauss_product (fun _ _ _ _ _ _ us hl => match us, hl with | [_, _], _ => rfl) rfl (w_gauss_product T)
theorem sc_both_turned : FnScope N_both_turned ["one", "two"] (defScope s_both_turned) := ⟨rfl, rfl, rfl, by decide +kernel, rfl, by decide +kernel, by decide +kernel⟩
theorem w_both_turned (T : Tp K mg) : Walk P w K mg base "both_turned" s_both_turned 4 N_both_turned [] m_both_turnedB := fun fa cdv A outer s H E Fi => b_one (s_ret (e_callV (ok_gauss_product T) Fi.hr Fi.hg Fi.tw rfl (l_cons (e_var 0) (l_cons (e_var 1) (l_nil)))))
theorem ok_both_turned (T : Tp K mg) : DefV P w K mg base "both_turned" s_both_turned 5 ["one", "two"] m_both_turned := defV_mk (T.glo 50) (T.fd 37 (d := dd_both_turned)) sc_both_turned (fun _ _ _ _ _ _ us hl => match us, hl with | [_, _], _ => rfl) rfl (w_both_turned T)
theorem sc_turned : FnScope N_turned ["heading", "other"] (defScope s_turned) := ⟨rfl, rfl, rfl, by decide +kernel, rfl, by decide +kernel, by decide +kernel⟩
theorem w_turned (T : Tp K mg) : Walk P w K mg base "turned" s_turned 6 N_turned [] m_turnedB := fun fa cdv A outer s H E Fi => b_cons (s_expr (e_callV (ok_check_heading T) Fi.hr Fi.hg Fi.tw rfl (l_cons (e_var 0) (l_nil)))) (b_cons (s_expr (e_callV (ok_check_heading T) Fi.hr Fi.hg Fi.tw rfl (l_cons (e_var 1) (l_nil)))) (b_one (s_ret (e_callV (ok_both_turned T) Fi.hr Fi.hg Fi.tw rfl (l_cons (e_var 0) (l_cons (e_var 1) (l_nil)))))))
theorem ok_turned (T : Tp K mg) : DefV P w K mg base "turned" s_turned 7 ["heading", "other"] m_turned := defV_mk (T.glo 51) (T.fd 38 (d := dd_turned)) sc_turned (fun _ _ _ _ _ _ us hl => match us, hl with | [_, _], _ => rfl) rfl (w_turned T)
theorem sc__law_as_surds : FnScope N__law_as_surds ["_law_heading_here"] (defScope s__law_as_surds) := ⟨rfl, rfl, rfl, by decide +kernel, rfl, by decide +kernel, by decide +kernel⟩
theorem w__law_as_surds (T : Tp K mg) : Walk P w K mg base "_law_as_surds" s__law_as_surds 0 N__law_as_surds [] m_law_as_surdsB := fun fa cdv A outer s H E Fi => b_one (s_ret (e_tup (l_cons (e_tup (l_cons (e_ix ix_A ix_d (e_var 0) (e_int) (by intro _ _; rfl)) (l_cons (e_int) (l_cons (e_tup (l_cons (e_int) (l_cons (e_int) (l_nil))) (len_cons (len_cons len_nil))) (l_nil)))) (len_cons (len_cons (len_cons len_nil)))) (l_cons (e_tup (l_cons (e_ix ix_A ix_d (e_var 0) (e_int) (by intro _ _; rfl)) (l_cons (e_int) (l_cons (e_tup (l_cons (e_int) (l_cons (e_int) (l_nil))) (len_cons (len_cons len_nil))) (l_nil)))) (len_cons (len_cons (len_cons len_nil)))) (l_nil))) (len_cons (len_cons len_nil))))
theorem ok__law_as_surds (T : Tp K mg) : DefV P w K mg base "_law_as_surds" s__law_as_surds 1 ["_law_heading_here"] m_law_as_surds := defV_mk (T.glo 52) (T.fd 39 (d := dd__law_as_surds)) sc__law_as_surds (fun _ _ _ _ _ _ us hl => match us, hl with | [_], _ => rfl) rfl (w__law_as_surds T)
theorem sc_are_ratios : FnScope N_are_ratios ["value", "many"] (defScope s_are_ratios) := ⟨rfl, rfl, rfl, by decide +kernel, rfl, by decide +kernel, by decide +kernel⟩
theorem w_are_ratios (T : Tp K mg) : Walk P w K mg base "are_ratios" s_are_ratios 3 N_are_ratios [] m_are_ratiosB := fun fa cdv A outer s H E Fi => b_one (s_ret (e_and (e_isi rfl (T.free 39) (e_var 0) rfl (T.free 7) boot_tuple) (e_and (e_cmp (op_eqA Fi.un) eq_d (e_callB call_lenA len_d rfl (T.free 0) boot_len (l_cons (e_var 0) (l_nil))) (e_var 1) (nomark _)) (e_one (e_callB (cr_all rfl) all_d rfl (T.free 42) boot_all (l_cons (e_new (n_lc (n := 3) (fx' := [0, 1]) (own := [("number", 2)]) rfl Fi.nd (i_seq (e_var 0)) (⟨rfl, by decide +kernel, by decide +kernel, by decide +kernel, by decide +kernel⟩ : BlkOk N_are_ratios (defScope s_are_ratios) _ [("number", 2)]) (fun _ _ _ _ _ => g_name 2 Fi.nd) (fun _ _ _ _ _ => if_nil) (fun _ _ _ _ _ => e_callV (ok_is_ratio T) Fi.hr Fi.hg takes0 rfl (l_cons (e_var 2) (l_nil))) (by decide))) (l_nil)))))))
theorem ok_are_ratios (T : Tp K mg) : DefV P w K mg base "are_ratios" s_are_ratios 4 ["value", "many"] m_are_ratios := defV_mk (T.glo 53) (T.fd 40 (d := dd_are_ratios)) sc_are_ratios (fun _ _ _ _ _ _ us hl => match us, hl with | [_, _], _ => rfl) rfl (w_are_ratios T)
theorem sc_is_fivefold : FnScope N_is_fivefold ["value"] (defScope s_is_fivefold) := ⟨rfl, rfl, rfl, by decide +kernel, rfl, by decide +kernel, by decide +kernel⟩
theorem w_is_fivefold (T : Tp K mg) : Walk P w K mg base "is_fivefold" s_is_fivefold 4 N_is_fivefold [] m_is_fivefoldB := fun fa cdv A outer s H E Fi => b_one (s_ret (e_callV (ok_are_ratios T) Fi.hr Fi.hg Fi.tw rfl (l_cons (e_var 0) (l_cons (e_int) (l_nil)))))
theorem ok_is_fivefold (T : Tp K mg) : DefV P w K mg base "is_fivefold" s_is_fivefold 5 ["value"] m_is_fivefold := defV_mk (T.glo 54) (T.fd 41 (d := dd_is_fivefold)) sc_is_fivefold (fun _ _ _ _ _ _ us hl => match us, hl with | [_], _ => rfl) rfl (w_is_fivefold T)
theorem sc_check_five : FnScope N_check_five ["value"] (defScope s_check_five) := ⟨rfl, rfl, rfl, by decide +kernel, rfl, by decide +kernel, by decide +kernel⟩
theorem w_check_five (T : Tp K mg) : Walk P w K mg base "check_five" s_check_five 5 N_check_five [] m_check_fiveB := fun fa cdv A outer s H E Fi => b_one (s_if (t_not (t_val (e_callV (ok_is_fivefold T) Fi.hr Fi.hg Fi.tw rfl (l_cons (e_var 0) (l_nil))))) (b_one (s_no)) (b_nil))
theorem ok_check_five (T : Tp K mg) : DefV P w K mg base "check_five" s_check_five 6 ["value"] m_check_five := defV_mk (T.glo 55) (T.fd 42 (d := dd_check_five)) sc_check_five (fun _ _ _ _ _ _ us hl => match us, hl with | [_], _ => rfl) rfl (w_check_five T)
theorem sc_check_needle : FnScope N_check_needle ["five", "heading"] (defScope s_check_needle) := ⟨rfl, rfl, rfl, by decide +kernel, rfl, by decide +kernel, by decide +kernel⟩
theorem w_check_needle (T : Tp K mg) : Walk P w K mg base "check_needle" s_check_needle 6 N_check_needle [] m_check_needleB := fun fa cdv A outer s H E Fi => b_cons (s_expr (e_callV (ok_check_five T) Fi.hr Fi.hg Fi.tw rfl (l_cons (e_var 0) (l_nil)))) (b_one (s_expr (e_callV (ok_check_heading T) Fi.hr Fi.hg Fi.tw rfl (l_cons (e_var 1) (l_nil)))))
theorem ok_check_needle (T : Tp K mg) : DefV P w K mg base "check_needle" s_check_needle 7 ["five", "heading"] m_check_needle := defV_mk (T.glo 56) (T.fd 43 (d := dd_check_needle)) sc_check_needle (fun _ _ _ _ _ _ us hl => match us, hl with | [_, _], _ => rfl) rfl (w_check_needle T)
theorem sc_ship_rows : FnScope N_ship_rows ["five"] (defScope s_ship_rows) := ⟨rfl, rfl, rfl, by decide +kernel, rfl, by decide +kernel, by decide +kernel⟩
theorem w_ship_rows (T : Tp K mg) : Walk P w K mg base "ship_rows" s_ship_rows 3 N_ship_rows [] m_ship_rowsB := fun fa cdv A outer s H E Fi => b_cons (s_asg (e_var 0) (g_tup rfl (gs_cons (g_name 2 Fi.nd) (gs_cons (g_name 3 Fi.nd) (gs_cons (g_name 4 Fi.nd) (gs_cons (g_name 5 Fi.nd) (gs_cons (g_name 6 Fi.nd) (gs_nil)))))) (hg := gn_cons (gN_noer _) (gn_cons (gN_noer _) (gn_cons (gN_noer _) (gn_cons (gN_noer _) (gn_cons (gN_noer _) (gn_nil)))))))) (b_cons (s_set 1 Fi.nd (e_tup (l_cons (e_var 3) (l_cons (e_callV (ok_ratio_sum T) Fi.hr Fi.hg Fi.tw rfl (l_cons (e_con (T.con 37 (d := (.tup [(.int 1), (.int 1)])))) (l_cons (e_var 5) (l_nil)))) (l_cons (e_callV (ok_ratio_less T) Fi.hr Fi.hg Fi.tw rfl (l_cons (e_var 2) (l_cons (e_var 6) (l_nil)))) (l_nil)))) (len_cons (len_cons (len_cons len_nil))))) (b_one (s_ret (e_tup (l_cons (e_var 1) (l_cons (e_tup (l_cons (e_var 4) (l_cons (e_callV (ok_ratio_sum T) Fi.hr Fi.hg Fi.tw rfl (l_cons (e_var 2) (l_cons (e_var 6) (l_nil)))) (l_cons (e_callV (ok_ratio_less T) Fi.hr Fi.hg Fi.tw rfl (l_cons (e_var 5) (l_cons (e_con (T.con 37 (d := (.tup [(.int 1), (.int 1)])))) (l_nil)))) (l_nil)))) (len_cons (len_cons (len_cons len_nil)))) (l_nil))) (len_cons (len_cons len_nil))))))
theorem ok_ship_rows (T : Tp K mg) : DefV P w K mg base "ship_rows" s_ship_rows 4 ["five"] m_ship_rows := defV_mk (T.glo 57) (T.fd 44 (d := dd_ship_rows)) sc_ship_rows (fun _ _ _ _ _ _ us hl => match us, hl with | [_], _ => rfl) rfl (w_ship_rows T)
theorem sc_row_value : FnScope N_row_value ["row", "heading"] (defScope s_row_value) := ⟨rfl, rfl, rfl, by decide +kernel, rfl, by decide +kernel, by decide +kernel⟩
theorem w_row_value (T : Tp K mg) : Walk P w K mg base "row_value" s_row_value 3 N_row_value [] m_row_valueB := fun fa cdv A outer s H E Fi => b_one (s_ret (e_callV (ok_ratio_sum T) Fi.hr Fi.hg Fi.tw rfl (l_cons (e_ix ix_A ix_d (e_var 0) (e_int) (by intro _ _; rfl)) (l_cons (e_callV (ok_ratio_sum T) Fi.hr Fi.hg Fi.tw rfl (l_cons (e_callV (ok_ratio_product T) Fi.hr Fi.hg Fi.tw rfl (l_cons (e_ix ix_A ix_d (e_var 0) (e_int) (by intro _ _; rfl)) (l_cons (e_ix ix_A ix_d (e_var 1) (e_int) (by intro _ _; rfl)) (l_nil)))) (l_cons (e_callV (ok_ratio_product T) Fi.hr Fi.hg Fi.tw rfl (l_cons (e_ix ix_A ix_d (e_var 0) (e_int) (by intro _ _; rfl)) (l_cons (e_ix ix_A ix_d (e_var 1) (e_int) (by intro _ _; rfl)) (l_nil)))) (l_nil)))) (l_nil)))))
theorem ok_row_value (T : Tp K mg) : DefV P w K mg base "row_value" s_row_value 4 ["row", "heading"] m_row_value := defV_mk (T.glo 58) (T.fd 45 (d := dd_row_value)) sc_row_value (fun _ _ _ _ _ _ us hl => match us, hl with | [_, _], _ => rfl) rfl (w_row_value T)
theorem sc_reduced : FnScope N_reduced ["numbers"] (defScope s_reduced) := ⟨rfl, rfl, rfl, by decide +kernel, rfl, by decide +kernel, by decide +kernel⟩
theorem w_reduced (T : Tp K mg) : Walk P w K mg base "reduced" s_reduced 1 N_reduced [] m_reducedB := fun fa cdv A outer s H E Fi => b_cons (s_set 1 Fi.nd (e_callV (ok_divisor_of T) Fi.hr Fi.hg Fi.tw rfl (l_cons (e_var 0) (l_nil)))) (b_one (s_ret (e_if (t_cmp op_gt gt_d (e_var 1) (e_int) (nomark _)) (e_callTy call_tuple_of tuple_d rfl (T.free 7) boot_tuple (l_cons (e_new (n_lc (n := 3) (fx' := [0, 1]) (own := [("number", 2)]) rfl Fi.nd (i_seq (e_var 0)) (⟨rfl, by decide +kernel, by decide +kernel, by decide +kernel, by decide +kernel⟩ : BlkOk N_reduced (defScope s_reduced) _ [("number", 2)]) (fun _ _ _ _ _ => g_name 2 Fi.nd) (fun _ _ _ _ _ => if_nil) (fun _ _ _ _ _ => e_bin op_divG div_d (e_var 2) (e_var 1)) (by decide))) (l_nil))) (e_callTy call_tuple_of tuple_d rfl (T.free 7) boot_tuple (l_cons (e_var 0) (l_nil))))))
theorem ok_reduced (T : Tp K mg) : DefV P w K mg base "reduced" s_reduced 2 ["numbers"] m_reduced := defV_mk (T.glo 60) (T.fd 46 (d := dd_reduced)) sc_reduced (fun _ _ _ _ _ _ us hl => match us, hl with | [_], _ => rfl) rfl (w_reduced T)
theorem sc_way_along : FnScope N_way_along ["right", "up"] (defScope s_way_along) := ⟨rfl, rfl, rfl, by decide +kernel, rfl, by decide +kernel, by decide +kernel⟩
theorem w_way_along (T : Tp K mg) : Walk P w K mg base "way_along" s_way_along 2 N_way_along [] m_way_alongB := fun fa cdv A outer s H E Fi => b_one (s_ret (e_callV (ok_reduced T) Fi.hr Fi.hg Fi.tw rfl (l_cons (e_tup (l_cons (e_bin op_mulA mul_d (e_ix ix_A ix_d (e_var 0) (e_int) (by intro _ _; rfl)) (e_ix ix_A ix_d (e_var 1) (e_int) (by intro _ _; rfl))) (l_cons (e_bin op_mulA mul_d (e_ix ix_A ix_d (e_var 1) (e_int) (by intro _ _; rfl)) (e_ix ix_A ix_d (e_var 0) (e_int) (by intro _ _; rfl))) (l_nil))) (len_cons (len_cons len_nil))) (l_nil))))
theorem ok_way_along (T : Tp K mg) : DefV P w K mg base "way_along" s_way_along 3 ["right", "up"] m_way_along := defV_mk (T.glo 61) (T.fd 47 (d := dd_way_along)) sc_way_along (fun _ _ _ _ _ _ us hl => match us, hl with | [_, _], _ => rfl) rfl (w_way_along T)
theorem sc_ratio_back : FnScope N_ratio_back ["one"] (defScope s_ratio_back) := ⟨rfl, rfl, rfl, by decide +kernel, rfl, by decide +kernel, by decide +kernel⟩
theorem w_ratio_back (T : Tp K mg) : Walk P w K mg base "ratio_back" s_ratio_back 0 N_ratio_back [] m_ratio_backB := fun fa cdv A outer s H E Fi => b_one (s_ret (e_tup (l_cons (e_un un_neg neg_d (e_ix ix_A ix_d (e_var 0) (e_int) (by intro _ _; rfl))) (l_cons (e_ix ix_A ix_d (e_var 0) (e_int) (by intro _ _; rfl)) (l_nil))) (len_cons (len_cons len_nil))))
theorem ok_ratio_back (T : Tp K mg) : DefV P w K mg base "ratio_back" s_ratio_back 1 ["one"] m_ratio_back := defV_mk (T.glo 62) (T.fd 48 (d := dd_ratio_back)) sc_ratio_back (fun _ _ _ _ _ _ us hl => match us, hl with | [_], _ => rfl) rfl (w_ratio_back T)
theorem sc_course_shown : FnScope N_course_shown ["five", "heading"] (defScope s_course_shown) := ⟨rfl, rfl, rfl, by decide +kernel, rfl, by decide +kernel, by decide +kernel⟩
theorem w_course_shown (T : Tp K mg) : Walk P w K mg base "course_shown" s_course_shown 4 N_course_shown [] m_course_shownB := fun fa cdv A outer s H E Fi => b_cons (s_asg (e_new (n_lc (n := 5) (fx' := [0, 1, 2, 3]) (own := [("row", 4)]) rfl Fi.nd (i_seq (e_callV (ok_ship_rows T) Fi.hr Fi.hg Fi.tw rfl (l_cons (e_var 0) (l_nil)))) (⟨rfl, by decide +kernel, by decide +kernel, by decide +kernel, by decide +kernel⟩ : BlkOk N_course_shown (defScope s_course_shown) _ [("row", 4)]) (fun _ _ _ _ _ => g_name 4 Fi.nd) (fun _ _ _ _ _ => if_nil) (fun _ _ _ _ _ => e_callV (ok_row_value T) Fi.hr Fi.hg takes0 rfl (l_cons (e_var 4) (l_cons (e_var 1) (l_nil)))) (by decide))) (g_tup rfl (gs_cons (g_name 2 Fi.nd) (gs_cons (g_name 3 Fi.nd) (gs_nil))) (hg := gn_cons (gN_noer _) (gn_cons (gN_noer _) (gn_nil))))) (b_one (s_ret (e_if (t_w (w_and (t_cmp (op_eqA Fi.un) eq_d (e_var 2) (e_con (T.con 59 (d := (.tup [(.int 0), (.int 1)])))) (nomark _)) (w_and1 (t_cmp (op_eqA Fi.un) eq_d (e_var 3) (e_con (T.con 59 (d := (.tup [(.int 0), (.int 1)])))) (nomark _))))) (e_non) (e_callV (ok_way_along T) Fi.hr Fi.hg Fi.tw rfl (l_cons (e_var 2) (l_cons (e_callV (ok_ratio_back T) Fi.hr Fi.hg Fi.tw rfl (l_cons (e_var 3) (l_nil))) (l_nil)))))))
theorem ok_course_shown (T : Tp K mg) : DefV P w K mg base "course_shown" s_course_shown 5 ["five", "heading"] m_course_shown := defV_mk (T.glo 63) (T.fd 49 (d := dd_course_shown)) sc_course_shown (fun _ _ _ _ _ _ us hl => match us, hl with | [_, _], _ => rfl) rfl (w_course_shown T)
theorem sc_course_at : FnScope N_course_at ["five", "heading"] (defScope s_course_at) := ⟨rfl, rfl, rfl, by decide +kernel, rfl, by decide +kernel, by decide +kernel⟩
theorem w_course_at (T : Tp K mg) : Walk P w K mg base "course_at" s_course_at 7 N_course_at [] m_course_atB := fun fa cdv A outer s H E Fi => b_cons (s_expr (e_callV (ok_check_needle T) Fi.hr Fi.hg Fi.tw rfl (l_cons (e_var 0) (l_cons (e_var 1) (l_nil))))) (b_one (s_ret (e_callV (ok_course_shown T) Fi.hr Fi.hg Fi.tw rfl (l_cons (e_var 0) (l_cons (e_var 1) (l_nil))))))
theorem ok_course_at (T : Tp K mg) : DefV P w K mg base "course_at" s_course_at 8 ["five", "heading"] m_course_at := defV_mk (T.glo 64) (T.fd 50 (d := dd_course_at)) sc_course_at (fun _ _ _ _ _ _ us hl => match us, hl with | [_, _], _ => rfl) rfl (w_course_at T)
theorem sc__law_ray : FnScope N__law_ray ["_law_x", "_law_y"] (defScope s__law_ray) := ⟨rfl, rfl, rfl, by decide +kernel, rfl, by decide +kernel, by decide +kernel⟩
theorem w__law_ray (T : Tp K mg) : Walk P w K mg base "_law_ray" s__law_ray 2 N__law_ray [] m_law_rayB := fun fa cdv A outer s H E Fi => b_one (s_ret (e_callV (ok__law_low T) Fi.hr Fi.hg Fi.tw rfl (l_cons (e_tup (l_cons (e_bin op_mulA mul_d (e_ix ix_A ix_d (e_var 0) (e_int) (by intro _ _; rfl)) (e_ix ix_A ix_d (e_var 1) (e_int) (by intro _ _; rfl))) (l_cons (e_bin op_mulA mul_d (e_ix ix_A ix_d (e_var 1) (e_int) (by intro _ _; rfl)) (e_ix ix_A ix_d (e_var 0) (e_int) (by intro _ _; rfl))) (l_nil))) (len_cons (len_cons len_nil))) (l_nil))))
theorem ok__law_ray (T : Tp K mg) : DefV P w K mg base "_law_ray" s__law_ray 3 ["_law_x", "_law_y"] m_law_ray := defV_mk (T.glo 66) (T.fd 51 (d := dd__law_ray)) sc__law_ray (fun _ _ _ _ _ _ us hl => match us, hl with | [_, _], _ => rfl) rfl (w__law_ray T)
theorem sc__law_shown : FnScope N__law_shown ["_law_five", "_law_heading_here"] (defScope s__law_shown) := ⟨rfl, rfl, rfl, by decide +kernel, rfl, by decide +kernel, by decide +kernel⟩
theorem w__law_shown (T : Tp K mg) : Walk P w K mg base "_law_shown" s__law_shown 6 N__law_shown [] m_law_shownB := fun fa cdv A outer s H E Fi => b_cons (s_asg (e_callV (ok__law_ship T) Fi.hr Fi.hg Fi.tw rfl (l_cons (e_var 0) (l_cons (e_var 1) (l_nil)))) (g_tup rfl (gs_cons (g_name 2 Fi.nd) (gs_cons (g_name 3 Fi.nd) (gs_nil))) (hg := gn_cons (gN_noer _) (gn_cons (gN_noer _) (gn_nil))))) (b_one (s_ret (e_if (t_w (w_or (t_cmp (op_neA Fi.un) ne_d (e_ix ix_A ix_d (e_var 2) (e_int) (by intro _ _; rfl)) (e_int) (nomark _)) (w_or1 (t_cmp (op_neA Fi.un) ne_d (e_ix ix_A ix_d (e_var 3) (e_int) (by intro _ _; rfl)) (e_int) (nomark _))))) (e_callV (ok__law_ray T) Fi.hr Fi.hg Fi.tw rfl (l_cons (e_var 2) (l_cons (e_callV (ok__law_back T) Fi.hr Fi.hg Fi.tw rfl (l_cons (e_var 3) (l_nil))) (l_nil)))) (e_non))))
theorem ok__law_shown (T : Tp K mg) : DefV P w K mg base "_law_shown" s__law_shown 7 ["_law_five", "_law_heading_here"] m_law_shown := defV_mk (T.glo 67) (T.fd 52 (d := dd__law_shown)) sc__law_shown (fun _ _ _ _ _ _ us hl => match us, hl with | [_, _], _ => rfl) rfl (w__law_shown T)
theorem sc_gauss_less : FnScope N_gauss_less ["one", "two"] (defScope s_gauss_less) := ⟨rfl, rfl, rfl, by decide +kernel, rfl, by decide +kernel, by decide +kernel⟩
theorem w_gauss_less (T : Tp K mg) : Walk P w K mg base "gauss_less" s_gauss_less 3 N_gauss_less [] m_gauss_lessB := fun fa cdv A outer s H E Fi => b_one (s_ret (e_tup (l_cons (e_callV (ok_ratio_less T) Fi.hr Fi.hg Fi.tw rfl (l_cons (e_ix ix_A ix_d (e_var 0) (e_int) (by intro _ _; rfl)) (l_cons (e_ix ix_A ix_d (e_var 1) (e_int) (by intro _ _; rfl)) (l_nil)))) (l_cons (e_callV (ok_ratio_less T) Fi.hr Fi.hg Fi.tw rfl (l_cons (e_ix ix_A ix_d (e_var 0) (e_int) (by intro _ _; rfl)) (l_cons (e_ix ix_A ix_d (e_var 1) (e_int) (by intro _ _; rfl)) (l_nil)))) (l_nil))) (len_cons (len_cons len_nil))))
theorem ok_gauss_less (T : Tp K mg) : DefV P w K mg base "gauss_less" s_gauss_less 4 ["one", "two"] m_gauss_less := defV_mk (T.glo 68) (T.fd 53 (d := dd_gauss_less)) sc_gauss_less (fun _ _ _ _ _ _ us hl => match us, hl with | [_, _], _ => rfl) rfl (w_gauss_less T)
theorem sc_conjugate : FnScope N_conjugate ["one"] (defScope s_conjugate) := ⟨rfl, rfl, rfl, by decide +kernel, rfl, by decide +kernel, by decide +kernel⟩
theorem w_conjugate (T : Tp K mg) : Walk P w K mg base "conjugate" s_conjugate 1 N_conjugate [] m_conjugateB := fun fa cdv A outer s H E Fi => b_one (s_ret (e_tup (l_cons (e_ix ix_A ix_d (e_var 0) (e_int) (by intro _ _; rfl)) (l_cons (e_callV (ok_ratio_back T) Fi.hr Fi.hg Fi.tw rfl (l_cons (e_ix ix_A ix_d (e_var 0) (e_int) (by intro _ _; rfl)) (l_nil))) (l_nil))) (len_cons (len_cons len_nil))))
theorem ok_conjugate (T : Tp K mg) : DefV P w K mg base "conjugate" s_conjugate 2 ["one"] m_conjugate := defV_mk (T.glo 69) (T.fd 54 (d := dd_conjugate)) sc_conjugate (fun _ _ _ _ _ _ us hl => match us, hl with | [_], _ => rfl) rfl (w_conjugate T)
theorem sc_numbers_of : FnScope N_numbers_of ["five"] (defScope s_numbers_of) := ⟨rfl, rfl, rfl, by decide +kernel, rfl, by decide +kernel, by decide +kernel⟩
theorem w_numbers_of (T : Tp K mg) : Walk P w K mg base "numbers_of" s_numbers_of 4 N_numbers_of [] m_numbers_ofB := fun fa cdv A outer s H E Fi => b_cons (s_par3 3 4 5 rfl Fi.nd (l_cons (e_tup (l_cons (e_con (T.con 37 (d := (.tup [(.int 1), (.int 1)])))) (l_cons (e_ix ix_A ix_d (e_var 0) (e_int) (by intro _ _; rfl)) (l_nil))) (len_cons (len_cons len_nil))) (l_cons (e_tup (l_cons (e_ix ix_A ix_d (e_var 0) (e_int) (by intro _ _; rfl)) (l_cons (e_ix ix_A ix_d (e_var 0) (e_int) (by intro _ _; rfl)) (l_nil))) (len_cons (len_cons len_nil))) (l_cons (e_tup (l_cons (e_ix ix_A ix_d (e_var 0) (e_int) (by intro _ _; rfl)) (l_cons (e_ix ix_A ix_d (e_var 0) (e_int) (by intro _ _; rfl)) (l_nil))) (len_cons (len_cons len_nil))) (l_nil))))) (b_cons (s_set 1 Fi.nd (e_callV (ok_ratio_less T) Fi.hr Fi.hg Fi.tw rfl (l_cons (e_callV (ok_square_length T) Fi.hr Fi.hg Fi.tw rfl (l_cons (e_var 3) (l_nil))) (l_cons (e_callV (ok_square_length T) Fi.hr Fi.hg Fi.tw rfl (l_cons (e_var 5) (l_nil))) (l_nil))))) (b_cons (s_set 2 Fi.nd (e_callV (ok_gauss_less T) Fi.hr Fi.hg Fi.tw rfl (l_cons (e_callV (ok_gauss_product T) Fi.hr Fi.hg Fi.tw rfl (l_cons (e_callV (ok_conjugate T) Fi.hr Fi.hg Fi.tw rfl (l_cons (e_var 3) (l_nil))) (l_cons (e_var 4) (l_nil)))) (l_cons (e_callV (ok_gauss_product T) Fi.hr Fi.hg Fi.tw rfl (l_cons (e_var 5) (l_cons (e_callV (ok_conjugate T) Fi.hr Fi.hg Fi.tw rfl (l_cons (e_var 4) (l_nil))) (l_nil)))) (l_nil))))) (b_one (s_ret (e_tup (l_cons (e_var 1) (l_cons (e_ix ix_A ix_d (e_var 2) (e_int) (by intro _ _; rfl)) (l_cons (e_ix ix_A ix_d (e_var 2) (e_int) (by intro _ _; rfl)) (l_nil)))) (len_cons (len_cons (len_cons len_nil))))))))
theorem ok_numbers_of (T : Tp K mg) : DefV P w K mg base "numbers_of" s_numbers_of 5 ["five"] m_numbers_of := defV_mk (T.glo 70) (T.fd 55 (d := dd_numbers_of)) sc_numbers_of (fun _ _ _ _ _ _ us hl => match us, hl with | [_], _ => rfl) rfl (w_numbers_of T)
theorem sc_is_straight : FnScope N_is_straight ["numbers"] (defScope s_is_straight) := ⟨rfl, rfl, rfl, by decide +kernel, rfl, by decide +kernel, by decide +kernel⟩
theorem w_is_straight (T : Tp K mg) : Walk P w K mg base "is_straight" s_is_straight 0 N_is_straight [] m_is_straightB := fun fa cdv A outer s H E Fi => b_one (s_ret (e_cmp (op_eqA Fi.un) eq_d (e_var 0) (e_tup (l_cons (e_con (T.con 59 (d := (.tup [(.int 0), (.int 1)])))) (l_cons (e_con (T.con 59 (d := (.tup [(.int 0), (.int 1)])))) (l_cons (e_con (T.con 59 (d := (.tup [(.int 0), (.int 1)])))) (l_nil)))) (len_cons (len_cons (len_cons len_nil)))) (nomark _)))
theorem ok_is_straight (T : Tp K mg) : DefV P w K mg base "is_straight" s_is_straight 1 ["numbers"] m_is_straight := defV_mk (T.glo 71) (T.fd 56 (d := dd_is_straight)) sc_is_straight (fun _ _ _ _ _ _ us hl => match us, hl with | [_], _ => rfl) rfl (w_is_straight T)
theorem sc_is_lower : FnScope N_is_lower ["one", "two"] (defScope s_is_lower) := ⟨rfl, rfl, rfl, by decide +kernel, rfl, by decide +kernel, by decide +kernel⟩
theorem w_is_lower (T : Tp K mg) : Walk P w K mg base "is_lower" s_is_lower 0 N_is_lower [] m_is_lowerB := fun fa cdv A outer s H E Fi => b_one (s_ret (e_cmp op_lt lt_d (e_bin op_mulA mul_d (e_ix ix_A ix_d (e_var 0) (e_int) (by intro _ _; rfl)) (e_ix ix_A ix_d (e_var 1) (e_int) (by intro _ _; rfl))) (e_bin op_mulA mul_d (e_ix ix_A ix_d (e_var 1) (e_int) (by intro _ _; rfl)) (e_ix ix_A ix_d (e_var 0) (e_int) (by intro _ _; rfl))) (nomark _)))
theorem ok_is_lower (T : Tp K mg) : DefV P w K mg base "is_lower" s_is_lower 1 ["one", "two"] m_is_lower := defV_mk (T.glo 73) (T.fd 57 (d := dd_is_lower)) sc_is_lower (fun _ _ _ _ _ _ us hl => match us, hl with | [_, _], _ => rfl) rfl (w_is_lower T)
theorem sc_word_for : FnScope N_word_for ["five"] (defScope s_word_for) := ⟨rfl, rfl, rfl, by decide +kernel, rfl, by decide +kernel, by decide +kernel⟩
theorem w_word_for (T : Tp K mg) : Walk P w K mg base "word_for" s_word_for 5 N_word_for [] m_word_forB := fun fa cdv A outer s H E Fi => b_cons (s_set 1 Fi.nd (e_callV (ok_numbers_of T) Fi.hr Fi.hg Fi.tw rfl (l_cons (e_var 0) (l_nil)))) (b_cons (s_if (t_val (e_callV (ok_is_straight T) Fi.hr Fi.hg Fi.tw rfl (l_cons (e_var 1) (l_nil)))) (b_cons (s_set 2 Fi.nd (e_callV (ok_ratio_product T) Fi.hr Fi.hg Fi.tw rfl (l_cons (e_con (T.con 72 (d := (.tup [(.int 4), (.int 1)])))) (l_cons (e_callV (ok_square_length T) Fi.hr Fi.hg Fi.tw rfl (l_cons (e_tup (l_cons (e_con (T.con 37 (d := (.tup [(.int 1), (.int 1)])))) (l_cons (e_ix ix_A ix_d (e_var 0) (e_int) (by intro _ _; rfl)) (l_nil))) (len_cons (len_cons len_nil))) (l_nil))) (l_nil))))) (b_one (s_ret (e_if (t_val (e_callV (ok_is_lower T) Fi.hr Fi.hg Fi.tw rfl (l_cons (e_var 2) (l_cons (e_callV (ok_square_length T) Fi.hr Fi.hg Fi.tw rfl (l_cons (e_tup (l_cons (e_ix ix_A ix_d (e_var 0) (e_int) (by intro _ _; rfl)) (l_cons (e_ix ix_A ix_d (e_var 0) (e_int) (by intro _ _; rfl)) (l_nil))) (len_cons (len_cons len_nil))) (l_nil))) (l_nil))))) (e_str) (e_str))))) (b_nil)) (b_cons (s_par 3 4 rfl Fi.nd (l_cons (e_callV (ok_ratio_product T) Fi.hr Fi.hg Fi.tw rfl (l_cons (e_ix ix_A ix_d (e_var 1) (e_int) (by intro _ _; rfl)) (l_cons (e_ix ix_A ix_d (e_var 1) (e_int) (by intro _ _; rfl)) (l_nil)))) (l_cons (e_callV (ok_square_length T) Fi.hr Fi.hg Fi.tw rfl (l_cons (e_slice (e_var 1) (o_some (e_int)) (o_none)) (l_nil))) (l_nil)))) (b_cons (s_if (t_val (e_callV (ok_is_lower T) Fi.hr Fi.hg Fi.tw rfl (l_cons (e_var 3) (l_cons (e_var 4) (l_nil))))) (b_one (s_ret (e_str))) (b_nil)) (b_cons (s_if (t_cmp (op_eqA Fi.un) eq_d (e_var 3) (e_var 4) (nomark _)) (b_one (s_ret (e_str))) (b_nil)) (b_one (s_ret (e_if (t_cmp op_gt gt_d (e_ix ix_A ix_d (e_ix ix_A ix_d (e_var 1) (e_int) (by intro _ _; rfl)) (e_int) (by intro _ _; rfl)) (e_int) (nomark _)) (e_str) (e_str))))))))
theorem ok_word_for (T : Tp K mg) : DefV P w K mg base "word_for" s_word_for 6 ["five"] m_word_for := defV_mk (T.glo 74) (T.fd 58 (d := dd_word_for)) sc_word_for (fun _ _ _ _ _ _ us hl => match us, hl with | [_], _ => rfl) rfl (w_word_for T)
theorem sc_is_nought_row : FnScope N_is_nought_row ["row"] (defScope s_is_nought_row) := ⟨rfl, rfl, rfl, by decide +kernel, rfl, by decide +kernel, by decide +kernel⟩
theorem w_is_nought_row (T : Tp K mg) : Walk P w K mg base "is_nought_row" s_is_nought_row 0 N_is_nought_row [] m_is_nought_rowB := fun fa cdv A outer s H E Fi => b_one (s_ret (e_and (e_cmp (op_eqA Fi.un) eq_d (e_ix ix_A ix_d (e_var 0) (e_int) (by intro _ _; rfl)) (e_con (T.con 59 (d := (.tup [(.int 0), (.int 1)])))) (nomark _)) (e_one (e_cmp (op_eqA Fi.un) eq_d (e_ix ix_A ix_d (e_var 0) (e_int) (by intro _ _; rfl)) (e_con (T.con 59 (d := (.tup [(.int 0), (.int 1)])))) (nomark _)))))
theorem ok_is_nought_row (T : Tp K mg) : DefV P w K mg base "is_nought_row" s_is_nought_row 1 ["row"] m_is_nought_row := defV_mk (T.glo 75) (T.fd 59 (d := dd_is_nought_row)) sc_is_nought_row (fun _ _ _ _ _ _ us hl => match us, hl with | [_], _ => rfl) rfl (w_is_nought_row T)
theorem sc_sign_of : FnScope N_sign_of ["number"] (defScope s_sign_of) := ⟨rfl, rfl, rfl, by decide +kernel, rfl, by decide +kernel, by decide +kernel⟩
theorem w_sign_of (T : Tp K mg) : Walk P w K mg base "sign_of" s_sign_of 0 N_sign_of [] m_sign_ofB := fun fa cdv A outer s H E Fi => b_one (s_ret (e_if (t_cmp op_gt gt_d (e_var 0) (e_int) (nomark _)) (e_int) (e_if (t_cmp op_lt lt_d (e_var 0) (e_int) (nomark _)) (e_un un_neg neg_d (e_int)) (e_int))))
theorem ok_sign_of (T : Tp K mg) : DefV P w K mg base "sign_of" s_sign_of 1 ["number"] m_sign_of := defV_mk (T.glo 80) (T.fd 60 (d := dd_sign_of)) sc_sign_of (fun _ _ _ _ _ _ us hl => match us, hl with | [_], _ => rfl) rfl (w_sign_of T)
theorem sc_square_root : FnScope N_square_root ["number"] (defScope s_square_root) := ⟨rfl, rfl, rfl, by decide +kernel, rfl, by decide +kernel, by decide +kernel⟩
theorem w_square_root (T : Tp K mg) : Walk P w K mg base "square_root" s_square_root 0 N_square_root [] m_square_rootB := fun fa cdv A outer s H E Fi => b_cons (s_par 1 2 rfl Fi.nd (l_cons (e_callF cr_isqrt isqrt_d rfl (T.bi 81) (l_cons (e_ix ix_A ix_d (e_var 0) (e_int) (by intro _ _; rfl)) (l_nil))) (l_cons (e_callF cr_isqrt isqrt_d rfl (T.bi 81) (l_cons (e_ix ix_A ix_d (e_var 0) (e_int) (by intro _ _; rfl)) (l_nil))) (l_nil)))) (b_one (s_ret (e_if (t_w (w_and (t_cmp (op_eqA Fi.un) eq_d (e_bin op_mulA mul_d (e_var 1) (e_var 1)) (e_ix ix_A ix_d (e_var 0) (e_int) (by intro _ _; rfl)) (nomark _)) (w_and1 (t_cmp (op_eqA Fi.un) eq_d (e_bin op_mulA mul_d (e_var 2) (e_var 2)) (e_ix ix_A ix_d (e_var 0) (e_int) (by intro _ _; rfl)) (nomark _))))) (e_tup (l_cons (e_var 1) (l_cons (e_var 2) (l_nil))) (len_cons (len_cons len_nil))) (e_non))))
theorem ok_square_root (T : Tp K mg) : DefV P w K mg base "square_root" s_square_root 1 ["number"] m_square_root := defV_mk (T.glo 82) (T.fd 61 (d := dd_square_root)) sc_square_root (fun _ _ _ _ _ _ us hl => match us, hl with | [_], _ => rfl) rfl (w_square_root T)
theorem sc_plain : FnScope N_plain ["number"] (defScope s_plain) := ⟨rfl, rfl, rfl, by decide +kernel, rfl, by decide +kernel, by decide +kernel⟩
theorem w_plain (T : Tp K mg) : Walk P w K mg base "plain" s_plain 0 N_plain [] m_plainB := fun fa cdv A outer s H E Fi => b_one (s_ret (e_tup (l_cons (e_var 0) (l_cons (e_int) (l_cons (e_con (T.con 59 (d := (.tup [(.int 0), (.int 1)])))) (l_nil)))) (len_cons (len_cons (len_cons len_nil)))))
theorem ok_plain (T : Tp K mg) : DefV P w K mg base "plain" s_plain 1 ["number"] m_plain := defV_mk (T.glo 83) (T.fd 62 (d := dd_plain)) sc_plain (fun _ _ _ _ _ _ us hl => match us, hl with | [_], _ => rfl) rfl (w_plain T)
theorem sc_surd_from : FnScope N_surd_from ["part", "factor", "square"] (defScope s_surd_from) := ⟨rfl, rfl, rfl, by decide +kernel, rfl, by decide +kernel, by decide +kernel⟩
theorem w_surd_from (T : Tp K mg) : Walk P w K mg base "surd_from" s_surd_from 3 N_surd_from [] m_surd_fromB := fun fa cdv A outer s H E Fi => b_cons (s_set 3 Fi.nd (e_callV (ok_ratio_product T) Fi.hr Fi.hg Fi.tw rfl (l_cons (e_callV (ok_ratio_product T) Fi.hr Fi.hg Fi.tw rfl (l_cons (e_var 1) (l_cons (e_var 1) (l_nil)))) (l_cons (e_var 2) (l_nil))))) (b_cons (s_par 4 5 rfl Fi.nd (l_cons (e_callV (ok_square_root T) Fi.hr Fi.hg Fi.tw rfl (l_cons (e_var 3) (l_nil))) (l_cons (e_callV (ok_sign_of T) Fi.hr Fi.hg Fi.tw rfl (l_cons (e_ix ix_A ix_d (e_var 1) (e_int) (by intro _ _; rfl)) (l_nil))) (l_nil)))) (b_cons (s_if (t_cmp op_isA is_d (e_var 4) (e_non) (nomark _)) (b_one (s_ret (e_tup (l_cons (e_var 0) (l_cons (e_var 5) (l_cons (e_var 3) (l_nil)))) (len_cons (len_cons (len_cons len_nil)))))) (b_nil)) (b_one (s_ret (e_callV (ok_plain T) Fi.hr Fi.hg Fi.tw rfl (l_cons (e_callV (ok_ratio_sum T) Fi.hr Fi.hg Fi.tw rfl (l_cons (e_var 0) (l_cons (e_tup (l_cons (e_bin op_mulA mul_d (e_var 5) (e_ix ix_A ix_d (e_var 4) (e_int) (by intro _ _; rfl))) (l_cons (e_ix ix_A ix_d (e_var 4) (e_int) (by intro _ _; rfl)) (l_nil))) (len_cons (len_cons len_nil))) (l_nil)))) (l_nil)))))))
theorem ok_surd_from (T : Tp K mg) : DefV P w K mg base "surd_from" s_surd_from 4 ["part", "factor", "square"] m_surd_from := defV_mk (T.glo 84) (T.fd 63 (d := dd_surd_from)) sc_surd_from (fun _ _ _ _ _ _ us hl => match us, hl with | [_, _, _], _ => rfl) rfl (w_surd_from T)
theorem sc_Point_surds : FnScope N_Point_surds ["self"] (defScope s_Point_surds) := ⟨rfl, rfl, rfl, by decide +kernel, rfl, by decide +kernel, by decide +kernel⟩
theorem w_Point_surds (T : Tp K mg) : Walk P w K mg base "Point.surds" s_Point_surds 4 N_Point_surds [] m_Point_surdsB := fun fa cdv A outer s H E Fi => b_one (s_ret (e_callTy call_tuple_of tuple_d rfl (T.free 7) boot_tuple (l_cons (e_new (n_lc (n := 3) (fx' := [0]) (own := [("part", 1), ("factor", 2)]) rfl Fi.nd (i_seq (e_tup (l_cons (e_fld (T.glo 76) (T.fa 77 (f := .cls "Point")) (T.fa 79 (f := .noat "Point" "cosine")) (e_var 0)) (l_cons (e_fld (T.glo 76) (T.fa 77 (f := .cls "Point")) (T.fa 78 (f := .noat "Point" "sine")) (e_var 0)) (l_nil))) (len_cons (len_cons len_nil)))) (⟨rfl, by decide +kernel, by decide +kernel, by decide +kernel, by decide +kernel⟩ : BlkOk N_Point_surds (defScope s_Point_surds) _ [("part", 1), ("factor", 2)]) (fun _ _ _ _ _ => g_tup rfl (gs_cons (g_name 1 Fi.nd) (gs_cons (g_name 2 Fi.nd) (gs_nil))) (hg := gn_cons (gN_noer _) (gn_cons (gN_noer _) (gn_nil)))) (fun _ _ _ _ _ => if_nil) (fun _ _ _ _ _ => e_callV (ok_surd_from T) Fi.hr Fi.hg takes0 rfl (l_cons (e_var 1) (l_cons (e_var 2) (l_cons (e_fld (T.glo 76) (T.fa 77 (f := .cls "Point")) (T.fa 85 (f := .noat "Point" "square")) (e_var 0)) (l_nil))))) (by decide))) (l_nil))))
theorem ok_Point_surds (T : Tp K mg) : DefM P w K mg base "Point" "surds" s_Point_surds 5 ["self"] m_Point_surds := defM_mk (T.fd 64 (d := dd_Point_surds)) sc_Point_surds (fun _ _ _ _ _ _ us hl => match us, hl with | [_], _ => rfl) rfl (w_Point_surds T)
theorem sc_quarter_by : FnScope N_quarter_by ["cosine", "sine"] (defScope s_quarter_by) := ⟨rfl, rfl, rfl, by decide +kernel, rfl, by decide +kernel, by decide +kernel⟩
theorem w_quarter_by (T : Tp K mg) : Walk P w K mg base "quarter_by" s_quarter_by 0 N_quarter_by [] m_quarter_byB := fun fa cdv A outer s H E Fi => b_cons (s_if (t_w (w_and (t_cmp op_gt gt_d (e_var 0) (e_int) (nomark _)) (w_and1 (t_cmp op_ge ge_d (e_var 1) (e_int) (nomark _))))) (b_one (s_ret (e_int))) (b_nil)) (b_cons (s_if (t_cmp op_gt gt_d (e_var 1) (e_int) (nomark _)) (b_one (s_ret (e_int))) (b_nil)) (b_one (s_ret (e_if (t_cmp op_lt lt_d (e_var 0) (e_int) (nomark _)) (e_int) (e_int)))))
theorem ok_quarter_by (T : Tp K mg) : DefV P w K mg base "quarter_by" s_quarter_by 1 ["cosine", "sine"] m_quarter_by := defV_mk (T.glo 87) (T.fd 65 (d := dd_quarter_by)) sc_quarter_by (fun _ _ _ _ _ _ us hl => match us, hl with | [_, _], _ => rfl) rfl (w_quarter_by T)
theorem sc_sign_of_one : FnScope N_sign_of_one ["p", "q", "r"] (defScope s_sign_of_one) := ⟨rfl, rfl, rfl, by decide +kernel, rfl, by decide +kernel, by decide +kernel⟩
theorem w_sign_of_one (T : Tp K mg) : Walk P w K mg base "sign_of_one" s_sign_of_one 1 N_sign_of_one [] m_sign_of_oneB := fun fa cdv A outer s H E Fi => b_cons (s_par 3 4 rfl Fi.nd (l_cons (e_callV (ok_sign_of T) Fi.hr Fi.hg Fi.tw rfl (l_cons (e_var 0) (l_nil))) (l_cons (e_if (t_cmp op_gt gt_d (e_var 2) (e_int) (nomark _)) (e_callV (ok_sign_of T) Fi.hr Fi.hg Fi.tw rfl (l_cons (e_var 1) (l_nil))) (e_int)) (l_nil)))) (b_cons (s_if (t_w (w_or (t_cmp (op_eqA Fi.un) eq_d (e_var 3) (e_int) (nomark _)) (w_or (t_cmp (op_eqA Fi.un) eq_d (e_var 4) (e_int) (nomark _)) (w_or1 (t_cmp (op_eqA Fi.un) eq_d (e_var 3) (e_var 4) (nomark _)))))) (b_one (s_ret (e_if (t_cmp (op_neA Fi.un) ne_d (e_var 3) (e_int) (nomark _)) (e_var 3) (e_var 4)))) (b_nil)) (b_one (s_ret (e_bin op_mulA mul_d (e_var 3) (e_callV (ok_sign_of T) Fi.hr Fi.hg Fi.tw rfl (l_cons (e_bin op_sub sub_d (e_bin op_mulA mul_d (e_var 0) (e_var 0)) (e_bin op_mulA mul_d (e_bin op_mulA mul_d (e_var 1) (e_var 1)) (e_var 2))) (l_nil)))))))
theorem ok_sign_of_one (T : Tp K mg) : DefV P w K mg base "sign_of_one" s_sign_of_one 2 ["p", "q", "r"] m_sign_of_one := defV_mk (T.glo 88) (T.fd 66 (d := dd_sign_of_one)) sc_sign_of_one (fun _ _ _ _ _ _ us hl => match us, hl with | [_, _, _], _ => rfl) rfl (w_sign_of_one T)
theorem sc_sign_of_two : FnScope N_sign_of_two ["p", "q", "r", "s", "t"] (defScope s_sign_of_two) := ⟨rfl, rfl, rfl, by decide +kernel, rfl, by decide +kernel, by decide +kernel⟩
theorem w_sign_of_two (T : Tp K mg) : Walk P w K mg base "sign_of_two" s_sign_of_two 2 N_sign_of_two [] m_sign_of_twoB := fun fa cdv A outer s H E Fi => b_cons (s_par 5 6 rfl Fi.nd (l_cons (e_callV (ok_sign_of_one T) Fi.hr Fi.hg Fi.tw rfl (l_cons (e_var 0) (l_cons (e_var 1) (l_cons (e_var 2) (l_nil))))) (l_cons (e_if (t_cmp op_gt gt_d (e_var 4) (e_int) (nomark _)) (e_callV (ok_sign_of T) Fi.hr Fi.hg Fi.tw rfl (l_cons (e_var 3) (l_nil))) (e_int)) (l_nil)))) (b_cons (s_if (t_w (w_or (t_cmp (op_eqA Fi.un) eq_d (e_var 5) (e_int) (nomark _)) (w_or (t_cmp (op_eqA Fi.un) eq_d (e_var 6) (e_int) (nomark _)) (w_or1 (t_cmp (op_eqA Fi.un) eq_d (e_var 5) (e_var 6) (nomark _)))))) (b_one (s_ret (e_if (t_cmp (op_neA Fi.un) ne_d (e_var 5) (e_int) (nomark _)) (e_var 5) (e_var 6)))) (b_nil)) (b_one (s_ret (e_bin op_mulA mul_d (e_var 5) (e_callV (ok_sign_of_one T) Fi.hr Fi.hg Fi.tw rfl (l_cons (e_bin op_sub sub_d (e_bin op_addA add_d (e_bin op_mulA mul_d (e_var 0) (e_var 0)) (e_bin op_mulA mul_d (e_bin op_mulA mul_d (e_var 1) (e_var 1)) (e_var 2))) (e_bin op_mulA mul_d (e_bin op_mulA mul_d (e_var 3) (e_var 3)) (e_var 4))) (l_cons (e_bin op_mulA mul_d (e_bin op_mulA mul_d (e_int) (e_var 0)) (e_var 1)) (l_cons (e_var 2) (l_nil)))))))))
theorem ok_sign_of_two (T : Tp K mg) : DefV P w K mg base "sign_of_two" s_sign_of_two 3 ["p", "q", "r", "s", "t"] m_sign_of_two := defV_mk (T.glo 89) (T.fd 67 (d := dd_sign_of_two)) sc_sign_of_two (fun _ _ _ _ _ _ us hl => match us, hl with | [_, _, _, _, _], _ => rfl) rfl (w_sign_of_two T)
theorem sc_compared : FnScope N_compared ["one", "two"] (defScope s_compared) := ⟨rfl, rfl, rfl, by decide +kernel, rfl, by decide +kernel, by decide +kernel⟩
theorem w_compared (T : Tp K mg) : Walk P w K mg base "compared" s_compared 3 N_compared [] m_comparedB := fun fa cdv A outer s H E Fi => b_cons (s_asg (e_var 0) (g_tup rfl (gs_cons (g_tup rfl (gs_cons (g_name 4 Fi.nd) (gs_cons (g_name 5 Fi.nd) (gs_nil))) (hg := gn_cons (gN_noer _) (gn_cons (gN_noer _) (gn_nil)))) (gs_cons (g_name 2 Fi.nd) (gs_cons (g_tup rfl (gs_cons (g_name 6 Fi.nd) (gs_cons (g_name 7 Fi.nd) (gs_nil))) (hg := gn_cons (gN_noer _) (gn_cons (gN_noer _) (gn_nil)))) (gs_nil)))) (hg := gn_cons (gT_noer (gsCons_noer (gN_noer _) (gsCons_noer (gN_noer _) gsNil_noer))) (gn_cons (gN_noer _) (gn_cons (gT_noer (gsCons_noer (gN_noer _) (gsCons_noer (gN_noer _) gsNil_noer))) (gn_nil)))))) (b_cons (s_asg (e_var 1) (g_tup rfl (gs_cons (g_tup rfl (gs_cons (g_name 8 Fi.nd) (gs_cons (g_name 9 Fi.nd) (gs_nil))) (hg := gn_cons (gN_noer _) (gn_cons (gN_noer _) (gn_nil)))) (gs_cons (g_name 3 Fi.nd) (gs_cons (g_tup rfl (gs_cons (g_name 10 Fi.nd) (gs_cons (g_name 11 Fi.nd) (gs_nil))) (hg := gn_cons (gN_noer _) (gn_cons (gN_noer _) (gn_nil)))) (gs_nil)))) (hg := gn_cons (gT_noer (gsCons_noer (gN_noer _) (gsCons_noer (gN_noer _) gsNil_noer))) (gn_cons (gN_noer _) (gn_cons (gT_noer (gsCons_noer (gN_noer _) (gsCons_noer (gN_noer _) gsNil_noer))) (gn_nil)))))) (b_cons (s_if (t_w (w_and (t_cmp (op_eqA Fi.un) eq_d (e_var 2) (e_int) (nomark _)) (w_and1 (t_cmp (op_eqA Fi.un) eq_d (e_var 3) (e_int) (nomark _))))) (b_one (s_ret (e_callV (ok_sign_of T) Fi.hr Fi.hg Fi.tw rfl (l_cons (e_bin op_sub sub_d (e_bin op_mulA mul_d (e_var 4) (e_var 9)) (e_bin op_mulA mul_d (e_var 8) (e_var 5))) (l_nil))))) (b_nil)) (b_one (s_ret (e_callV (ok_sign_of_two T) Fi.hr Fi.hg Fi.tw rfl (l_cons (e_bin op_mulA mul_d (e_bin op_mulA mul_d (e_bin op_sub sub_d (e_bin op_mulA mul_d (e_var 4) (e_var 9)) (e_bin op_mulA mul_d (e_var 8) (e_var 5))) (e_var 7)) (e_var 11)) (l_cons (e_bin op_mulA mul_d (e_bin op_mulA mul_d (e_bin op_mulA mul_d (e_var 2) (e_var 5)) (e_var 9)) (e_var 11)) (l_cons (e_bin op_mulA mul_d (e_var 6) (e_var 7)) (l_cons (e_bin op_mulA mul_d (e_bin op_mulA mul_d (e_bin op_mulA mul_d (e_un un_neg neg_d (e_var 3)) (e_var 5)) (e_var 9)) (e_var 7)) (l_cons (e_bin op_mulA mul_d (e_var 10) (e_var 11)) (l_nil)))))))))))
theorem ok_compared (T : Tp K mg) : DefV P w K mg base "compared" s_compared 4 ["one", "two"] m_compared := defV_mk (T.glo 90) (T.fd 68 (d := dd_compared)) sc_compared (fun _ _ _ _ _ _ us hl => match us, hl with | [_, _], _ => rfl) rfl (w_compared T)
theorem sc_surd_sign : FnScope N_surd_sign ["surd"] (defScope s_surd_sign) := ⟨rfl, rfl, rfl, by decide +kernel, rfl, by decide +kernel, by decide +kernel⟩
theorem w_surd_sign (T : Tp K mg) : Walk P w K mg base "surd_sign" s_surd_sign 4 N_surd_sign [] m_surd_signB := fun fa cdv A outer s H E Fi => b_one (s_ret (e_callV (ok_compared T) Fi.hr Fi.hg Fi.tw rfl (l_cons (e_var 0) (l_cons (e_callV (ok_plain T) Fi.hr Fi.hg Fi.tw rfl (l_cons (e_con (T.con 59 (d := (.tup [(.int 0), (.int 1)])))) (l_nil))) (l_nil)))))
theorem ok_surd_sign (T : Tp K mg) : DefV P w K mg base "surd_sign" s_surd_sign 5 ["surd"] m_surd_sign := defV_mk (T.glo 91) (T.fd 69 (d := dd_surd_sign)) sc_surd_sign (fun _ _ _ _ _ _ us hl => match us, hl with | [_], _ => rfl) rfl (w_surd_sign T)
theorem sc_quarter_of_surds : FnScope N_quarter_of_surds ["pair"] (defScope s_quarter_of_surds) := ⟨rfl, rfl, rfl, by decide +kernel, rfl, by decide +kernel, by decide +kernel⟩
theorem w_quarter_of_surds (T : Tp K mg) : Walk P w K mg base "quarter_of_surds" s_quarter_of_surds 5 N_quarter_of_surds [] m_quarter_of_surdsB := fun fa cdv A outer s H E Fi => b_one (s_ret (e_callV (ok_quarter_by T) Fi.hr Fi.hg Fi.tw rfl (l_cons (e_callV (ok_surd_sign T) Fi.hr Fi.hg Fi.tw rfl (l_cons (e_ix ix_A ix_d (e_var 0) (e_int) (by intro _ _; rfl)) (l_nil))) (l_cons (e_callV (ok_surd_sign T) Fi.hr Fi.hg Fi.tw rfl (l_cons (e_ix ix_A ix_d (e_var 0) (e_int) (by intro _ _; rfl)) (l_nil))) (l_nil)))))
theorem ok_quarter_of_surds (T : Tp K mg) : DefV P w K mg base "quarter_of_surds" s_quarter_of_surds 6 ["pair"] m_quarter_of_surds := defV_mk (T.glo 92) (T.fd 70 (d := dd_quarter_of_surds)) sc_quarter_of_surds (fun _ _ _ _ _ _ us hl => match us, hl with | [_], _ => rfl) rfl (w_quarter_of_surds T)
theorem sc_comes_first : FnScope N_comes_first ["one", "two"] (defScope s_comes_first) := ⟨rfl, rfl, rfl, by decide +kernel, rfl, by decide +kernel, by decide +kernel⟩
theorem w_comes_first (T : Tp K mg) : Walk P w K mg base "comes_first" s_comes_first 6 N_comes_first [] m_comes_firstB := fun fa cdv A outer s H E Fi => b_cons (s_par 3 4 rfl Fi.nd (l_cons (e_callV (ok_quarter_of_surds T) Fi.hr Fi.hg Fi.tw rfl (l_cons (e_var 0) (l_nil))) (l_cons (e_callV (ok_quarter_of_surds T) Fi.hr Fi.hg Fi.tw rfl (l_cons (e_var 1) (l_nil))) (l_nil)))) (b_cons (s_if (t_cmp (op_neA Fi.un) ne_d (e_var 3) (e_var 4) (nomark _)) (b_one (s_ret (e_cmp op_lt lt_d (e_var 3) (e_var 4) (nomark _)))) (b_nil)) (b_cons (s_set 2 Fi.nd (e_if (t_cmp op_in_seq in_d (e_var 3) (e_tup (l_cons (e_int) (l_cons (e_int) (l_nil))) (len_cons (len_cons len_nil))) (by rfl)) (e_callV (ok_compared T) Fi.hr Fi.hg Fi.tw rfl (l_cons (e_ix ix_A ix_d (e_var 0) (e_int) (by intro _ _; rfl)) (l_cons (e_ix ix_A ix_d (e_var 1) (e_int) (by intro _ _; rfl)) (l_nil)))) (e_callV (ok_compared T) Fi.hr Fi.hg Fi.tw rfl (l_cons (e_ix ix_A ix_d (e_var 1) (e_int) (by intro _ _; rfl)) (l_cons (e_ix ix_A ix_d (e_var 0) (e_int) (by intro _ _; rfl)) (l_nil)))))) (b_one (s_ret (e_cmp op_lt lt_d (e_var 2) (e_int) (nomark _))))))
theorem ok_comes_first (T : Tp K mg) : DefV P w K mg base "comes_first" s_comes_first 7 ["one", "two"] m_comes_first := defV_mk (T.glo 93) (T.fd 71 (d := dd_comes_first)) sc_comes_first (fun _ _ _ _ _ _ us hl => match us, hl with | [_, _], _ => rfl) rfl (w_comes_first T)
theorem sc_in_order : FnScope N_in_order ["points"] (defScope s_in_order) := ⟨rfl, rfl, rfl, by decide +kernel, rfl, by decide +kernel, by decide +kernel⟩
theorem w_in_order (T : Tp K mg) : Walk P w K mg base "in_order" s_in_order 7 N_in_order [] m_in_orderB := fun fa cdv A outer s H E Fi => b_cons (s_setLc (n := 3) (fx' := [0, 1]) (own := [("point", 2)]) (i := 1) (hc := rfl) (hN := Fi.nd) (hsw := by rfl) (i_seq (e_var 0)) (⟨rfl, by decide +kernel, by decide +kernel, by decide +kernel, by decide +kernel⟩ : BlkOk N_in_order (defScope s_in_order) _ [("point", 2)]) (fun _ _ _ _ _ => g_name 2 Fi.nd) (fun _ _ _ _ _ => if_nil) (fun _ _ _ _ _ => e_meth0 (T.glo 76) (T.fa 77 (f := .cls "Point")) (T.fa 86 (f := .meth "Point" "surds")) (ok_Point_surds T) Fi.hr Fi.hg takes0 (e_var 2)) (by decide)) (b_one (s_ret (e_if (t_w (w_and (t_cmp (op_eqA Fi.un) eq_d (e_callB call_lenA len_d rfl (T.free 0) boot_len (l_cons (e_var 1) (l_nil))) (e_int) (nomark _)) (w_and1 (t_val (e_callV (ok_comes_first T) Fi.hr Fi.hg Fi.tw rfl (l_cons (e_ix ix_A ix_d (e_var 1) (e_int) (by intro _ _; rfl)) (l_cons (e_ix ix_A ix_d (e_var 1) (e_int) (by intro _ _; rfl)) (l_nil)))))))) (e_rev (e_var 1)) (e_var 1))))
theorem ok_in_order (T : Tp K mg) : DefV P w K mg base "in_order" s_in_order 8 ["points"] m_in_order := defV_mk (T.glo 94) (T.fd 72 (d := dd_in_order)) sc_in_order (fun _ _ _ _ _ _ us hl => match us, hl with | [_], _ => rfl) rfl (w_in_order T)
theorem sc_ratio_over : FnScope N_ratio_over ["one", "two"] (defScope s_ratio_over) := ⟨rfl, rfl, rfl, by decide +kernel, rfl, by decide +kernel, by decide +kernel⟩
theorem w_ratio_over (T : Tp K mg) : Walk P w K mg base "ratio_over" s_ratio_over 2 N_ratio_over [] m_ratio_overB := fun fa cdv A outer s H E Fi => b_one (s_ret (e_callV (ok_ratio T) Fi.hr Fi.hg Fi.tw rfl (l_cons (e_bin op_mulA mul_d (e_ix ix_A ix_d (e_var 0) (e_int) (by intro _ _; rfl)) (e_ix ix_A ix_d (e_var 1) (e_int) (by intro _ _; rfl))) (l_cons (e_bin op_mulA mul_d (e_ix ix_A ix_d (e_var 0) (e_int) (by intro _ _; rfl)) (e_ix ix_A ix_d (e_var 1) (e_int) (by intro _ _; rfl))) (l_nil)))))
theorem ok_ratio_over (T : Tp K mg) : DefV P w K mg base "ratio_over" s_ratio_over 3 ["one", "two"] m_ratio_over := defV_mk (T.glo 95) (T.fd 73 (d := dd_ratio_over)) sc_ratio_over (fun _ _ _ _ _ _ us hl => match us, hl with | [_, _], _ => rfl) rfl (w_ratio_over T)
theorem sc_Point___init__ : FnScope N_Point___init__ ["self", "cosine", "sine", "square"] (defScope s_Point___init__) := ⟨rfl, rfl, rfl, by decide +kernel, rfl, by decide +kernel, by decide +kernel⟩
theorem w_Point___init__ : WalkI P w K mg base "Point.__init__" s_Point___init__ N_Point___init__ "cosine" "sine" "square" := fun fa cdv A outer s H E => pss_cons (ps_fld (pv 0) (pv 1) rfl) (pss_cons (ps_fld (pv 0) (pv 2) rfl) (pss_one (ps_fld (pv 0) (pv 3) rfl)))
theorem okI_Point (T : Tp K mg) : DefI P w K mg base "Point" "cosine" "sine" "square" := defI_mk (c := "Point") (q := "Point.__init__") (st := s_Point___init__) (T.fd 74 (d := dd_Point___init__)) sc_Point___init__ rfl rfl (fun _ _ _ _ _ _ us hl => match us, hl with | [_, _, _, _], _ => rfl) (T.fa 77 (f := .cls "Point")) (T.fa 79 (f := .noat "Point" "cosine")) (T.fa 78 (f := .noat "Point" "sine")) (T.fa 85 (f := .noat "Point" "square")) (body := w_Point___init__)
theorem sc_points_on : FnScope N_points_on ["row"] (defScope s_points_on) := ⟨rfl, rfl, rfl, by decide +kernel, rfl, by decide +kernel, by decide +kernel⟩
theorem w_points_on (T : Tp K mg) : Walk P w K mg base "points_on" s_points_on 4 N_points_on [] m_points_onB := fun fa cdv A outer s H E Fi => b_cons (s_asg (e_var 0) (g_tup rfl (gs_cons (g_name 6 Fi.nd) (gs_cons (g_name 7 Fi.nd) (gs_cons (g_name 8 Fi.nd) (gs_nil)))) (hg := gn_cons (gN_noer _) (gn_cons (gN_noer _) (gn_cons (gN_noer _) (gn_nil)))))) (b_cons (s_set 1 Fi.nd (e_callV (ok_square_length T) Fi.hr Fi.hg Fi.tw rfl (l_cons (e_tup (l_cons (e_var 7) (l_cons (e_var 8) (l_nil))) (len_cons (len_cons len_nil))) (l_nil)))) (b_cons (s_set 2 Fi.nd (e_callV (ok_ratio_less T) Fi.hr Fi.hg Fi.tw rfl (l_cons (e_var 1) (l_cons (e_callV (ok_ratio_product T) Fi.hr Fi.hg Fi.tw rfl (l_cons (e_var 6) (l_cons (e_var 6) (l_nil)))) (l_nil))))) (b_cons (s_if (t_cmp op_lt lt_d (e_ix ix_A ix_d (e_var 2) (e_int) (by intro _ _; rfl)) (e_int) (nomark _)) (b_one (s_ret (e_new (n_lst (l_nil) len_nil)))) (b_nil)) (b_cons (s_set 3 Fi.nd (e_tup (l_cons (e_callV (ok_ratio_back T) Fi.hr Fi.hg Fi.tw rfl (l_cons (e_callV (ok_ratio_over T) Fi.hr Fi.hg Fi.tw rfl (l_cons (e_callV (ok_ratio_product T) Fi.hr Fi.hg Fi.tw rfl (l_cons (e_var 7) (l_cons (e_var 6) (l_nil)))) (l_cons (e_var 1) (l_nil)))) (l_nil))) (l_cons (e_callV (ok_ratio_back T) Fi.hr Fi.hg Fi.tw rfl (l_cons (e_callV (ok_ratio_over T) Fi.hr Fi.hg Fi.tw rfl (l_cons (e_callV (ok_ratio_product T) Fi.hr Fi.hg Fi.tw rfl (l_cons (e_var 8) (l_cons (e_var 6) (l_nil)))) (l_cons (e_var 1) (l_nil)))) (l_nil))) (l_nil))) (len_cons (len_cons len_nil)))) (b_cons (s_own 4 Fi.nd (n_lst (l_nil) len_nil)) (b_cons (s_for Fi.hp rfl (i_seq (e_if (t_cmp op_gt gt_d (e_ix ix_A ix_d (e_var 2) (e_int) (by intro _ _; rfl)) (e_int) (nomark _)) (e_tup (l_cons (e_int) (l_cons (e_un un_neg neg_d (e_int)) (l_nil))) (len_cons (len_cons len_nil))) (e_tup (l_cons (e_int) (l_nil)) (len_cons len_nil)))) (g_name 5 Fi.nd) (b_cons (s_set 9 Fi.nd (e_callV (ok_ratio_over T) Fi.hr Fi.hg Fi.tw rfl (l_cons (e_callV (ok_ratio_product T) Fi.hr Fi.hg Fi.tw rfl (l_cons (e_tup (l_cons (e_var 5) (l_cons (e_int) (l_nil))) (len_cons (len_cons len_nil))) (l_cons (e_var 8) (l_nil)))) (l_cons (e_var 1) (l_nil))))) (b_cons (s_set 10 Fi.nd (e_callV (ok_ratio_over T) Fi.hr Fi.hg Fi.tw rfl (l_cons (e_callV (ok_ratio_product T) Fi.hr Fi.hg Fi.tw rfl (l_cons (e_tup (l_cons (e_un un_neg neg_d (e_var 5)) (l_cons (e_int) (l_nil))) (len_cons (len_cons len_nil))) (l_cons (e_var 7) (l_nil)))) (l_cons (e_var 1) (l_nil))))) (b_one (s_expr (e_app 4 (pv 4) (e_make (okI_Point T) (T.glo 76) (T.fa 96 (f := .mkr "Point")) Fi.hr rfl (l_cons (e_tup (l_cons (e_ix ix_A ix_d (e_var 3) (e_int) (by intro _ _; rfl)) (l_cons (e_var 9) (l_nil))) (len_cons (len_cons len_nil))) (l_cons (e_tup (l_cons (e_ix ix_A ix_d (e_var 3) (e_int) (by intro _ _; rfl)) (l_cons (e_var 10) (l_nil))) (len_cons (len_cons len_nil))) (l_cons (e_var 2) (l_nil))))) rfl (fun t ha => pe_bm PySem.F.plainAttrs_list PySem.F.slot_list_append PySem.F.type_list_append mt_append (pv 4) ha))))))) (b_one (s_ret (e_var 4)))))))))
theorem ok_points_on (T : Tp K mg) : DefV P w K mg base "points_on" s_points_on 5 ["row"] m_points_on := defV_mk (T.glo 97) (T.fd 75 (d := dd_points_on)) sc_points_on (fun _ _ _ _ _ _ us hl => match us, hl with | [_], _ => rfl) rfl (w_points_on T)
theorem sc_Point_sign_of_row : FnScope N_Point_sign_of_row ["self", "row"] (defScope s_Point_sign_of_row) := ⟨rfl, rfl, rfl, by decide +kernel, rfl, by decide +kernel, by decide +kernel⟩
theorem w_Point_sign_of_row (T : Tp K mg) : Walk P w K mg base "Point.sign_of_row" s_Point_sign_of_row 5 N_Point_sign_of_row [] m_Point_sign_of_rowB := fun fa cdv A outer s H E Fi => s_zipLc (n := 6) (fx' := [0, 1, 2, 3]) (own := [("cosine", 4), ("sine", 5)]) 2 3 rfl Fi.nd rfl (T.free 98) (l_cons (e_fld (T.glo 76) (T.fa 77 (f := .cls "Point")) (T.fa 79 (f := .noat "Point" "cosine")) (e_var 0)) (l_cons (e_fld (T.glo 76) (T.fa 77 (f := .cls "Point")) (T.fa 78 (f := .noat "Point" "sine")) (e_var 0)) (l_nil))) (by rfl) (⟨rfl, by decide +kernel, by decide +kernel, by decide +kernel, by decide +kernel⟩ : BlkOk N_Point_sign_of_row (defScope s_Point_sign_of_row) _ [("cosine", 4), ("sine", 5)]) (fun _ _ _ _ _ => g_tup rfl (gs_cons (g_name 4 Fi.nd) (gs_cons (g_name 5 Fi.nd) (gs_nil))) (hg := gn_cons (gN_noer _) (gn_cons (gN_noer _) (gn_nil)))) (fun _ _ _ _ _ => if_nil) (fun _ _ _ _ _ => e_callV (ok_ratio_sum T) Fi.hr Fi.hg takes0 rfl (l_cons (e_callV (ok_ratio_product T) Fi.hr Fi.hg takes0 rfl (l_cons (e_ix ix_A ix_d (e_var 1) (e_int) (by intro _ _; rfl)) (l_cons (e_var 4) (l_nil)))) (l_cons (e_callV (ok_ratio_product T) Fi.hr Fi.hg takes0 rfl (l_cons (e_ix ix_A ix_d (e_var 1) (e_int) (by intro _ _; rfl)) (l_cons (e_var 5) (l_nil)))) (l_nil)))) (by decide) (b_one (s_ret (e_callV (ok_surd_sign T) Fi.hr Fi.hg Fi.tw rfl (l_cons (e_callV (ok_surd_from T) Fi.hr Fi.hg Fi.tw rfl (l_cons (e_callV (ok_ratio_sum T) Fi.hr Fi.hg Fi.tw rfl (l_cons (e_ix ix_A ix_d (e_var 1) (e_int) (by intro _ _; rfl)) (l_cons (e_ix ix_A ix_d (e_var 3) (e_int) (by intro _ _; rfl)) (l_nil)))) (l_cons (e_ix ix_A ix_d (e_var 3) (e_int) (by intro _ _; rfl)) (l_cons (e_fld (T.glo 76) (T.fa 77 (f := .cls "Point")) (T.fa 85 (f := .noat "Point" "square")) (e_var 0)) (l_nil))))) (l_nil)))))
theorem ok_Point_sign_of_row (T : Tp K mg) : DefM P w K mg base "Point" "sign_of_row" s_Point_sign_of_row 6 ["self", "row"] m_Point_sign_of_row := defM_mk (T.fd 76 (d := dd_Point_sign_of_row)) sc_Point_sign_of_row (fun _ _ _ _ _ _ us hl => match us, hl with | [_, _], _ => rfl) rfl (w_Point_sign_of_row T)
theorem sc_forceless : FnScope N_forceless ["five"] (defScope s_forceless) := ⟨rfl, rfl, rfl, by decide +kernel, rfl, by decide +kernel, by decide +kernel⟩
theorem w_forceless (T : Tp K mg) : Walk P w K mg base "forceless" s_forceless 8 N_forceless [] m_forcelessB := fun fa cdv A outer s H E Fi => b_cons (s_if (t_cmp (op_neA Fi.un) ne_d (e_callV (ok_word_for T) Fi.hr Fi.hg Fi.tw rfl (l_cons (e_var 0) (l_nil))) (e_str) (nomark _)) (b_one (s_ret (e_new (n_lst (l_nil) len_nil)))) (b_nil)) (b_cons (s_set 1 Fi.nd (e_callV (ok_ship_rows T) Fi.hr Fi.hg Fi.tw rfl (l_cons (e_var 0) (l_nil)))) (b_cons (s_asg (e_if (t_not (t_val (e_callV (ok_is_nought_row T) Fi.hr Fi.hg Fi.tw rfl (l_cons (e_ix ix_A ix_d (e_var 1) (e_int) (by intro _ _; rfl)) (l_nil))))) (e_var 1) (e_rev (e_var 1))) (g_tup rfl (gs_cons (g_name 2 Fi.nd) (gs_cons (g_name 3 Fi.nd) (gs_nil))) (hg := gn_cons (gN_noer _) (gn_cons (gN_noer _) (gn_nil))))) (b_one (s_ret (e_callV (ok_in_order T) Fi.hr Fi.hg Fi.tw rfl (l_cons (e_new (n_lc (n := 5) (fx' := [0, 1, 2, 3]) (own := [("point", 4)]) rfl Fi.nd (i_seq (e_callV (ok_points_on T) Fi.hr Fi.hg Fi.tw rfl (l_cons (e_var 2) (l_nil)))) (⟨rfl, by decide +kernel, by decide +kernel, by decide +kernel, by decide +kernel⟩ : BlkOk N_forceless (defScope s_forceless) _ [("point", 4)]) (fun _ _ _ _ _ => g_name 4 Fi.nd) (fun _ _ _ _ _ => if_one (t_cmp (op_eqA Fi.un) eq_d (e_meth (T.glo 76) (T.fa 77 (f := .cls "Point")) (T.fa 99 (f := .meth "Point" "sign_of_row")) (ok_Point_sign_of_row T) Fi.hr Fi.hg takes0 (e_var 4) (l_cons (e_var 3) (l_nil))) (e_int) (nomark _))) (fun _ _ _ _ _ => e_var 4) (by decide))) (l_nil)))))))
theorem ok_forceless (T : Tp K mg) : DefV P w K mg base "forceless" s_forceless 9 ["five"] m_forceless := defV_mk (T.glo 100) (T.fd 77 (d := dd_forceless)) sc_forceless (fun _ _ _ _ _ _ us hl => match us, hl with | [_], _ => rfl) rfl (w_forceless T)
theorem sc_dead_headings : FnScope N_dead_headings ["five"] (defScope s_dead_headings) := ⟨rfl, rfl, rfl, by decide +kernel, rfl, by decide +kernel, by decide +kernel⟩
theorem w_dead_headings (T : Tp K mg) : Walk P w K mg base "dead_headings" s_dead_headings 9 N_dead_headings [] m_dead_headingsB := fun fa cdv A outer s H E Fi => b_cons (s_expr (e_callV (ok_check_five T) Fi.hr Fi.hg Fi.tw rfl (l_cons (e_var 0) (l_nil)))) (b_one (s_ret (e_callTy call_tuple_of tuple_d rfl (T.free 7) boot_tuple (l_cons (e_callV (ok_forceless T) Fi.hr Fi.hg Fi.tw rfl (l_cons (e_var 0) (l_nil))) (l_nil)))))
theorem ok_dead_headings (T : Tp K mg) : DefV P w K mg base "dead_headings" s_dead_headings 10 ["five"] m_dead_headings := defV_mk (T.glo 101) (T.fd 78 (d := dd_dead_headings)) sc_dead_headings (fun _ _ _ _ _ _ us hl => match us, hl with | [_], _ => rfl) rfl (w_dead_headings T)
theorem sc_is_way : FnScope N_is_way ["value"] (defScope s_is_way) := ⟨rfl, rfl, rfl, by decide +kernel, rfl, by decide +kernel, by decide +kernel⟩
theorem w_is_way (T : Tp K mg) : Walk P w K mg base "is_way" s_is_way 2 N_is_way [] m_is_wayB := fun fa cdv A outer s H E Fi => b_one (s_ret (e_and (e_callV (ok_are_wholes T) Fi.hr Fi.hg Fi.tw rfl (l_cons (e_var 0) (l_cons (e_int) (l_nil)))) (e_one (e_callV (ok_is_reduced T) Fi.hr Fi.hg Fi.tw rfl (l_cons (e_var 0) (l_nil))))))
theorem ok_is_way (T : Tp K mg) : DefV P w K mg base "is_way" s_is_way 3 ["value"] m_is_way := defV_mk (T.glo 102) (T.fd 79 (d := dd_is_way)) sc_is_way (fun _ _ _ _ _ _ us hl => match us, hl with | [_], _ => rfl) rfl (w_is_way T)
theorem sc_check_course : FnScope N_check_course ["value"] (defScope s_check_course) := ⟨rfl, rfl, rfl, by decide +kernel, rfl, by decide +kernel, by decide +kernel⟩
theorem w_check_course (T : Tp K mg) : Walk P w K mg base "check_course" s_check_course 3 N_check_course [] m_check_courseB := fun fa cdv A outer s H E Fi => b_one (s_if (t_not (t_val (e_callV (ok_is_way T) Fi.hr Fi.hg Fi.tw rfl (l_cons (e_var 0) (l_nil))))) (b_one (s_no)) (b_nil))
theorem ok_check_course (T : Tp K mg) : DefV P w K mg base "check_course" s_check_course 4 ["value"] m_check_course := defV_mk (T.glo 103) (T.fd 80 (d := dd_check_course)) sc_check_course (fun _ _ _ _ _ _ us hl => match us, hl with | [_], _ => rfl) rfl (w_check_course T)
theorem sc_mixed_row : FnScope N_mixed_row ["one", "factor", "two", "number"] (defScope s_mixed_row) := ⟨rfl, rfl, rfl, by decide +kernel, rfl, by decide +kernel, by decide +kernel⟩
theorem w_mixed_row (T : Tp K mg) : Walk P w K mg base "mixed_row" s_mixed_row 3 N_mixed_row [] m_mixed_rowB := fun fa cdv A outer s H E Fi => b_cons (s_own 4 Fi.nd (n_lst (l_nil) len_nil)) (b_cons (s_for Fi.hp rfl (i_zip rfl (T.free 98) (l_cons (e_var 0) (l_cons (e_var 2) (l_nil)))) (g_tup rfl (gs_cons (g_name 5 Fi.nd) (gs_cons (g_name 6 Fi.nd) (gs_nil))) (hg := gn_cons (gN_noer _) (gn_cons (gN_noer _) (gn_nil)))) (b_one (s_expr (e_app 4 (pv 4) (e_callV (ok_ratio_sum T) Fi.hr Fi.hg Fi.tw rfl (l_cons (e_callV (ok_ratio_product T) Fi.hr Fi.hg Fi.tw rfl (l_cons (e_tup (l_cons (e_var 1) (l_cons (e_int) (l_nil))) (len_cons (len_cons len_nil))) (l_cons (e_var 5) (l_nil)))) (l_cons (e_callV (ok_ratio_product T) Fi.hr Fi.hg Fi.tw rfl (l_cons (e_tup (l_cons (e_var 3) (l_cons (e_int) (l_nil))) (len_cons (len_cons len_nil))) (l_cons (e_var 6) (l_nil)))) (l_nil)))) rfl (fun t ha => pe_bm PySem.F.plainAttrs_list PySem.F.slot_list_append PySem.F.type_list_append mt_append (pv 4) ha))))) (b_one (s_ret (e_callTy call_tuple_of tuple_d rfl (T.free 7) boot_tuple (l_cons (e_var 4) (l_nil))))))
theorem ok_mixed_row (T : Tp K mg) : DefV P w K mg base "mixed_row" s_mixed_row 4 ["one", "factor", "two", "number"] m_mixed_row := defV_mk (T.glo 104) (T.fd 81 (d := dd_mixed_row)) sc_mixed_row (fun _ _ _ _ _ _ us hl => match us, hl with | [_, _, _, _], _ => rfl) rfl (w_mixed_row T)
theorem sc_rises_somewhere : FnScope N_rises_somewhere ["row"] (defScope s_rises_somewhere) := ⟨rfl, rfl, rfl, by decide +kernel, rfl, by decide +kernel, by decide +kernel⟩
theorem w_rises_somewhere (T : Tp K mg) : Walk P w K mg base "rises_somewhere" s_rises_somewhere 5 N_rises_somewhere [] m_rises_somewhereB := fun fa cdv A outer s H E Fi => b_one (s_ret (e_cmp op_gt gt_d (e_callV (ok_surd_sign T) Fi.hr Fi.hg Fi.tw rfl (l_cons (e_callV (ok_surd_from T) Fi.hr Fi.hg Fi.tw rfl (l_cons (e_ix ix_A ix_d (e_var 0) (e_int) (by intro _ _; rfl)) (l_cons (e_con (T.con 37 (d := (.tup [(.int 1), (.int 1)])))) (l_cons (e_callV (ok_square_length T) Fi.hr Fi.hg Fi.tw rfl (l_cons (e_slice (e_var 0) (o_some (e_int)) (o_none)) (l_nil))) (l_nil))))) (l_nil))) (e_int) (nomark _)))
theorem ok_rises_somewhere (T : Tp K mg) : DefV P w K mg base "rises_somewhere" s_rises_somewhere 6 ["row"] m_rises_somewhere := defV_mk (T.glo 105) (T.fd 82 (d := dd_rises_somewhere)) sc_rises_somewhere (fun _ _ _ _ _ _ us hl => match us, hl with | [_], _ => rfl) rfl (w_rises_somewhere T)
theorem sc_showing : FnScope N_showing ["five", "course"] (defScope s_showing) := ⟨rfl, rfl, rfl, by decide +kernel, rfl, by decide +kernel, by decide +kernel⟩
theorem w_showing (T : Tp K mg) : Walk P w K mg base "showing" s_showing 8 N_showing [] m_showingB := fun fa cdv A outer s H E Fi => b_cons (s_asg (e_callV (ok_ship_rows T) Fi.hr Fi.hg Fi.tw rfl (l_cons (e_var 0) (l_nil))) (g_tup rfl (gs_cons (g_name 4 Fi.nd) (gs_cons (g_name 5 Fi.nd) (gs_nil))) (hg := gn_cons (gN_noer _) (gn_cons (gN_noer _) (gn_nil))))) (b_cons (s_set 2 Fi.nd (e_callV (ok_mixed_row T) Fi.hr Fi.hg Fi.tw rfl (l_cons (e_var 4) (l_cons (e_ix ix_A ix_d (e_var 1) (e_int) (by intro _ _; rfl)) (l_cons (e_var 5) (l_cons (e_ix ix_A ix_d (e_var 1) (e_int) (by intro _ _; rfl)) (l_nil))))))) (b_cons (s_set 3 Fi.nd (e_callV (ok_mixed_row T) Fi.hr Fi.hg Fi.tw rfl (l_cons (e_var 4) (l_cons (e_ix ix_A ix_d (e_var 1) (e_int) (by intro _ _; rfl)) (l_cons (e_var 5) (l_cons (e_un un_neg neg_d (e_ix ix_A ix_d (e_var 1) (e_int) (by intro _ _; rfl))) (l_nil))))))) (b_cons (s_if (t_val (e_callV (ok_is_nought_row T) Fi.hr Fi.hg Fi.tw rfl (l_cons (e_var 2) (l_nil)))) (b_one (s_ret (e_if (t_w (w_and (t_cmp (op_eqA Fi.un) eq_d (e_ix ix_A ix_d (e_var 2) (e_int) (by intro _ _; rfl)) (e_con (T.con 59 (d := (.tup [(.int 0), (.int 1)])))) (nomark _)) (w_and1 (t_val (e_callV (ok_rises_somewhere T) Fi.hr Fi.hg Fi.tw rfl (l_cons (e_var 3) (l_nil))))))) (e_non) (e_new (n_lst (l_nil) len_nil))))) (b_nil)) (b_one (s_ret (e_callV (ok_in_order T) Fi.hr Fi.hg Fi.tw rfl (l_cons (e_new (n_lc (n := 7) (fx' := [0, 1, 2, 3, 4, 5]) (own := [("point", 6)]) rfl Fi.nd (i_seq (e_callV (ok_points_on T) Fi.hr Fi.hg Fi.tw rfl (l_cons (e_var 2) (l_nil)))) (⟨rfl, by decide +kernel, by decide +kernel, by decide +kernel, by decide +kernel⟩ : BlkOk N_showing (defScope s_showing) _ [("point", 6)]) (fun _ _ _ _ _ => g_name 6 Fi.nd) (fun _ _ _ _ _ => if_one (t_cmp op_gt gt_d (e_meth (T.glo 76) (T.fa 77 (f := .cls "Point")) (T.fa 99 (f := .meth "Point" "sign_of_row")) (ok_Point_sign_of_row T) Fi.hr Fi.hg takes0 (e_var 6) (l_cons (e_var 3) (l_nil))) (e_int) (nomark _))) (fun _ _ _ _ _ => e_var 6) (by decide))) (l_nil))))))))
theorem ok_showing (T : Tp K mg) : DefV P w K mg base "showing" s_showing 9 ["five", "course"] m_showing := defV_mk (T.glo 106) (T.fd 83 (d := dd_showing)) sc_showing (fun _ _ _ _ _ _ us hl => match us, hl with | [_, _], _ => rfl) rfl (w_showing T)
theorem sc_headings_of : FnScope N_headings_of ["five", "course"] (defScope s_headings_of) := ⟨rfl, rfl, rfl, by decide +kernel, rfl, by decide +kernel, by decide +kernel⟩
theorem w_headings_of (T : Tp K mg) : Walk P w K mg base "headings_of" s_headings_of 9 N_headings_of [] m_headings_ofB := fun fa cdv A outer s H E Fi => b_cons (s_expr (e_callV (ok_check_five T) Fi.hr Fi.hg Fi.tw rfl (l_cons (e_var 0) (l_nil)))) (b_cons (s_expr (e_callV (ok_check_course T) Fi.hr Fi.hg Fi.tw rfl (l_cons (e_var 1) (l_nil)))) (b_cons (s_set 2 Fi.nd (e_callV (ok_showing T) Fi.hr Fi.hg Fi.tw rfl (l_cons (e_var 0) (l_cons (e_var 1) (l_nil))))) (b_one (s_ret (e_if (t_cmp op_isA is_d (e_var 2) (e_non) (nomark _)) (e_non) (e_callTy call_tuple_of tuple_d rfl (T.free 7) boot_tuple (l_cons (e_var 2) (l_nil))))))))
theorem ok_headings_of (T : Tp K mg) : DefV P w K mg base "headings_of" s_headings_of 10 ["five", "course"] m_headings_of := defV_mk (T.glo 107) (T.fd 84 (d := dd_headings_of)) sc_headings_of (fun _ _ _ _ _ _ us hl => match us, hl with | [_, _], _ => rfl) rfl (w_headings_of T)
theorem sc_is_heading : FnScope N_is_heading ["value"] (defScope s_is_heading) := ⟨rfl, rfl, rfl, by decide +kernel, rfl, by decide +kernel, by decide +kernel⟩
theorem w_is_heading (T : Tp K mg) : Walk P w K mg base "is_heading" s_is_heading 5 N_is_heading [] m_is_headingB := fun fa cdv A outer s H E Fi => b_one (s_ret (e_callV (ok_is_unit T) Fi.hr Fi.hg Fi.tw rfl (l_cons (e_var 0) (l_nil))))
theorem ok_is_heading (T : Tp K mg) : DefV P w K mg base "is_heading" s_is_heading 6 ["value"] m_is_heading := defV_mk (T.glo 108) (T.fd 85 (d := dd_is_heading)) sc_is_heading (fun _ _ _ _ _ _ us hl => match us, hl with | [_], _ => rfl) rfl (w_is_heading T)
theorem sc__law_right : FnScope N__law_right ["_law_lode_here"] (defScope s__law_right) := ⟨rfl, rfl, rfl, by decide +kernel, rfl, by decide +kernel, by decide +kernel⟩
theorem w__law_right (T : Tp K mg) : Walk P w K mg base "_law_right" s__law_right 10 N__law_right [0] m_law_right_v49B := fun fa cdv A outer s H E Fi => b_cons (s_par 2 3 rfl Fi.nd (l_cons (e_callO 0 (ok__law_kind_five T) Fi.hr Fi.hg Fi.tw rfl (pv 0) (l_nil)) (l_cons (e_callO 0 (ok__law_some_heading T) Fi.hr Fi.hg Fi.tw rfl (pv 0) (l_nil)) (l_nil)))) (b_cons (s_for Fi.hp rfl (i_seq (e_new (n_lst (l_cons (e_var 3) (l_cons (e_callV (ok_turned T) Fi.hr Fi.hg Fi.tw rfl (l_cons (e_var 3) (l_cons (e_tup (l_cons (e_tup (l_cons (e_int) (l_cons (e_int) (l_nil))) (len_cons (len_cons len_nil))) (l_cons (e_tup (l_cons (e_int) (l_cons (e_int) (l_nil))) (len_cons (len_cons len_nil))) (l_nil))) (len_cons (len_cons len_nil))) (l_nil)))) (l_cons (e_callV (ok_turned T) Fi.hr Fi.hg Fi.tw rfl (l_cons (e_var 3) (l_cons (e_tup (l_cons (e_tup (l_cons (e_un un_neg neg_d (e_int)) (l_cons (e_int) (l_nil))) (len_cons (len_cons len_nil))) (l_cons (e_tup (l_cons (e_int) (l_cons (e_int) (l_nil))) (len_cons (len_cons len_nil))) (l_nil))) (len_cons (len_cons len_nil))) (l_nil)))) (l_nil)))) (len_cons (len_cons (len_cons len_nil)))))) (g_name 1 Fi.nd) (b_cons (s_par 4 5 rfl Fi.nd (l_cons (e_callK0 (b := 2) (ix := [1, 0]) (ok_course_at T) Fi.hr Fi.hg Fi.tw rfl (k_cons (e_var 1) (k_cons (e_var 2) (k_nil))) (by decide) (fun _ _ _ _ _ _ us ws h1 h2 => match us, ws, h1, h2 with | [], [_, _], _, _ => rfl)) (l_cons (e_callV (ok__law_as_surds T) Fi.hr Fi.hg Fi.tw rfl (l_cons (e_var 1) (l_nil))) (l_nil)))) (b_cons (s_if (t_cmp (op_neA Fi.un) ne_d (e_callB (call_reprD Fi.hr Fi.hg) repr_d rfl (T.free 65) boot_repr (l_cons (e_var 4) (l_nil))) (e_callB (call_reprD Fi.hr Fi.hg) repr_d rfl (T.free 65) boot_repr (l_cons (e_callV (ok__law_shown T) Fi.hr Fi.hg Fi.tw rfl (l_cons (e_var 2) (l_cons (e_var 1) (l_nil)))) (l_nil))) (nomark _)) (b_one (s_ret (e_bl))) (b_nil)) (b_one (s_if (t_cmp op_isA is_d (e_var 4) (e_non) (nomark _)) (b_one (s_if (t_cmp (op_notInT Fi.un) notInT_d (e_var 5) (e_callK0 (b := 1) (ix := [0]) (ok_dead_headings T) Fi.hr Fi.hg Fi.tw rfl (k_cons (e_var 2) (k_nil)) (by decide) (fun _ _ _ _ _ _ us ws h1 h2 => match us, ws, h1, h2 with | [], [_], _, _ => rfl)) (by rfl)) (b_one (s_ret (e_bl))) (b_nil))) (b_cons (s_set 6 Fi.nd (e_callK0 (b := 2) (ix := [1, 0]) (ok_headings_of T) Fi.hr Fi.hg Fi.tw rfl (k_cons (e_var 4) (k_cons (e_var 2) (k_nil))) (by decide) (fun _ _ _ _ _ _ us ws h1 h2 => match us, ws, h1, h2 with | [], [_, _], _, _ => rfl))) (b_cons (s_set 7 Fi.nd (e_callV (ok_headings_of T) Fi.hr Fi.hg Fi.tw rfl (l_cons (e_var 2) (l_cons (e_tup (l_cons (e_bin op_sub sub_d (e_int) (e_ix ix_A ix_d (e_var 4) (e_int) (by intro _ _; rfl))) (l_cons (e_bin op_sub sub_d (e_int) (e_ix ix_A ix_d (e_var 4) (e_int) (by intro _ _; rfl))) (l_nil))) (len_cons (len_cons len_nil))) (l_nil))))) (b_cons (s_if (t_w (w_or (t_w (w_and (t_cmp op_isNotA isNot_d (e_var 6) (e_non) (nomark _)) (w_and1 (t_cmp (op_notInT Fi.un) notInT_d (e_var 5) (e_var 6) (by rfl))))) (w_or1 (t_w (w_and (t_cmp op_isNotA isNot_d (e_var 7) (e_non) (nomark _)) (w_and1 (t_cmp (op_inT Fi.un) inT_d (e_var 5) (e_var 7) (by rfl)))))))) (b_one (s_ret (e_bl))) (b_nil)) (b_one (s_for Fi.hp rfl (i_seq (e_if (t_cmp op_isNotA isNot_d (e_var 6) (e_non) (nomark _)) (e_var 6) (e_tup (l_nil) len_nil))) (g_tup rfl (gs_cons (g_name 8 Fi.nd) (gs_cons (g_name 9 Fi.nd) (gs_nil))) (hg := gn_cons (gN_noer _) (gn_cons (gN_noer _) (gn_nil)))) (b_one (s_if (t_w (w_and (t_cmp (op_eqA Fi.un) eq_d (e_ix ix_A ix_d (e_var 8) (e_int) (by intro _ _; rfl)) (e_int) (nomark _)) (w_and1 (t_cmp (op_eqA Fi.un) eq_d (e_ix ix_A ix_d (e_var 9) (e_int) (by intro _ _; rfl)) (e_int) (nomark _))))) (b_one (s_if (t_w (w_or (t_cmp op_isNotA isNot_d (e_callV (ok_is_heading T) Fi.hr Fi.hg Fi.tw rfl (l_cons (e_tup (l_cons (e_ix ix_A ix_d (e_var 8) (e_int) (by intro _ _; rfl)) (l_cons (e_ix ix_A ix_d (e_var 9) (e_int) (by intro _ _; rfl)) (l_nil))) (len_cons (len_cons len_nil))) (l_nil))) (e_bl) (nomark _)) (w_or1 (t_cmp (op_neA Fi.un) ne_d (e_callV (ok_course_at T) Fi.hr Fi.hg Fi.tw rfl (l_cons (e_var 2) (l_cons (e_tup (l_cons (e_ix ix_A ix_d (e_var 8) (e_int) (by intro _ _; rfl)) (l_cons (e_ix ix_A ix_d (e_var 9) (e_int) (by intro _ _; rfl)) (l_nil))) (len_cons (len_cons len_nil))) (l_nil)))) (e_var 4) (nomark _))))) (b_one (s_ret (e_bl))) (b_nil))) (b_nil))))))))))))) (b_one (s_ret (e_bl))))
theorem ok__law_right (T : Tp K mg) : DefV P w K mg base "_law_right" s__law_right 11 ["_law_lode_here"] m_law_right_v49 := defV_mk (T.glo 109) (T.fd 86 (d := dd__law_right)) sc__law_right (fun _ _ _ _ _ _ us hl => match us, hl with | [_], _ => rfl) rfl (w__law_right T)
theorem sc__law_lode : FnScope N__law_lode ["_law_script", "_law_lap"] (defScope s__law_lode) := ⟨rfl, rfl, rfl, by decide +kernel, rfl, by decide +kernel, by decide +kernel⟩
theorem wN__law_lode (T : Tp K mg) : Walk P w K mg base "_law_lode" s__law_lode 0 N__law_lode [] mN_law_lodeB := fun fa cdv A outer s H E Fi => b_cons (s_set 2 Fi.nd (e_if (t_cmp op_lt lt_d (e_var 1) (e_callB call_lenA len_d rfl (T.free 0) boot_len (l_cons (e_var 0) (l_nil))) (nomark _)) (e_callTy call_int1 int_d rfl (T.free 5) boot_int (l_cons (e_ix ix_A ix_d (e_var 0) (e_var 1) (by intro _ _; rfl)) (l_nil))) (e_bin op_addA add_d (e_bin op_addA add_d (e_bin op_mulA mul_d (e_int) (e_var 1)) (e_int)) (e_bin op_modN mod_d (e_callTy call_int1 int_d rfl (T.free 5) boot_int (l_cons (e_callB (cr_sum rfl) sum_d rfl (T.free 110) boot_sum (l_cons (e_slice (e_var 0) (o_none) (o_some (e_int))) (l_nil))) (l_nil))) (e_int))))) (b_cons (s_set 3 Fi.nd (e_bin op_addA add_d (e_int) (e_bin op_mulA mul_d (e_int) (e_var 1)))) (b_cons (s_for Fi.hp rfl (i_seq (e_bin op_addA add_d (e_slice (e_var 0) (o_none) (o_some (e_int))) (e_new (n_lst (l_cons (e_var 2) (l_nil)) (len_cons len_nil))))) (g_name 4 Fi.nd) (b_one (s_set 3 Fi.nd (e_bin op_modN mod_d (e_callTy call_int1 int_d rfl (T.free 5) boot_int (l_cons (e_bin op_addA add_d (e_bin op_addA add_d (e_bin op_mulA mul_d (e_var 3) (e_int)) (e_bin op_modN mod_d (e_callTy call_int1 int_d rfl (T.free 5) boot_int (l_cons (e_var 4) (l_nil))) (e_int))) (e_int)) (l_nil))) (e_int))))) (b_one (s_retO (n_lst (l_cons (e_if (t_w (w_or (t_cmp op_lt lt_d (e_var 2) (e_int) (nomark _)) (w_or1 (t_cmp op_ge ge_d (e_var 2) (e_bin op_pow pow_d (e_int) (e_int)) (nomark _))))) (e_callB call_abs abs_d rfl (T.free 4) boot_abs (l_cons (e_var 2) (l_nil))) (e_int)) (l_cons (e_var 3) (l_cons (e_int) (l_nil)))) (len_cons (len_cons (len_cons len_nil))))))))
theorem okN__law_lode (T : Tp K mg) : DefL P w K mg base "_law_lode" s__law_lode 1 ["_law_script", "_law_lap"] mN_law_lode := defL_mk (T.glo 111) (T.fd 87 (d := dd__law_lode)) sc__law_lode (fun _ _ _ _ _ _ us hl => match us, hl with | [_, _], _ => rfl) rfl (wN__law_lode T)
theorem sc_law : FnScope N_law ["_law_script"] (defScope s_law) := ⟨rfl, rfl, rfl, by decide +kernel, rfl, by decide +kernel, by decide +kernel⟩
theorem w_law (T : Tp K mg) : Walk P w K mg base "law" s_law 11 N_law [] m_law_v49B := fun fa cdv A outer s H E Fi => b_one (s_ret (e_callB (cr_all rfl) all_d rfl (T.free 42) boot_all (l_cons (e_new (n_lc (n := 2) (fx' := [0]) (own := [("_law_lap", 1)]) rfl Fi.nd (i_range1 rfl (T.free 3) (l_cons (e_callB (call_max2 rfl) max_d rfl (T.free 2) boot_max (l_cons (e_int) (l_cons (e_callB (call_min2 rfl) min_d rfl (T.free 1) boot_min (l_cons (e_callB call_lenA len_d rfl (T.free 0) boot_len (l_cons (e_var 0) (l_nil))) (l_cons (e_int) (l_nil)))) (l_nil)))) (l_nil))) (⟨rfl, by decide +kernel, by decide +kernel, by decide +kernel, by decide +kernel⟩ : BlkOk N_law (defScope s_law) _ [("_law_lap", 1)]) (fun _ _ _ _ _ => g_name 1 Fi.nd) (fun _ _ _ _ _ => if_nil) (fun _ _ _ _ _ => e_callN (ok__law_right T) Fi.hr Fi.hg takes0 rfl (n_callV (okN__law_lode T) Fi.hr Fi.hg takes0 rfl (l_cons (e_var 0) (l_cons (e_var 1) (l_nil))))) (by decide))) (l_nil))))
theorem ok_law (T : Tp K mg) : DefV P w K mg base "law" s_law 12 ["_law_script"] m_law_v49 := defV_mk (T.glo 112) (T.fd 88 (d := dd_law)) sc_law (fun _ _ _ _ _ _ us hl => match us, hl with | [_], _ => rfl) rfl (w_law T)

end PV
open PySem PySem.W PySem.Calls PyProof.Rows
set_option maxHeartbeats 0
theorem PySem.Challenge.cw_ironships_k28_whole_a_heading_among_thos_holds : PySem.Challenge.rw_ironships_k28_whole_a_heading_among_thos.Holds := by
  w_on; o_law
  refine HandSHeadRun.head_imp (r := OpenLaw.row PySem.Challenge.rw_ironships_k28_whole_a_heading_among_thos) (q := view (OpenLaw.row PySem.Challenge.rw_ironships_k28_whole_a_heading_among_thos).prog [0, 108]) (H := HT.hk) (ob := HT.ob) (M := 20000) (loose := HT.names) (d := HandSHeadRun.topDef (OpenLaw.row PySem.Challenge.rw_ironships_k28_whole_a_heading_among_thos).prog 108) (kwd := []) HT.ob_eq
    HT.run (by kernel_rfl) (by kernel_rfl) (by kernel_rfl) (by rfl) (by first | assumption | decide +kernel) (by decide +kernel) ⟨rfl, rfl, rfl, rfl, rfl, by decide +kernel⟩ ?hw ?hc
  case hw => w_witness2
  case hc => exact PV.end_walk (l := PySem.Challenge.rw_ironships_k28_whole_a_heading_among_thos) (n := 63) (k := 12) (x := "law") (y := "_law_script") (fs := PV.fs) (fn := PV.fn) (st := PV.s_law) (F := PV.m_law_v49) rfl (by decide) (by kernel_rfl) ⟨rfl, by decide, by decide⟩ (fun _ _ z => z) (by kernel_rfl) PB.good_k28 fun w K mg h a b c base i1 i2 => PV.ok_law ⟨h, a, b, c⟩
