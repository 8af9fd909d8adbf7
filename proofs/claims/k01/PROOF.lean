import PyProof.Rows.All
import Wide.All
import OpenK.AllK
import Wide.FinOn
import HandS.ForMost
import HandS.Exc
import HandS.ExcOwn
import HandS.ExcInit
import HandS.TryOnly
import HandS.WordsExc
import HandS.CallSlots
import HandS.Wide
import HandS.WideBits
import HandS.Gcd
import HandS.IsInst
import HandS.Style
import HandS.TupAny
import HandS.Zip
import HandS.Rev
import HandS.TupMul
import KE.KMathG
import HandS.Lambda
import PyProof.ReprBulk
import PyProof.ReprRoads
import HandS.Defaults
import HandS.Head0
import HandS.Head1
import HandS.Head2
import HandS.HeadEnd
import HandS.HeadHook1
import HandS.HeadHook2
import HandS.ExcIs
import KE.KRevSl
import KE.GoesEnum
import HandS.Star
import HandS.IterVal
import HandS.Head3
import HandS.Small
import KE.SortCalls
import HandS.RevRange
import KE.KExcIs
import HandS.ExcField
import HandS.SetFor
import HandS.EndTab
import HandS.HeadHook4
import HandS.NestedK
import HandS.ExcBuiltin
import HandS.ExcValue
import PySem.Challenge.RW_ironships_k01_errors_each_of_its_own
import Flt.RightSqrt
import PyProof.Rows.ReprOcc
set_option Elab.async false
set_option linter.all false
set_option maxRecDepth 100000
set_option synthInstance.maxSize 100000
set_option synthInstance.maxHeartbeats 2000000
set_option maxHeartbeats 4000000
namespace PV
open PySem PySem.Spec PyProof.Rows L2
/-! ### tables of code objects that may grow -/
open LamX (TabS Tabs CodeO)
theorem tabs_ext {T : List (Addr × Str)} {H H' : Hp} (t : Tabs T H) (k : ∀ a o, H a = some o → H' a = some o) : Tabs T H' := t.ext k
/-- a list is written, or what is neither a table nor told by its one object -/
theorem tabs_upd {T : List (Addr × Str)} {H : Hp} {p : Addr} {o u : HO} (t : Tabs T H) (h : H p = some u) (n1 : ∀ ps, u ≠ .tbl ps) (n2 : ∀ φ, u ≠ .ext φ) : Tabs T (upd H p o) := fun q hq => by
  obtain ⟨ps, h1, h2, h3⟩ := t q hq
  refine ⟨ps, ?_, h2, fun pos cv hc => ?_⟩
  · rw [upd_ne (fun z => by rw [z, h] at h1; exact n1 _ (Option.some.inj h1))]; exact h1
  · obtain ⟨c, e1, e2⟩ := h3 pos cv hc
    refine ⟨c, e1, ?_⟩
    rw [upd_ne (fun z => by rw [z, h] at e2; exact n2 _ (Option.some.inj e2))]; exact e2
/-! ### data: values whose objects never change any more -/
inductive D where
  | non | bl (b : Bool) | int (i : Int) | str (x : Str) | lst (xs : List D) | tup (xs : List D) | dic (ks : List Key) (vs : List D) | fz (ns : List Int) | ins (C : Str) (ns : List Str) (vs : List D)
  | err (C : Str) (ns : List Str) (vs : List D) | fn (j : Nat) (vs : List D) | reg (n : Nat)
/-- an exception: the name of its class, its one attribute -/
structure Exn where
  cls : Str
  given : Option (Str × D)
/-- what a lambda tells -/
inductive AR where
  | no | ok (d : D) | er (x : Exn)
/-- which tables, of which lambda's name; the lambdas that are handed on (the maker's name, the text, the names it captures); what they tell; the errors that suites hold; things that are held under a number, with what stands at some places -/
class Tb where
  T : PySem.W.Frag → List (Addr × Str)
  lam : Nat → Option (Str × Expr × List Str)
  act : Nat → List D → List D → AR
  ex : Addr → Option (Value × Option Addr)
  rg : Nat → Option (Addr × List (Addr × HO))
  dyn : Prop
instance (priority := low) : Tb := ⟨fun _ => [], fun _ => none, fun _ _ _ => .no, fun _ => none, fun _ => none, False⟩
/-- an error that is held as a thing: its class, its dict -/
def HO.xo (C : Addr) (d : Option Addr) (a : Addr) : HO := .ext fun h => ∃ oe vs, h.get? a = some oe ∧ oe.cls = .ref C ∧ oe.dict = d ∧ oe.data = .fields vs
/-- whatever stands there -/
def HO.tt : HO := .ext fun _ => True
section
variable (m : Addr → Prop) (K : PySem.W.Frag) (g : Str → Option Value) (H : Hp)
/-- a lambda that is handed on: its object, its code, its cells stay as they are -/
def CloR (a : Addr) (q : Str) (L : Expr) (ns : List Str) (vs : List V) : Prop :=
  ∃ (params : Arguments) (body : Expr) (scope : Scope) (pos : Pos) (cells : List (Str × Addr)) (c' : Addr) (pm ctv : Value), L = .Lambda params body scope pos ∧
    (¬ m a ∧ H a = some (.frz (PySem.W.kla_obj "<lambda>" (q ++ "<lambda>") params body scope cells pm c' ctv) HO.tt)) ∧ (¬ m c' ∧ H c' = some (CodeO c' (q ++ "<lambda>"))) ∧
    (∀ (x y : Str) (c : Addr), cells.lookup x = some c → cells.lookup y = some c → x = y) ∧ (∀ y : Str, scope.names.lookup y = some .free → ∃ c, cells.lookup y = some c) ∧
    (∀ (y : Str) (c : Addr), cells.lookup y = some c → ¬ m c ∧ ∃ o w, H c = some (.frz o HO.tt) ∧ o.data = .cell w) ∧ vs.length = ns.length ∧
    ∀ (i : Nat) (y : Str), ns[i]? = some y → ∃ v c o u, vs[i]? = some v ∧ cells.lookup y = some c ∧ H c = some (.frz o HO.tt) ∧ o.data = .cell (some u) ∧ RelV v u
/-- the dict of an error -/
def XdR (d : Option Addr) (fs : List (Str × V)) : Prop := (fs = [] ∧ d = none) ∨ ∃ dx, d = some dx ∧ ¬ m dx ∧ H dx = some (.xd fs)
/-- this stands there -/
def RgR (l : List (Addr × HO)) : Prop := ∀ p ∈ l, ¬ m p.1 ∧ H p.1 = some p.2 ∧ ∀ ps, p.2 ≠ .tbl ps
/-- a list, a tuple that is not in m -/
def RL (a : Addr) (xs : List V) : Prop := ¬ m a ∧ H a = some (.lst xs)
/-- the script -/
def RF (a : Addr) (xs : List V) : Prop := (¬ m a ∧ ∃ o, H a = some (.frz o (.lst xs))) ∨
  ∃ (o : Obj) (its : Array Value) (n : Nat), K.lookup a = some o ∧ o.cls = .type "list" ∧ o.dict = none ∧ o.data = .seq its n ∧ its.size ≤ sizeLine ∧ Vals xs its.toList
def RT (a : Addr) (xs : List V) : Prop := (¬ m a ∧ H a = some (.tup xs)) ∨
  ∃ (o : Obj) (its : Array Value) (n : Nat), K.lookup a = some o ∧ o.cls = .type "tuple" ∧ o.data = .seq its n ∧ its.size ≤ sizeLine ∧ Vals xs its.toList
variable [Tb]
mutual
inductive Rp : V → D → Prop
  | non : Rp .non .non
  | bl (b : Bool) : Rp (.bl b) (.bl b)
  | int (i : Int) : Rp (.int i) (.int i)
  | str (x : Str) : Rp (.str x) (.str x)
  | lst {a : Addr} {xs : List V} {ds : List D} : RL m H a xs → RpA xs ds → Rp (.ref a) (.lst ds)
  | fz {a : Addr} {ns : List Int} : RF m K H a (ns.map V.int) → Rp (.ref a) (.fz ns)
  | tup {a : Addr} {xs : List V} {ds : List D} : RT m K H a xs → RpA xs ds → Rp (.ref a) (.tup ds)
  | dic {a : Addr} {kvs : List (Key × V)} {ds : List D} : ¬ m a → H a = some (.dK kvs) → RpA (kvs.map (·.2)) ds → Rp (.ref a) (.dic (kvs.map (·.1)) ds)
  | ins {a C dx : Addr} {c : Str} {fs : List (Str × V)} {ds : List D} : ¬ m a → H a = some (.ins C dx fs) → g c = some (.ref C) → RpA (fs.map (·.2)) ds → Rp (.ref a) (.ins c (fs.map (·.1)) ds)
  | err {a C : Addr} {d : Option Addr} {c : Str} {fs : List (Str × V)} {ds : List D} : (Tb.ex a = some (.ref C, d) ∨ (Tb.dyn ∧ ¬ m a ∧ H a = some (HO.xo C d a))) → g c = some (.ref C) → XdR m H d fs → RpA (fs.map (·.2)) ds → Rp (.ref a) (.err c (fs.map (·.1)) ds)
  | fn {a : Addr} {j : Nat} {q : Str} {L : Expr} {ns : List Str} {vs : List V} {ds : List D} : Tb.lam j = some (q, L, ns) → CloR m H a q L ns vs → RpA vs ds → Rp (.ref a) (.fn j ds)
  | reg {a : Addr} {n : Nat} {l : List (Addr × HO)} : Tb.rg n = some (a, l) → RgR m H l → Rp (.ref a) (.reg n)
inductive RpA : List V → List D → Prop
  | nil : RpA [] []
  | cons {v : V} {vs : List V} {d : D} {ds : List D} : Rp v d → RpA vs ds → RpA (v :: vs) (d :: ds)
end
end
variable [Tb]
section
variable {m m' : Addr → Prop} {K : PySem.W.Frag} {g : Str → Option Value} {H H' : Hp} {a : Addr} {xs : List V} {ds : List D} {v : V} {d : D}
/-- m' has less, or new places -/
def Sub' (m' m : Addr → Prop) (H : Hp) : Prop := ∀ a, m' a → m a ∨ H a = none
/-- all that is not in m stands -/
def Kp (m : Addr → Prop) (H H' : Hp) : Prop := ∀ a o, ¬ m a → H a = some o → (∀ ps, o ≠ .tbl ps) → H' a = some o
theorem Kp.refl : Kp m H H := fun _ _ _ e _ => e
theorem Sub'.refl : Sub' m m H := fun _ h => .inl h
theorem RL.mono (h : RL m H a xs) (s : Sub' m' m H) (k : Kp m H H') : RL m' H' a xs := by
  obtain ⟨n, h⟩ := h
  refine ⟨fun z => ?_, k a _ n h (by simp)⟩
  rcases s a z with y | y
  · exact n y
  · rw [y] at h; cases h
theorem RF.mono (h : RF m K H a xs) (s : Sub' m' m H) (k : Kp m H H') : RF m' K H' a xs := by
  rcases h with ⟨n, o, h⟩ | h
  · refine .inl ⟨fun z => ?_, o, k a _ n h (by simp)⟩
    rcases s a z with y | y
    · exact n y
    · rw [y] at h; cases h
  · exact .inr h
theorem RT.mono (h : RT m K H a xs) (s : Sub' m' m H) (k : Kp m H H') : RT m' K H' a xs := by
  rcases h with ⟨n, h⟩ | h
  · refine .inl ⟨fun z => ?_, k a _ n h (by simp)⟩
    rcases s a z with y | y
    · exact n y
    · rw [y] at h; cases h
  · exact .inr h
theorem Sub'.out {o : HO} (s : Sub' m' m H) (n : ¬ m a) (e : H a = some o) : ¬ m' a := fun z => (s a z).elim n fun y => by rw [y] at e; cases e
theorem CloR.mono {q : Str} {L : Expr} {ns : List Str} {vs : List V} (h : CloR m H a q L ns vs) (s : Sub' m' m H) (k : Kp m H H') : CloR m' H' a q L ns vs := by
  obtain ⟨params, body, scope, pos, cells, c', pm, ctv, h1, ⟨h2, h3⟩, ⟨h4, h5⟩, h6, h7, h8, h9, h10⟩ := h
  refine ⟨params, body, scope, pos, cells, c', pm, ctv, h1, ⟨s.out h2 h3, k _ _ h2 h3 (by simp)⟩, ⟨s.out h4 h5, k _ _ h4 h5 (by unfold CodeO; simp)⟩, h6, h7, fun y c e => ?_, h9, fun i y e => ?_⟩
  · obtain ⟨n, o, w, a1, a2⟩ := h8 y c e
    exact ⟨s.out n a1, o, w, k _ _ n a1 (by simp), a2⟩
  · obtain ⟨v, c, o, u, a1, a2, a3, a4, a5⟩ := h10 i y e
    exact ⟨v, c, o, u, a1, a2, k _ _ (h8 y c a2).1 a3 (by simp), a4, a5⟩
theorem XdR.mono {d : Option Addr} {fs : List (Str × V)} (h : XdR m H d fs) (s : Sub' m' m H) (k : Kp m H H') : XdR m' H' d fs := by
  rcases h with h | ⟨dx, h1, h2, h3⟩
  · exact .inl h
  · exact .inr ⟨dx, h1, s.out h2 h3, k _ _ h2 h3 (by simp)⟩
theorem RgR.mono {l : List (Addr × HO)} (h : RgR m H l) (s : Sub' m' m H) (k : Kp m H H') : RgR m' H' l := fun p hp => by
  obtain ⟨h1, h2, h3⟩ := h p hp
  exact ⟨s.out h1 h2, k _ _ h1 h2 h3, h3⟩
mutual
theorem Rp.mono (s : Sub' m' m H) (k : Kp m H H') : ∀ (d : D) (v : V), Rp m K g H v d → Rp m' K g H' v d
  | .non, _, h => by cases h; exact .non
  | .bl b, _, h => by cases h; exact .bl b
  | .int i, _, h => by cases h; exact .int i
  | .str x, _, h => by cases h; exact .str x
  | .lst ds, _, h => by
    cases h with
    | lst h1 h2 => exact .lst (h1.mono s k) (RpA.mono s k ds _ h2)
  | .fz ns, _, h => by
    cases h with
    | fz h1 => exact .fz (h1.mono s k)
  | .tup ds, _, h => by
    cases h with
    | tup h1 h2 => exact .tup (h1.mono s k) (RpA.mono s k ds _ h2)
  | .dic ks ds, _, h => by
    cases h with
    | @dic a kvs _ h1 h2 h3 =>
      exact .dic (fun z => (s a z).elim h1 fun y => by rw [y] at h2; cases h2) (k a _ h1 h2 (by simp)) (RpA.mono s k ds _ h3)
  | .ins c ns ds, _, h => by
    cases h with
    | @ins a C dx _ fs _ h1 h2 h3 h4 =>
      exact .ins (fun z => (s a z).elim h1 fun y => by rw [y] at h2; cases h2) (k a _ h1 h2 (by simp)) h3 (RpA.mono s k ds _ h4)
  | .err c ns ds, _, h => by
    cases h with
    | @err a C d _ fs _ h1 h2 h3 h4 => exact .err (h1.imp id fun ⟨t, n, e⟩ => ⟨t, s.out n e, k _ _ n e (by unfold HO.xo; simp)⟩) h2 (h3.mono s k) (RpA.mono s k ds _ h4)
  | .fn j ds, _, h => by
    cases h with
    | fn h1 h2 h3 => exact .fn h1 (h2.mono s k) (RpA.mono s k ds _ h3)
  | .reg n, _, h => by
    cases h with
    | reg h1 h2 => exact .reg h1 (h2.mono s k)
theorem RpA.mono (s : Sub' m' m H) (k : Kp m H H') : ∀ (ds : List D) (vs : List V), RpA m K g H vs ds → RpA m' K g H' vs ds
  | [], _, h => by cases h; exact .nil
  | d :: ds, _, h => by
    cases h with
    | cons h1 h2 => exact .cons (Rp.mono s k d _ h1) (RpA.mono s k ds _ h2)
end
theorem RL.sq (h : RL m H a xs) : SqL K H a xs := .inl (.inl h.2)
theorem RF.sq (h : RF m K H a xs) : SqL K H a xs := by
  rcases h with ⟨_, h⟩ | h
  · exact .inl (.inr h)
  · exact .inr h
theorem RT.sq (h : RT m K H a xs) : SqT K H a xs := by
  rcases h with ⟨_, h⟩ | h
  · exact .inl (.inl h)
  · exact .inr h
theorem RpA.length : ∀ {ds : List D} {vs : List V}, RpA m K g H vs ds → vs.length = ds.length
  | [], _, h => by cases h; rfl
  | d :: ds, _, h => by
    cases h with
    | cons h1 h2 => rw [List.length_cons, List.length_cons, h2.length]
theorem RpA.get : ∀ {ds : List D} {vs : List V} {i : Nat} {d : D}, RpA m K g H vs ds → ds[i]? = some d → ∃ v, vs[i]? = some v ∧ Rp m K g H v d
  | [], _, _, _, h, e => by simp at e
  | _ :: _, _, 0, _, .cons r _, e => by simp at e; subst e; exact ⟨_, rfl, r⟩
  | _ :: _, _, i + 1, d, .cons _ t, e => by
    obtain ⟨v, h1, h2⟩ := RpA.get (i := i) (d := d) t (by simpa using e)
    exact ⟨v, by simpa using h1, h2⟩
theorem RpA.append : ∀ {ds es : List D} {vs ws : List V}, RpA m K g H vs ds → RpA m K g H ws es → RpA m K g H (vs ++ ws) (ds ++ es)
  | _, _, _, _, .nil, h => h
  | _, _, _, _, .cons r t, h => .cons r (RpA.append t h)
theorem RpA.take : ∀ {ds : List D} {vs : List V} (n : Nat), RpA m K g H vs ds → RpA m K g H (vs.take n) (ds.take n)
  | _, _, 0, _ => .nil
  | _, _, _ + 1, .nil => .nil
  | _, _, n + 1, .cons r t => .cons r (RpA.take n t)
theorem RpA.drop : ∀ {ds : List D} {vs : List V} (n : Nat), RpA m K g H vs ds → RpA m K g H (vs.drop n) (ds.drop n)
  | _, _, 0, r => r
  | _, _, _ + 1, .nil => .nil
  | _, _, n + 1, .cons _ t => RpA.drop n t
theorem RpA.set : ∀ {ds : List D} {vs : List V} {v : V} {d : D} (i : Nat), RpA m K g H vs ds → Rp m K g H v d → RpA m K g H (vs.set i v) (ds.set i d)
  | _, _, _, _, _, .nil, _ => .nil
  | _, _, _, _, 0, .cons _ t, r => .cons r t
  | _, _, _, _, i + 1, .cons q t, r => .cons q (RpA.set i t r)
theorem RpA.flat {ds : List D} {vs : List V} (h : RpA m K g H vs ds) : ∀ k : Nat, RpA m K g H (List.replicate k vs).flatten (List.replicate k ds).flatten
  | 0 => .nil
  | k + 1 => by
    rw [List.replicate_succ, List.replicate_succ, List.flatten_cons, List.flatten_cons]
    exact h.append (RpA.flat h k)
/-- the value of a datum is told by it where it is flat -/
theorem Rp.int_inv {i : Int} (h : Rp m K g H v (.int i)) : v = .int i := by cases h; rfl
theorem Rp.bl_inv {b : Bool} (h : Rp m K g H v (.bl b)) : v = .bl b := by cases h; rfl
theorem RpA.ints : ∀ {ns : List Int} {vs : List V}, RpA m K g H vs (ns.map D.int) → vs = ns.map V.int
  | [], _, h => by cases h; rfl
  | n :: ns, _, h => by
    cases h with
    | cons h1 h2 => rw [h1.int_inv, h2.ints]; rfl
theorem RpA.bls : ∀ {ns : List Bool} {vs : List V}, RpA m K g H vs (ns.map D.bl) → vs = ns.map V.bl
  | [], _, h => by cases h; rfl
  | n :: ns, _, h => by
    cases h with
    | cons h1 h2 => rw [h1.bl_inv, h2.bls]; rfl
theorem RpA.of_ints : ∀ (ns : List Int), RpA m K g H (ns.map V.int) (ns.map D.int)
  | [] => .nil
  | n :: ns => .cons (.int n) (RpA.of_ints ns)
end
/-! ### slots, environments -/
inductive Sl where
  | no | val (d : D) | own (ds : List D)
abbrev En := List Sl
def Own (σ : L2.St) (ρ : En) (a : Addr) : Prop := ∃ (i : Nat) (ds : List D), ρ[i]? = some (Sl.own ds) ∧ σ[i]? = some (some (V.ref a))
def mm (m₀ : Addr → Prop) (σ : L2.St) (ρ : En) (a : Addr) : Prop := m₀ a ∨ Own σ ρ a
structure Rel (m₀ : Addr → Prop) (K : PySem.W.Frag) (g : Str → Option Value) (H : Hp) (σ : L2.St) (ρ : En) : Prop where
  len : σ.length = ρ.length
  dom : ∀ a, m₀ a → H a ≠ none
  val : ∀ (i : Nat) (d : D), ρ[i]? = some (Sl.val d) → ∃ v, σ[i]? = some (some v) ∧ Rp (mm m₀ σ ρ) K g H v d
  own : ∀ (i : Nat) (ds : List D), ρ[i]? = some (Sl.own ds) → ∃ (p : Addr) (vs : List V), σ[i]? = some (some (.ref p)) ∧ ¬ m₀ p ∧ H p = some (.lst vs) ∧ RpA (mm m₀ σ ρ) K g H vs ds
  inj : ∀ (i j : Nat) (ds es : List D) (p : Addr), ρ[i]? = some (.own ds) → ρ[j]? = some (.own es) → σ[i]? = some (some (.ref p)) → σ[j]? = some (some (.ref p)) → i = j
  tab : Tabs (Tb.T K) H
/-- from one state to a later one -/
structure Stp (σ : L2.St) (ρ : En) (H : Hp) (σ' : L2.St) (ρ' : En) (H' : Hp) : Prop where
  keep : Kp (Own σ ρ) H H'
  grow : ∀ a, H a ≠ none → H' a ≠ none
  own : Sub' (Own σ' ρ') (Own σ ρ) H
section
variable {m₀ : Addr → Prop} {K : PySem.W.Frag} {g : Str → Option Value} {H H' H1 H2 : Hp} {σ σ' σ1 σ2 : L2.St} {ρ ρ' ρ1 ρ2 : En} {v : V} {d : D}
theorem Stp.refl : Stp σ ρ H σ ρ H := ⟨fun _ _ _ e _ => e, fun _ h => h, fun _ h => .inl h⟩
theorem Stp.trans (a : Stp σ ρ H σ1 ρ1 H1) (b : Stp σ1 ρ1 H1 σ2 ρ2 H2) : Stp σ ρ H σ2 ρ2 H2 := by
  refine ⟨fun p o n e nt => ?_, fun p n => b.grow p (a.grow p n), fun p h => ?_⟩
  · refine b.keep p o (fun z => ?_) (a.keep p o n e nt) nt
    rcases a.own p z with y | y
    · exact n y
    · rw [y] at e; cases e
  · rcases b.own p h with y | y
    · exact a.own p y
    · cases q : H p with
      | none => exact .inr rfl
      | some o => exact absurd y (a.grow p (by rw [q]; simp))
/-- a datum behind a step -/
theorem Stp.rp (s : Stp σ ρ H σ' ρ' H') (r : Rel m₀ K g H σ ρ) (h : Rp (mm m₀ σ ρ) K g H v d) : Rp (mm m₀ σ' ρ') K g H' v d := by
  refine Rp.mono (fun a z => ?_) (fun a o n e nt => s.keep a o (fun y => n (.inr y)) e nt) d v h
  rcases z with z | z
  · exact .inl (.inl z)
  · rcases s.own a z with y | y
    · exact .inl (.inr y)
    · exact .inr y
theorem Stp.rpA {vs : List V} {ds : List D} (s : Stp σ ρ H σ' ρ' H') (r : Rel m₀ K g H σ ρ) (h : RpA (mm m₀ σ ρ) K g H vs ds) : RpA (mm m₀ σ' ρ') K g H' vs ds := by
  refine RpA.mono (fun a z => ?_) (fun a o n e nt => s.keep a o (fun y => n (.inr y)) e nt) ds vs h
  rcases z with z | z
  · exact .inl (.inl z)
  · rcases s.own a z with y | y
    · exact .inl (.inr y)
    · exact .inr y
/-- the heap has grown: all stands -/
theorem Rel.grown (r : Rel m₀ K g H σ ρ) (k : ∀ a o, H a = some o → H' a = some o) : Rel m₀ K g H' σ ρ := by
  have kp : Kp (mm m₀ σ ρ) H H' := fun a o _ e _ => k a o e
  refine ⟨r.len, fun a z => ?_, fun i d e => ?_, fun i ds e => ?_, r.inj, tabs_ext r.tab k⟩
  · cases q : H a with
    | none => exact absurd q (r.dom a z)
    | some o => rw [k a o q]; simp
  · obtain ⟨v, h1, h2⟩ := r.val i d e
    exact ⟨v, h1, Rp.mono Sub'.refl kp _ _ h2⟩
  · obtain ⟨p, vs, h1, h2, h3, h4⟩ := r.own i ds e
    exact ⟨p, vs, h1, h2, k _ _ h3, RpA.mono Sub'.refl kp _ _ h4⟩
theorem Stp.grown (k : ∀ a o, H a = some o → H' a = some o) : Stp σ ρ H σ ρ H' := ⟨fun a o _ e _ => k a o e, fun a n => by
  cases q : H a with
  | none => exact absurd q n
  | some o => rw [k a o q]; simp, fun _ z => .inl z⟩
/-- the heap has grown, tables may have been written: all else stands -/
theorem Rel.grownT (r : Rel m₀ K g H σ ρ) (k : LamX.ExtN H H') (gr : ∀ a, H a ≠ none → H' a ≠ none) (t : Tabs (Tb.T K) H') : Rel m₀ K g H' σ ρ := by
  have kp : Kp (mm m₀ σ ρ) H H' := fun a o _ e n => k a o e n
  refine ⟨r.len, fun a z => gr a (r.dom a z), fun i d e => ?_, fun i ds e => ?_, r.inj, t⟩
  · obtain ⟨v, h1, h2⟩ := r.val i d e
    exact ⟨v, h1, Rp.mono Sub'.refl kp _ _ h2⟩
  · obtain ⟨p, vs, h1, h2, h3, h4⟩ := r.own i ds e
    exact ⟨p, vs, h1, h2, k _ _ h3 (by simp), RpA.mono Sub'.refl kp _ _ h4⟩
theorem Stp.grownT (k : LamX.ExtN H H') (gr : ∀ a, H a ≠ none → H' a ≠ none) : Stp σ ρ H σ ρ H' := ⟨fun a o _ e n => k a o e n, gr, fun _ z => .inl z⟩
theorem keep_new {p : Addr} {o : HO} (h : H p = none) : ∀ a u, H a = some u → upd H p o a = some u := fun a u e => by
  rw [upd_ne (ne_of_none e h)]
  exact e
/-- a new object is in no m -/
theorem Rel.new_out (r : Rel m₀ K g H σ ρ) {p : Addr} (h : H p = none) : ¬ mm m₀ σ ρ p := by
  rintro (z | ⟨i, ds, e1, e2⟩)
  · exact r.dom p z h
  · obtain ⟨q, vs, h1, _, h3, _⟩ := r.own i ds e1
    rw [e2] at h1; cases h1
    rw [h] at h3; cases h3
end
/-! ### results -/
inductive R (α : Type) where
  | no | er (x : Exn) (ρ : En) | ok (a : α) (ρ : En)
abbrev M (α : Type) := En → R α
def M.ret {α : Type} (a : α) : M α := fun ρ => .ok a ρ
def R.andThen {α β : Type} (r : R α) (f : α → M β) : R β := match r with
  | .no => .no
  | .er x ρ => .er x ρ
  | .ok a ρ => f a ρ
def M.bind {α β : Type} (x : M α) (f : α → M β) : M β := fun ρ => (x ρ).andThen f
/-- a value that may not be there -/
def lift {α : Type} (o : Option α) : M α := fun ρ => match o with
  | none => .no
  | some a => .ok a ρ
theorem bind_ok {α β : Type} {x : M α} {f : α → M β} {ρ ρ1 : En} {a : α} (h : x ρ = .ok a ρ1) : M.bind x f ρ = f a ρ1 := by
  unfold M.bind R.andThen; rw [h]
@[simp] theorem ok_andThen {α β : Type} {f : α → M β} {ρ : En} {a : α} : (R.ok a ρ).andThen f = f a ρ := rfl
@[simp] theorem er_andThen {α β : Type} {f : α → M β} {ρ : En} {x : Exn} : (R.er x ρ : R α).andThen f = .er x ρ := rfl
@[simp] theorem no_andThen {α β : Type} {f : α → M β} : (R.no : R α).andThen f = .no := rfl
/-- an exception's object: its class, its dict -/
def ExR (m : Addr → Prop) (K : PySem.W.Frag) (g : Str → Option Value) (H : Hp) (c : Value) (d : Option Addr) (x : Exn) : Prop :=
  (∃ C, g x.cls = some (.ref C) ∧ c = .ref C) ∧ match x.given with
    | none => d = none
    | some (f, y) => ∃ dx v, d = some dx ∧ ¬ m dx ∧ H dx = some (.xd [(f, v)]) ∧ Rp m K g H v y
/-- the slots at fx hold what they held -/
def Fx (fx : List Nat) (σ σ' : L2.St) : Prop := ∀ i ∈ fx, σ'[i]? = σ[i]?
theorem Fx.refl {fx : List Nat} {σ : L2.St} : Fx fx σ σ := fun _ _ => rfl
theorem Fx.trans {fx : List Nat} {σ σ1 σ2 : L2.St} (a : Fx fx σ σ1) (b : Fx fx σ1 σ2) : Fx fx σ σ2 := fun i h => (b i h).trans (a i h)
/-- the written part, the module's names, what is wanted of exceptions, the slots that are never stored -/
structure Ct where
  K : PySem.W.Frag
  g : Str → Option Value
  W : WX
  fx : List Nat
/-- what is wanted of a result: S where it is there, W where it raises -/
def Want {α : Type} (c : Ct) (m₀ : Addr → Prop) (σ : L2.St) (ρ : En) (H : Hp) (S : α → En → Prop) : R α → Prop
  | .no => False
  | .er x ρ' => ∀ cl d σ' H', Rel m₀ c.K c.g H' σ' ρ' → Stp σ ρ H σ' ρ' H' → Fx c.fx σ σ' → ExR (mm m₀ σ' ρ') c.K c.g H' cl d x → c.W cl d σ' H'
  | .ok a ρ' => S a ρ'
theorem Want.bind {α β : Type} {c : Ct} {m₀ : Addr → Prop} {σ : L2.St} {ρ : En} {H : Hp} {S : β → En → Prop} {x : M α} {f : α → M β}
    (h : Want c m₀ σ ρ H S (M.bind x f ρ)) : Want c m₀ σ ρ H (fun a ρ1 => Want c m₀ σ ρ H S (f a ρ1)) (x ρ) := by
  unfold M.bind at h
  cases q : x ρ with
  | no => rw [q] at h; exact h
  | er y ρ' => rw [q] at h; exact h
  | ok a ρ' => rw [q] at h; exact h
theorem Want.mono {α : Type} {c : Ct} {m₀ : Addr → Prop} {σ : L2.St} {ρ : En} {H : Hp} {S S' : α → En → Prop} {r : R α}
    (h : Want c m₀ σ ρ H S r) (hs : ∀ a ρ', r = .ok a ρ' → S a ρ' → S' a ρ') : Want c m₀ σ ρ H S' r := by
  cases r with
  | no => exact h
  | er y ρ' => exact h
  | ok a ρ' => exact hs a ρ' rfl h
/-- the wish stands behind a step -/
theorem Want.later {α : Type} {c : Ct} {m₀ : Addr → Prop} {σ σ1 : L2.St} {ρ ρ1 : En} {H H1 : Hp} {S : α → En → Prop} {r : R α}
    (h : Want c m₀ σ ρ H S r) (s : Stp σ ρ H σ1 ρ1 H1) (f : Fx c.fx σ σ1) : Want c m₀ σ1 ρ1 H1 S r := by
  cases r with
  | no => exact h
  | er y ρ' => exact fun cl d σ' H' r' s' f' e => h cl d σ' H' r' (s.trans s') (f.trans f') e
  | ok a ρ' => exact h
theorem Want.lift {α : Type} {c : Ct} {m₀ : Addr → Prop} {σ : L2.St} {ρ : En} {H : Hp} {S : α → En → Prop} {o : Option α} (h : Want c m₀ σ ρ H S (lift o ρ)) : ∃ a, o = some a ∧ S a ρ := by
  unfold PV.lift at h
  cases o with
  | none => exact h.elim
  | some a => exact ⟨a, rfl, h⟩
/-- p besides -/
abbrev mp (m₀ : Addr → Prop) (p : Addr) : Addr → Prop := fun a => m₀ a ∨ a = p
/-! ### readings of mirrors -/
section
variable (c : Ct)
/-- an expression's -/
def tE (f : M D) : TE := fun σ H Q => ∃ m₀ ρ, Rel m₀ c.K c.g H σ ρ ∧ Want c m₀ σ ρ H (fun d ρ' => ∀ v H', Rel m₀ c.K c.g H' σ ρ' → Rp (mm m₀ σ ρ') c.K c.g H' v d → Stp σ ρ H σ ρ' H' → Q v H') (f ρ)
/-- a test's -/
def tT (f : M Bool) : TT := fun σ H Q => ∃ m₀ ρ, Rel m₀ c.K c.g H σ ρ ∧ Want c m₀ σ ρ H (fun b ρ' => ∀ H', Rel m₀ c.K c.g H' σ ρ' → Stp σ ρ H σ ρ' H' → Q b H') (f ρ)
/-- a new list's -/
def tN (f : M (List D)) : TE := fun σ H Q => ∃ m₀ ρ, Rel m₀ c.K c.g H σ ρ ∧ Want c m₀ σ ρ H (fun ds ρ' => ∀ p vs H', Rel (mp m₀ p) c.K c.g H' σ ρ' → H p = none → H' p = some (.lst vs) → RpA (mm (mp m₀ p) σ ρ') c.K c.g H' vs ds → Stp σ ρ H σ ρ' H' → Q (.ref p) H') (f ρ)
/-- several expressions' -/
def tL (f : M (List D)) : TA := fun σ H Q => ∃ m₀ ρ, Rel m₀ c.K c.g H σ ρ ∧ Want c m₀ σ ρ H (fun ds ρ' => ∀ vs H', Rel m₀ c.K c.g H' σ ρ' → RpA (mm m₀ σ ρ') c.K c.g H' vs ds → Stp σ ρ H σ ρ' H' → Q vs H') (f ρ)
/-- a part of a slice -/
def tO (f : M (Option Int)) : TO := fun σ H Q => ∃ m₀ ρ, Rel m₀ c.K c.g H σ ρ ∧ Want c m₀ σ ρ H (fun o ρ' => ∀ H', Rel m₀ c.K c.g H' σ ρ' → Stp σ ρ H σ ρ' H' → Q o H') (f ρ)
end
abbrev ct (X : Cx) (W : WX) (fx : List Nat) : Ct := ⟨X.K, X.mg, W, fx⟩
abbrev EV (X : Cx) (W : WX) (fx : List Nat) (e : Expr) (f : M D) : Prop := PE X e (tE (ct X W fx) f)
abbrev TV (X : Cx) (W : WX) (fx : List Nat) (e : Expr) (f : M Bool) : Prop := PT X e (tT (ct X W fx) f)
abbrev WV (X : Cx) (W : WX) (fx : List Nat) (e : Expr) (f : M Bool) : Prop := PW X e (tT (ct X W fx) f)
abbrev NV (X : Cx) (W : WX) (fx : List Nat) (e : Expr) (f : M (List D)) : Prop := PE X e (tN (ct X W fx) f)
abbrev LV (X : Cx) (W : WX) (fx : List Nat) (es : List Expr) (f : M (List D)) : Prop := PA X es (tL (ct X W fx) f)
abbrev OV (X : Cx) (W : WX) (fx : List Nat) (e : Option Expr) (f : M (Option Int)) : Prop := PO X e (tO (ct X W fx) f)
theorem PE.imp {X : Cx} {e : Expr} {t t' : TE} (h : PE X e t) (i : ∀ σ H Q, t' σ H Q → t σ H Q) : PE X e t' := ⟨fun pins s σ H Q I w => h.run pins s σ H Q I (i σ H Q w)⟩
theorem PT.imp {X : Cx} {e : Expr} {t t' : TT} (h : PT X e t) (i : ∀ σ H Q, t' σ H Q → t σ H Q) : PT X e t' := ⟨fun pins s σ H Q I w => h.run pins s σ H Q I (i σ H Q w)⟩
theorem PW.imp {X : Cx} {e : Expr} {t t' : TT} (h : PW X e t) (i : ∀ σ H Q, t' σ H Q → t σ H Q) : PW X e t' := ⟨fun wh pins s σ H Q I w => h.run wh pins s σ H Q I (i σ H Q w)⟩
theorem PA.imp {X : Cx} {e : List Expr} {t t' : TA} (h : PA X e t) (i : ∀ σ H Q, t' σ H Q → t σ H Q) : PA X e t' := ⟨fun pos pins s σ H Q I w => h.run pos pins s σ H Q I (i σ H Q w)⟩
theorem PO.imp {X : Cx} {e : Option Expr} {t t' : TO} (h : PO X e t) (i : ∀ σ H Q, t' σ H Q → t σ H Q) : PO X e t' := ⟨fun pins s σ H Q I w => h.run pins s σ H Q I (i σ H Q w)⟩
theorem PS.imp {X : Cx} {e : Stmt} {t t' : TS} (h : PS X e t) (i : ∀ D σ H, t' D σ H → t D σ H) : PS X e t' := ⟨fun pins s σ H D I w => h.run pins s σ H D I (i D σ H w)⟩
theorem PSs.imp {X : Cx} {e : List Stmt} {t t' : TS} (h : PSs X e t) (i : ∀ D σ H, t' D σ H → t D σ H) : PSs X e t' := ⟨fun pins s σ H D I w => h.run pins s σ H D I (i D σ H w)⟩
/-! ### the bind of readings -/
section
variable {c : Ct} {σ : L2.St} {H : Hp}
/-- an expression ahead of more: the reading of the first, at whose end the rest is to be shown -/
theorem tE.first {β : Type} {x : M D} {f : D → M β} {m₀ : Addr → Prop} {ρ : En} {S : β → En → Prop} {Q : VK} (r : Rel m₀ c.K c.g H σ ρ) (h : Want c m₀ σ ρ H S (M.bind x f ρ))
    (q : ∀ d ρ1 v H1, Rel m₀ c.K c.g H1 σ ρ1 → Rp (mm m₀ σ ρ1) c.K c.g H1 v d → Stp σ ρ H σ ρ1 H1 → Want c m₀ σ ρ1 H1 S (f d ρ1) → Q v H1) : tE c x σ H Q :=
  ⟨m₀, ρ, r, h.bind.mono fun d ρ1 _ w v H1 r1 h1 s1 => q d ρ1 v H1 r1 h1 s1 (w.later s1 .refl)⟩
theorem tE.firstE {β : Type} {x : M D} {f : D → M β} {m₀ : Addr → Prop} {ρ : En} {S : β → En → Prop} {Q : VK} (r : Rel m₀ c.K c.g H σ ρ) (h : Want c m₀ σ ρ H S (M.bind x f ρ))
    (q : ∀ d ρ1 v H1, x ρ = .ok d ρ1 → Rel m₀ c.K c.g H1 σ ρ1 → Rp (mm m₀ σ ρ1) c.K c.g H1 v d → Stp σ ρ H σ ρ1 H1 → Want c m₀ σ ρ1 H1 S (f d ρ1) → Q v H1) : tE c x σ H Q :=
  ⟨m₀, ρ, r, h.bind.mono fun d ρ1 e w v H1 r1 h1 s1 => q d ρ1 v H1 e r1 h1 s1 (w.later s1 .refl)⟩
theorem tT.first {β : Type} {x : M Bool} {f : Bool → M β} {m₀ : Addr → Prop} {ρ : En} {S : β → En → Prop} {Q : Bool → Hp → Prop} (r : Rel m₀ c.K c.g H σ ρ) (h : Want c m₀ σ ρ H S (M.bind x f ρ))
    (q : ∀ b ρ1 H1, Rel m₀ c.K c.g H1 σ ρ1 → Stp σ ρ H σ ρ1 H1 → Want c m₀ σ ρ1 H1 S (f b ρ1) → Q b H1) : tT c x σ H Q :=
  ⟨m₀, ρ, r, h.bind.mono fun d ρ1 _ w H1 r1 s1 => q d ρ1 H1 r1 s1 (w.later s1 .refl)⟩
theorem tN.first {β : Type} {x : M (List D)} {f : List D → M β} {m₀ : Addr → Prop} {ρ : En} {S : β → En → Prop} {Q : VK} (r : Rel m₀ c.K c.g H σ ρ) (h : Want c m₀ σ ρ H S (M.bind x f ρ))
    (q : ∀ ds ρ1 p vs H1, Rel (mp m₀ p) c.K c.g H1 σ ρ1 → H p = none → H1 p = some (.lst vs) → RpA (mm (mp m₀ p) σ ρ1) c.K c.g H1 vs ds → Stp σ ρ H σ ρ1 H1 → Want c m₀ σ ρ1 H1 S (f ds ρ1) → Q (.ref p) H1) : tN c x σ H Q :=
  ⟨m₀, ρ, r, h.bind.mono fun d ρ1 _ w p vs H1 r1 n1 e1 h1 s1 => q d ρ1 p vs H1 r1 n1 e1 h1 s1 (w.later s1 .refl)⟩
theorem tL.first {β : Type} {x : M (List D)} {f : List D → M β} {m₀ : Addr → Prop} {ρ : En} {S : β → En → Prop} {Q : List V → Hp → Prop} (r : Rel m₀ c.K c.g H σ ρ) (h : Want c m₀ σ ρ H S (M.bind x f ρ))
    (q : ∀ ds ρ1 vs H1, x ρ = .ok ds ρ1 → Rel m₀ c.K c.g H1 σ ρ1 → RpA (mm m₀ σ ρ1) c.K c.g H1 vs ds → Stp σ ρ H σ ρ1 H1 → Want c m₀ σ ρ1 H1 S (f ds ρ1) → Q vs H1) : tL c x σ H Q :=
  ⟨m₀, ρ, r, h.bind.mono fun d ρ1 e w vs H1 r1 h1 s1 => q d ρ1 vs H1 e r1 h1 s1 (w.later s1 .refl)⟩
theorem tO.first {β : Type} {x : M (Option Int)} {f : Option Int → M β} {m₀ : Addr → Prop} {ρ : En} {S : β → En → Prop} {Q : Option Int → Hp → Prop} (r : Rel m₀ c.K c.g H σ ρ) (h : Want c m₀ σ ρ H S (M.bind x f ρ))
    (q : ∀ o ρ1 H1, Rel m₀ c.K c.g H1 σ ρ1 → Stp σ ρ H σ ρ1 H1 → Want c m₀ σ ρ1 H1 S (f o ρ1) → Q o H1) : tO c x σ H Q :=
  ⟨m₀, ρ, r, h.bind.mono fun d ρ1 _ w H1 r1 s1 => q d ρ1 H1 r1 s1 (w.later s1 .refl)⟩
end
end PV
namespace PV
open PySem PySem.Spec PyProof.Rows L2
variable [Tb]
section
variable {m₀ : Addr → Prop} {K : PySem.W.Frag} {g : Str → Option Value} {H H' : Hp} {σ : L2.St} {ρ : En} {v : V} {d : D} {i : Nat} {p : Addr} {ds : List D} {vs : List V}
/-! ### slots change -/
theorem own_set_val {σ' : L2.St} : Sub' (Own (σ.set i (some v)) (ρ.set i (.val d))) (Own σ ρ) H := fun a ⟨j, es, e1, e2⟩ => by
  by_cases hj : j = i
  · subst hj
    by_cases hl : j < ρ.length
    · rw [List.getElem?_set_self hl] at e1; cases e1
    · rw [List.getElem?_eq_none (by simpa using hl)] at e1; cases e1
  · rw [List.getElem?_set_ne (Ne.symm hj)] at e1 e2
    exact .inl ⟨j, es, e1, e2⟩
/-- slot i becomes a datum -/
theorem Rel.set (r : Rel m₀ K g H σ ρ) (hi : i < ρ.length) (h : Rp (mm m₀ (σ.set i (some v)) (ρ.set i (.val d))) K g H v d) : Rel m₀ K g H (σ.set i (some v)) (ρ.set i (.val d)) := by
  have sub : Sub' (mm m₀ (σ.set i (some v)) (ρ.set i (.val d))) (mm m₀ σ ρ) H := fun a z => by
    rcases z with z | z
    · exact .inl (.inl z)
    · rcases own_set_val (H := H) (σ' := σ) a z with y | y
      · exact .inl (.inr y)
      · exact .inr y
  refine ⟨by rw [List.length_set, List.length_set]; exact r.len, r.dom, fun j e q => ?_, fun j es q => ?_, fun j k es fs p q1 q2 q3 q4 => ?_, r.tab⟩
  · by_cases hj : j = i
    · subst hj
      rw [List.getElem?_set_self hi] at q; cases q
      exact ⟨v, List.getElem?_set_self (by rw [r.len]; exact hi), h⟩
    · rw [List.getElem?_set_ne (Ne.symm hj)] at q
      obtain ⟨w, h1, h2⟩ := r.val j e q
      exact ⟨w, by rw [List.getElem?_set_ne (Ne.symm hj)]; exact h1, Rp.mono sub Kp.refl _ _ h2⟩
  · by_cases hj : j = i
    · subst hj
      rw [List.getElem?_set_self hi] at q; cases q
    · rw [List.getElem?_set_ne (Ne.symm hj)] at q
      obtain ⟨p, ws, h1, h2, h3, h4⟩ := r.own j es q
      exact ⟨p, ws, by rw [List.getElem?_set_ne (Ne.symm hj)]; exact h1, h2, h3, RpA.mono sub Kp.refl _ _ h4⟩
  · by_cases hj : j = i
    · subst hj
      rw [List.getElem?_set_self hi] at q1; cases q1
    · by_cases hk : k = i
      · subst hk
        rw [List.getElem?_set_self hi] at q2; cases q2
      · rw [List.getElem?_set_ne (Ne.symm hj)] at q1 q3
        rw [List.getElem?_set_ne (Ne.symm hk)] at q2 q4
        exact r.inj j k es fs p q1 q2 q3 q4
theorem Stp.set : Stp σ ρ H (σ.set i (some v)) (ρ.set i (.val d)) H := ⟨Kp.refl, fun _ h => h, own_set_val (σ' := σ)⟩
/-- slot i is given to a datum that avoids what is owned -/
theorem Rel.put (r : Rel m₀ K g H σ ρ) (hi : i < ρ.length) (h : Rp (mm m₀ σ ρ) K g H v d) : Rel m₀ K g H (σ.set i (some v)) (ρ.set i (.val d)) :=
  r.set hi (Rp.mono (fun a z => by
    rcases z with z | z
    · exact .inl (.inl z)
    · rcases own_set_val (H := H) (σ' := σ) a z with y | y
      · exact .inl (.inr y)
      · exact .inr y) Kp.refl _ _ h)
theorem set_self {σ : L2.St} {i : Nat} {x : Option V} (h : σ[i]? = some x) : σ.set i x = σ := by
  obtain ⟨hl, e⟩ := List.getElem?_eq_some_iff.mp h
  rw [← e, List.set_getElem_self]
/-- an owned slot is read as a datum: it is owned no longer -/
theorem Rel.freeze (r : Rel m₀ K g H σ ρ) (e : ρ[i]? = some (.own ds)) : ∃ p, σ[i]? = some (some (.ref p)) ∧ Rel m₀ K g H σ (ρ.set i (.val (.lst ds))) ∧ Rp (mm m₀ σ (ρ.set i (.val (.lst ds)))) K g H (.ref p) (.lst ds) ∧ Stp σ ρ H σ (ρ.set i (.val (.lst ds))) H := by
  obtain ⟨p, vs, h1, h2, h3, h4⟩ := r.own i ds e
  have hi : i < ρ.length := (List.getElem?_eq_some_iff.mp e).1
  have st := Stp.set (σ := σ) (ρ := ρ) (H := H) (i := i) (v := .ref p) (d := .lst ds)
  rw [set_self h1] at st
  have np : ¬ mm m₀ σ (ρ.set i (.val (.lst ds))) p := by
    rintro (z | ⟨j, es, e1, e2⟩)
    · exact h2 z
    · by_cases hj : j = i
      · subst hj
        rw [List.getElem?_set_self hi] at e1; cases e1
      · rw [List.getElem?_set_ne (Ne.symm hj)] at e1
        exact hj (r.inj j i es ds p e1 e e2 h1)
  have h : Rp (mm m₀ σ (ρ.set i (.val (.lst ds)))) K g H (.ref p) (.lst ds) := .lst ⟨np, h3⟩ (RpA.mono (fun a z => by
    rcases z with z | z
    · exact .inl (.inl z)
    · rcases st.own a z with y | y
      · exact .inl (.inr y)
      · exact .inr y) Kp.refl _ _ h4)
  have rr := r.set (i := i) (v := .ref p) (d := .lst ds) hi (by rw [set_self h1]; exact h)
  rw [set_self h1] at rr
  exact ⟨p, h1, rr, h, st⟩
/-- a new object -/
theorem Rel.add (r : Rel m₀ K g H σ ρ) {o : HO} (hp : H p = none) : Rel (mp m₀ p) K g (upd H p o) σ ρ := by
  have sub : Sub' (mm (mp m₀ p) σ ρ) (mm m₀ σ ρ) H := fun a z => by
    rcases z with (z | z) | z
    · exact .inl (.inl z)
    · rw [z]; exact .inr hp
    · exact .inl (.inr z)
  have kp : Kp (mm m₀ σ ρ) H (upd H p o) := fun a u _ e _ => keep_new hp a u e
  refine ⟨r.len, fun a z => ?_, fun j e q => ?_, fun j es q => ?_, r.inj, tabs_ext r.tab (keep_new hp)⟩
  · rcases z with z | z
    · rw [upd_ne (fun y => r.dom a z (by rw [y]; exact hp))]
      exact r.dom a z
    · rw [z, upd_same]; simp
  · obtain ⟨w, h1, h2⟩ := r.val j e q
    exact ⟨w, h1, Rp.mono sub kp _ _ h2⟩
  · obtain ⟨b, ws, h1, h2, h3, h4⟩ := r.own j es q
    refine ⟨b, ws, h1, fun z => z.elim h2 fun y => ?_, keep_new hp _ _ h3, RpA.mono sub kp _ _ h4⟩
    rw [y, hp] at h3; cases h3
theorem Rel.drop (r : Rel (mp m₀ p) K g H σ ρ) : Rel m₀ K g H σ ρ := by
  have sub : Sub' (mm m₀ σ ρ) (mm (mp m₀ p) σ ρ) H := fun a z => by
    rcases z with z | z
    · exact .inl (.inl (.inl z))
    · exact .inl (.inr z)
  refine ⟨r.len, fun a z => r.dom a (.inl z), fun j e q => ?_, fun j es q => ?_, r.inj, r.tab⟩
  · obtain ⟨w, h1, h2⟩ := r.val j e q
    exact ⟨w, h1, Rp.mono sub Kp.refl _ _ h2⟩
  · obtain ⟨b, ws, h1, h2, h3, h4⟩ := r.own j es q
    exact ⟨b, ws, h1, fun z => h2 (.inl z), h3, RpA.mono sub Kp.refl _ _ h4⟩
/-- p, new, is in no m -/
theorem Rel.out (r : Rel (mp m₀ p) K g H' σ ρ) (hm : ¬ m₀ p) : ¬ mm m₀ σ ρ p := by
  rintro (z | ⟨j, es, e1, e2⟩)
  · exact hm z
  · obtain ⟨b, ws, h1, h2, _, _⟩ := r.own j es e1
    rw [e2] at h1; cases h1
    exact h2 (.inr rfl)
theorem sub_mp : Sub' (mm m₀ σ ρ) (mm (mp m₀ p) σ ρ) H := fun a z => by
  rcases z with z | z
  · exact .inl (.inl (.inl z))
  · exact .inl (.inr z)
end
end PV
namespace PV
open PySem PySem.Spec PyProof.Rows L2
variable [Tb]
section
variable {m₀ : Addr → Prop} {K : PySem.W.Frag} {g : Str → Option Value} {H H' : Hp} {σ : L2.St} {ρ ρ' : En} {p : Addr} {o : HO}
theorem Stp.back {σ' : L2.St} (s : Stp σ ρ H σ' ρ' H') (h : H' p = none) : H p = none := by
  cases q : H p with
  | none => rfl
  | some u => exact absurd h (s.grow p (by rw [q]; simp))
theorem rpA_add {vs : List V} {ds : List D} (h : RpA (mm m₀ σ ρ) K g H vs ds) (hp : H p = none) : RpA (mm (mp m₀ p) σ ρ) K g (upd H p o) vs ds :=
  RpA.mono (fun a z => by
    rcases z with (z | z) | z
    · exact .inl (.inl z)
    · rw [z]; exact .inr hp
    · exact .inl (.inr z)) (fun a u _ e _ => keep_new hp a u e) _ _ h
theorem rpA_drop {vs : List V} {ds : List D} (h : RpA (mm (mp m₀ p) σ ρ) K g H vs ds) : RpA (mm m₀ σ ρ) K g H vs ds := RpA.mono sub_mp Kp.refl _ _ h
theorem rpA_new {m : Addr → Prop} {vs : List V} {ds : List D} (h : RpA m K g H vs ds) (hp : H p = none) : RpA m K g (upd H p o) vs ds := RpA.mono Sub'.refl (fun a u _ e _ => keep_new hp a u e) _ _ h
end
/-! ### names, constants -/
def dVar (i : Nat) : M D := fun ρ => match ρ[i]? with
  | some (.val d) => .ok d ρ
  | some (.own ds) => .ok (.lst ds) (ρ.set i (.val (.lst ds)))
  | _ => .no
section
variable {X : Cx} {W : WX} {fx : List Nat} {a b e : Expr} {es : List Expr} {fa fb : M D} {pos : Pos}
theorem e_tVar {i : Nat} (h : PE X e (tVar i)) : EV X W fx e (dVar i) := by
  refine PE.imp h fun σ H Q ⟨m₀, ρ, r, w⟩ => ?_
  unfold dVar at w
  cases q : ρ[i]? with
  | none => rw [q] at w; exact w.elim
  | some s =>
    rw [q] at w
    cases s with
    | no => exact w.elim
    | val d =>
      obtain ⟨v, h1, h2⟩ := r.val i d q
      exact ⟨v, h1, w v H r h2 .refl⟩
    | own ds =>
      obtain ⟨p, h1, h2, h3, h4⟩ := r.freeze q
      exact ⟨.ref p, h1, w _ H h2 h3 h4⟩
theorem e_var (i : Nat) {x : Str} (hN : X.N[i]? = some x := by rfl) (hv : Vis X.env.scope x := by first | exact Or.inl rfl | exact Or.inr (Or.inl rfl) | exact Or.inr (Or.inr rfl)) (hd : (x == ("__debug__" : Str)) = false := by decide)
    (hcd : (x == ("__classdict__" : Str)) = false := by decide) : EV X W fx (.Name x pos) (dVar i) := e_tVar (pe_var hN hv hd hcd)
theorem e_c {v : V} {d : D} (h : PE X e (tC v)) (r : ∀ m H, Rp m X.K X.mg H v d) : EV X W fx e (M.ret d) :=
  PE.imp h fun σ H Q ⟨m₀, ρ, rr, w⟩ => w v H rr (r _ _) .refl
theorem e_int {i : Int} {j} : EV X W fx (.Constant (.int i) j pos) (M.ret (.int i)) := e_c pe_int fun _ _ => .int i
theorem e_bl {b : Bool} {j} : EV X W fx (.Constant (.bool b) j pos) (M.ret (.bl b)) := e_c pe_bl fun _ _ => .bl b
theorem e_non {j} : EV X W fx (.Constant .none j pos) (M.ret .non) := e_c pe_non fun _ _ => .non
theorem e_str {x : Str} {j} : EV X W fx (.Constant (.str x) j pos) (M.ret (.str x)) := e_c pe_str fun _ _ => .str x
/-! ### operators by values -/
def OpD (X : Cx) (r : R2) (f : D → D → Option D) : Prop := ∀ (m : Addr → Prop) (H : Hp) (x y : V) (dx dy dz : D), Rp m X.K X.mg H x dx → Rp m X.K X.mg H y dy → f dx dy = some dz → (∀ p, H p = none → ¬ m p) →
  ∀ Q : VK, (∀ v H', (∀ a o, H a = some o → H' a = some o) → Rp m X.K X.mg H' v dz → Q v H') → r x y H Q
def UnD (X : Cx) (r : V → Hp → VK → Prop) (f : D → Option D) : Prop := ∀ (m : Addr → Prop) (H : Hp) (x : V) (dx dz : D), Rp m X.K X.mg H x dx → f dx = some dz →
  ∀ Q : VK, (∀ v H', (∀ a o, H a = some o → H' a = some o) → Rp m X.K X.mg H' v dz → Q v H') → r x H Q
def CallD (X : Cx) (r : List V → Hp → VK → Prop) (f : List D → Option D) : Prop := ∀ (m : Addr → Prop) (H : Hp) (vs : List V) (ds : List D) (dz : D), RpA m X.K X.mg H vs ds → f ds = some dz → (∀ p, H p = none → ¬ m p) →
  ∀ Q : VK, (∀ v H', (∀ a o, H a = some o → H' a = some o) → Rp m X.K X.mg H' v dz → Q v H') → r vs H Q
def mOp (f : D → D → Option D) (fa fb : M D) : M D := M.bind fa fun x => M.bind fb fun y => lift (f x y)
def mUn (f : D → Option D) (fa : M D) : M D := M.bind fa fun x => lift (f x)
def mCB (f : List D → Option D) (fl : M (List D)) : M D := M.bind fl fun ds => lift (f ds)
theorem op_core {r : R2} {f : D → D → Option D} (hd : OpD X r f) {σ : L2.St} {H : Hp} {Q : VK} (h : tE (ct X W fx) (mOp f fa fb) σ H Q) : tOp r (tE (ct X W fx) fa) (tE (ct X W fx) fb) σ H Q := by
  obtain ⟨m₀, ρ, rr, w⟩ := h
  refine tE.first rr w fun dx ρ1 x H1 r1 h1 s1 w1 => tE.first r1 w1 fun dy ρ2 y H2 r2 h2 s2 w2 => ?_
  obtain ⟨dz, e, w3⟩ := w2.lift
  exact hd _ H2 x y dx dy dz (s2.rp r1 h1) h2 e (fun p hp => r2.new_out hp) Q fun v H' k h' => w3 v H' (r2.grown k) h' (s1.trans (s2.trans (.grown k)))
theorem e_bin {op : Operator} {r : R2} {f : D → D → Option D} (ho : OpR X (binaryOp op) r) (hd : OpD X r f) (ha : EV X W fx a fa) (hb : EV X W fx b fb) : EV X W fx (.BinOp a op b pos) (mOp f fa fb) :=
  PE.imp (pe_op ho ha hb) fun _ _ _ h => op_core hd h
theorem e_ix {r : R2} {f : D → D → Option D} (ho : IxR X r) (hd : OpD X r f) (ha : EV X W fx a fa) (hb : EV X W fx b fb) (hs : PlainIx b) : EV X W fx (.Subscript a b pos) (mOp f fa fb) :=
  PE.imp (pe_ix ho ha hb hs) fun _ _ _ h => op_core hd h
theorem e_un {op : UnaryOp} {r : V → Hp → VK → Prop} {f : D → Option D} (ho : UnR X (unaryOp op) r) (hd : UnD X r f) (ha : EV X W fx a fa) : EV X W fx (.UnaryOp op a pos) (mUn f fa) := by
  refine PE.imp (pe_un ho ha) fun σ H Q ⟨m₀, ρ, rr, w⟩ => ?_
  refine tE.first rr w fun dx ρ1 x H1 r1 h1 s1 w1 => ?_
  obtain ⟨dz, e, w3⟩ := w1.lift
  exact hd _ H1 x dx dz h1 e Q fun v H' k h' => w3 v H' (r1.grown k) h' (s1.trans (.grown k))
/-! ### tests -/
def asB (d : D) : Option Bool := match d with
  | .bl b => some b
  | _ => none
theorem asB_inv {d : D} {b : Bool} (h : asB d = some b) : d = .bl b := by
  cases d <;> simp [asB] at h
  rw [h]
def mTest (f : M D) : M Bool := M.bind f fun d => lift (asB d)
theorem test_core {σ : L2.St} {H : Hp} {Q : Bool → Hp → Prop} (h : tT (ct X W fx) (mTest fa) σ H Q) : tTest (tE (ct X W fx) fa) σ H Q := by
  obtain ⟨m₀, ρ, rr, w⟩ := h
  refine tE.first rr w fun dx ρ1 x H1 r1 h1 s1 w1 => ?_
  obtain ⟨b, e, w3⟩ := w1.lift
  rw [asB_inv e] at h1
  exact ⟨b, h1.bl_inv, w3 H1 r1 s1⟩
theorem t_val (ha : EV X W fx e fa) (he : ∀ whole, isTrue e X.env whole = (do let v ← whole; standAt e.pos; holding [v] (truthy v)) := by intro _; rfl) : TV X W fx e (mTest fa) :=
  PT.imp (pt_val ha he) fun _ _ _ h => test_core h
theorem t_cmp {op : CmpOp} {r : R2} {f : D → D → Option D} (ho : OpR X (compareOp op) r) (hd : OpD X r f) (ha : EV X W fx a fa) (hb : EV X W fx b fb) (hm : behindInMarks op b = false) : TV X W fx (.Compare a [op] [b] pos) (mTest (mOp f fa fb)) := by
  refine PT.imp (pt_cmpR ho ha hb hm) fun σ H Q h => ?_
  have h2 := test_core h
  obtain ⟨m₀, ρ, rr, w⟩ := h2
  exact op_core hd ⟨m₀, ρ, rr, w⟩
def mAndT (f g : M Bool) : M Bool := M.bind f fun c => if c = true then g else M.ret false
def mOrT (f g : M Bool) : M Bool := M.bind f fun c => if c = true then M.ret true else g
def mNotT (f : M Bool) : M Bool := M.bind f fun c => M.ret (!c)
variable {ta tb : M Bool} {rest : List Expr}
theorem w_or1 (h : TV X W fx a ta) : WV X W fx (.BoolOp .Or [a] pos) ta := pw_or1 h
theorem w_or (ha : TV X W fx a ta) (hb : WV X W fx (.BoolOp .Or (b :: rest) pos) tb) : WV X W fx (.BoolOp .Or (a :: b :: rest) pos) (mOrT ta tb) := by
  refine PW.imp (pw_or ha hb) fun σ H Q ⟨m₀, ρ, rr, w⟩ => ?_
  refine tT.first rr w fun c ρ1 H1 r1 s1 w1 => ?_
  cases c with
  | false => exact ⟨m₀, ρ1, r1, w1.mono fun b ρ2 _ q H2 r2 s2 => q H2 r2 (s1.trans s2)⟩
  | true => exact w1 H1 r1 s1
theorem t_w (h : WV X W fx e ta) : TV X W fx e ta := h.pt
theorem t_not (ha : TV X W fx a ta) : TV X W fx (.UnaryOp .Not a pos) (mNotT ta) := by
  refine PT.imp (pt_not ha) fun σ H Q ⟨m₀, ρ, rr, w⟩ => ?_
  exact tT.first rr w fun c ρ1 H1 r1 s1 w1 => w1 H1 r1 s1
/-! ### and, or, not as values; a if t else b -/
def mAnd (f g : M D) : M D := M.bind f fun x => M.bind (lift (asB x)) fun c => if c = true then g else M.ret (.bl false)
def mOr (f g : M D) : M D := M.bind f fun x => M.bind (lift (asB x)) fun c => if c = true then M.ret (.bl true) else g
def mNot (f : M D) : M D := M.bind f fun x => M.bind (lift (asB x)) fun c => M.ret (.bl (!c))
def mIf (t : M Bool) (f g : M D) : M D := M.bind t fun c => if c = true then f else g
theorem Want.lift1 {α β : Type} {c : Ct} {m : Addr → Prop} {σ : L2.St} {ρ : En} {H : Hp} {S : β → En → Prop} {o : Option α} {f : α → M β} (h : Want c m σ ρ H S (M.bind (PV.lift o) f ρ)) : ∃ a, o = some a ∧ Want c m σ ρ H S (f a ρ) := by
  cases o with
  | none => exact h.elim
  | some a => exact ⟨a, rfl, h⟩
theorem e_one {op} (h : EV X W fx a fa) : EV X W fx (.BoolOp op [a] pos) fa := pe_one h
theorem e_and (ha : EV X W fx a fa) (hb : EV X W fx (.BoolOp .And (b :: rest) pos) fb) : EV X W fx (.BoolOp .And (a :: b :: rest) pos) (mAnd fa fb) := by
  refine PE.imp (pe_and ha hb) fun σ H Q ⟨m₀, ρ, rr, w⟩ => ?_
  refine tE.first rr w fun dx ρ1 x H1 r1 h1 s1 w1 => ?_
  obtain ⟨c, e, w2⟩ := w1.lift1
  rw [asB_inv e] at h1
  refine ⟨c, h1.bl_inv, ?_⟩
  cases c with
  | true => exact ⟨m₀, ρ1, r1, w2.mono fun b ρ2 _ q v H2 r2 h2 s2 => q v H2 r2 h2 (s1.trans s2)⟩
  | false => exact w2 _ H1 r1 (.bl false) s1
theorem e_not (ha : EV X W fx a fa) : EV X W fx (.UnaryOp .Not a pos) (mNot fa) := by
  refine PE.imp (pe_not ha) fun σ H Q ⟨m₀, ρ, rr, w⟩ => ?_
  refine tE.first rr w fun dx ρ1 x H1 r1 h1 s1 w1 => ?_
  obtain ⟨c, e, w2⟩ := w1.lift1
  rw [asB_inv e] at h1
  exact ⟨c, h1.bl_inv, w2 _ H1 r1 (.bl _) s1⟩
theorem e_if {t : Expr} {ft : M Bool} (ht : TV X W fx t ft) (ha : EV X W fx a fa) (hb : EV X W fx b fb) : EV X W fx (.IfExp t a b pos) (mIf ft fa fb) := by
  refine PE.imp (pe_ifExp ht ha hb) fun σ H Q ⟨m₀, ρ, rr, w⟩ => ?_
  refine tT.first rr w fun c ρ1 H1 r1 s1 w1 => ?_
  cases c with
  | true => exact ⟨m₀, ρ1, r1, w1.mono fun b ρ2 _ q v H2 r2 h2 s2 => q v H2 r2 h2 (s1.trans s2)⟩
  | false => exact ⟨m₀, ρ1, r1, w1.mono fun b ρ2 _ q v H2 r2 h2 s2 => q v H2 r2 h2 (s1.trans s2)⟩
/-! ### several expressions; tuples, lists -/
def dNil : M (List D) := M.ret []
def dCons (fa : M D) (fl : M (List D)) : M (List D) := M.bind fa fun x => M.bind fl fun xs => M.ret (x :: xs)
def Len (f : M (List D)) (n : Nat) : Prop := ∀ ρ ds ρ', f ρ = .ok ds ρ' → ds.length = n
theorem len_nil : Len dNil 0 := fun ρ ds ρ' h => by cases h; rfl
theorem len_cons {fl : M (List D)} {n : Nat} (h : Len fl n) : Len (dCons fa fl) (n + 1) := fun ρ ds ρ' e => by
  unfold dCons M.bind at e
  cases q : fa ρ with
  | no => rw [q] at e; cases e
  | er y ρ1 => rw [q] at e; cases e
  | ok x ρ1 =>
    rw [q] at e
    simp only [ok_andThen] at e
    cases q2 : fl ρ1 with
    | no => rw [q2] at e; cases e
    | er y ρ2 => rw [q2] at e; cases e
    | ok xs ρ2 =>
      rw [q2] at e
      have e' : (R.ok (x :: xs) ρ2 : R (List D)) = .ok ds ρ' := e
      cases e'
      rw [List.length_cons, h _ _ _ q2]
theorem l_nil : LV X W fx [] dNil := PA.imp pa_nil fun σ H Q ⟨m₀, ρ, rr, w⟩ => w [] H rr .nil .refl
theorem l_cons {fl : M (List D)} (ha : EV X W fx e fa) (hl : LV X W fx es fl) (hs : starEach (e :: es) X.env = (false, eval e X.env) :: starEach es X.env := by rfl) : LV X W fx (e :: es) (dCons fa fl) := by
  refine PA.imp (pa_cons ha hl hs) fun σ H Q ⟨m₀, ρ, rr, w⟩ => ?_
  refine tE.first rr w fun dx ρ1 x H1 r1 h1 s1 w1 => tL.first r1 w1 fun ds ρ2 vs H2 _ r2 h2 s2 w2 => ?_
  exact w2 (x :: vs) H2 r2 (.cons (s2.rp r1 h1) h2) (s1.trans s2)
theorem sz_le {n : Nat} (h : n ≤ 100000) : n ≤ sizeLine := Nat.le_trans h (by decide)
theorem sz_leM {n : Nat} (h : n ≤ 1000000) : n ≤ sizeLine := Nat.le_trans h (by decide)
def mTup (fl : M (List D)) : M D := M.bind fl fun ds => M.ret (.tup ds)
def mLst (fl : M (List D)) : M D := M.bind fl fun ds => M.ret (.lst ds)
theorem e_tup {x1} {fl : M (List D)} {n : Nat} (h : LV X W fx es fl) (l : Len fl n) (hn : n ≤ 100000 := by decide) : EV X W fx (.Tuple es x1 pos) (mTup fl) := by
  refine PE.imp (pe_tup h) fun σ H Q ⟨m₀, ρ, rr, w⟩ => ?_
  refine tL.first rr w fun ds ρ1 vs H1 e r1 h1 s1 w1 => ⟨by rw [h1.length, l _ _ _ e]; exact sz_le hn, fun p hp => ?_⟩
  exact w1 (.ref p) _ (r1.add hp).drop (.tup (.inl ⟨r1.new_out hp, upd_same⟩) (rpA_new h1 hp)) (s1.trans (.grown (keep_new hp)))
theorem n_lst {fl : M (List D)} {n : Nat} (h : LV X W fx es fl) (l : Len fl n) (hn : n ≤ 100000 := by decide) : NV X W fx (.List es pos) fl := by
  refine PE.imp (pe_lst h) fun σ H Q ⟨m₀, ρ, rr, w⟩ => ⟨m₀, ρ, rr, ?_⟩
  refine w.mono fun ds ρ1 e s vs H1 r1 h1 s1 => ⟨by rw [h1.length, l _ _ _ e]; exact sz_le hn, fun p hp => ?_⟩
  exact s p vs _ (r1.add hp) (s1.back hp) upd_same (rpA_add h1 hp) (s1.trans (.grown (keep_new hp)))
theorem e_new {fl : M (List D)} (h : NV X W fx e fl) : EV X W fx e (mLst fl) := by
  refine PE.imp h fun σ H Q ⟨m₀, ρ, rr, w⟩ => ?_
  refine tN.first rr w fun ds ρ1 p vs H1 r1 n1 e1 h1 s1 w1 => ?_
  exact w1 (.ref p) H1 r1.drop (.lst ⟨r1.out fun z => rr.dom p z n1, e1⟩ (rpA_drop h1)) s1
theorem e_callB {x : Str} {p : Pos} {id : String} {r : List V → Hp → VK → Prop} {f : List D → Option D} {fl : M (List D)} (hc : CallR X (.builtin id) r) (hd : CallD X r f) (hg : Gl X x) (hm : X.mg x = none) (hv : bootBuiltins x = some (.builtin id)) (ha : LV X W fx (e :: es) fl)
    (hn : x ≠ "__name__" := by decide) (hdb : (x == ("__debug__" : Str)) = false := by decide) (he : starEach (e :: es) X.env = (false, eval e X.env) :: starEach es X.env := by rfl) (hpl : (backTo pos (starEach es X.env)).any (·.1) = false := by rfl) :
    EV X W fx (.Call (.Name x p) (e :: es) [] pos) (mCB f fl) := by
  refine PE.imp (pe_callB hc hg hm hv ha hn hdb he hpl) fun σ H Q ⟨m₀, ρ, rr, w⟩ => ?_
  refine tL.first rr w fun ds ρ1 vs H1 _ r1 h1 s1 w1 => ?_
  obtain ⟨dz, ez, w3⟩ := w1.lift
  exact hd _ H1 vs ds dz h1 ez (fun p hp => r1.new_out hp) Q fun v H' k h' => w3 v H' (r1.grown k) h' (s1.trans (.grown k))
theorem e_callTy {x : Str} {p : Pos} {T : String} {r : List V → Hp → VK → Prop} {f : List D → Option D} {fl : M (List D)} (hc : CallR X (.type T) r) (hd : CallD X r f) (hg : Gl X x) (hm : X.mg x = none) (hv : bootBuiltins x = some (.type T)) (ha : LV X W fx (e :: es) fl)
    (hn : x ≠ "__name__" := by decide) (hdb : (x == ("__debug__" : Str)) = false := by decide) (he : starEach (e :: es) X.env = (false, eval e X.env) :: starEach es X.env := by rfl) (hpl : (backTo pos (starEach es X.env)).any (·.1) = false := by rfl) :
    EV X W fx (.Call (.Name x p) (e :: es) [] pos) (mCB f fl) := by
  refine PE.imp (pe_callTy hc hg hm hv ha hn hdb he hpl) fun σ H Q ⟨m₀, ρ, rr, w⟩ => ?_
  refine tL.first rr w fun ds ρ1 vs H1 _ r1 h1 s1 w1 => ?_
  obtain ⟨dz, ez, w3⟩ := w1.lift
  exact hd _ H1 vs ds dz h1 ez (fun p hp => r1.new_out hp) Q fun v H' k h' => w3 v H' (r1.grown k) h' (s1.trans (.grown k))
end
end PV
namespace PV
open PySem PySem.Spec PyProof.Rows L2
variable [Tb]
/-! ### the operators on data -/
def dAdd : D → D → Option D
  | .int i, .int j => some (.int (i + j))
  | .lst xs, .lst ys => if xs.length + ys.length ≤ 1000000 then some (.lst (xs ++ ys)) else none
  | .tup xs, .tup ys => if xs.length + ys.length ≤ 1000000 then some (.tup (xs ++ ys)) else none
  | .str x, .str y => if x.length + y.length ≤ 100000 then some (.str (x ++ y)) else none
  | _, _ => none
def dSub : D → D → Option D
  | .int i, .int j => some (.int (i - j))
  | _, _ => none
/-- a product's size -/
def mulOk (i j : Int) : Bool := decide (i.natAbs.log2 + j.natAbs.log2 < 1000000)
def dMul : D → D → Option D
  | .int i, .int j => if mulOk i j = true then some (.int (i * j)) else none
  | .lst xs, .int k => if xs.length ≤ 300 ∧ 0 ≤ k ∧ k ≤ 300 then some (.lst (List.replicate k.toNat xs).flatten) else none
  | .tup xs, .int k => if 0 < xs.length ∧ xs.length ≤ 300 ∧ 2 ≤ k ∧ k ≤ 300 then some (.tup (List.replicate k.toNat xs).flatten) else none
  | _, _ => none
def divOk (j : Int) : Bool := decide (j ≠ 0)
def dDiv : D → D → Option D
  | .int i, .int j => if divOk j = true then some (.int (i.fdiv j)) else none
  | _, _ => none
def dMod : D → D → Option D
  | .int i, .int j => if j ≠ 0 then some (.int (i.fmod j)) else none
  | _, _ => none
def dPow : D → D → Option D
  | .int i, .int j => if 0 ≤ j ∧ j ≤ 100000 ∧ i.natAbs < 2 ^ 64 then some (.int (i ^ j.toNat)) else none
  | _, _ => none
def dNeg : D → Option D
  | .int i => some (.int (-i))
  | _ => none
def dLt : D → D → Option D
  | .int i, .int j => some (.bl (decide (i < j)))
  | _, _ => none
def dLe : D → D → Option D
  | .int i, .int j => some (.bl (decide (i ≤ j)))
  | _, _ => none
def dGt : D → D → Option D
  | .int i, .int j => some (.bl (decide (j < i)))
  | _, _ => none
def dGe : D → D → Option D
  | .int i, .int j => some (.bl (decide (j ≤ i)))
  | _, _ => none
mutual
def D.py : D → PyData
  | .non => .none
  | .bl b => .bool b
  | .int i => .int i
  | .str x => .str x
  | .lst ds => .list (D.pyA ds)
  | .tup ds => .tuple (D.pyA ds)
  | _ => .none
def D.pyA : List D → List PyData
  | [] => []
  | d :: ds => D.py d :: D.pyA ds
end
mutual
/-- a datum of at most that depth, without objects, its texts sound -/
def okq : Nat → D → Bool
  | _, .non => true
  | _, .bl _ => true
  | _, .int _ => true
  | _, .str x => PyData.strOk x
  | n + 1, .lst ds => okqA n ds
  | n + 1, .tup ds => okqA n ds
  | _, _ => false
def okqA : Nat → List D → Bool
  | _, [] => true
  | n, d :: ds => okq n d && okqA n ds
end
def eqD (x y : D) : Bool := PyData.eqv x.py y.py
def strs? : D → D → Option (Str × Str)
  | .str a, .str b => some (a, b)
  | _, _ => none
def dEq (x y : D) : Option D := match strs? x y with
  | some (a, b) => some (.bl (decide (a = b)))
  | none => if okq 60 x = true ∧ okq 60 y = true then some (.bl (eqD x y)) else none
def dNe (x y : D) : Option D := match strs? x y with
  | some (a, b) => some (.bl (!decide (a = b)))
  | none => if okq 60 x = true ∧ okq 60 y = true then some (.bl (!eqD x y)) else none
theorem strs?_some {x y : D} {z : Str × Str} (h : strs? x y = some z) : x = .str z.1 ∧ y = .str z.2 := by
  cases x <;> cases y <;> simp [strs?] at h
  subst h
  exact ⟨rfl, rfl⟩
def isNon : D → Bool
  | .non => true
  | _ => false
def dIs : D → D → Option D
  | x, .non => some (.bl (isNon x))
  | .bl a, .bl b => some (.bl (decide (a = b)))
  | _, _ => none
def dIsNot : D → D → Option D
  | x, .non => some (.bl (!isNon x))
  | .bl a, .bl b => some (.bl (!decide (a = b)))
  | _, _ => none
/-- the value of a flat datum -/
def D.v? : D → Option V
  | .non => some .non
  | .bl b => some (.bl b)
  | .int i => some (.int i)
  | .str x => some (.str x)
  | _ => none
def D.vs? : List D → Option (List V)
  | [] => some []
  | d :: ds => match d.v?, D.vs? ds with
    | some v, some vs => some (v :: vs)
    | _, _ => none
def D.items? : D → Option (List D)
  | .lst xs => some xs
  | .tup xs => some xs
  | _ => none
def dIn (x y : D) : Option D := match x.v?, (y.items?).bind D.vs? with
  | some v, some vs => some (.bl (inV v vs))
  | _, _ => none
def dIx : D → D → Option D
  | .lst xs, .int i => atI xs i
  | .tup xs, .int i => atI xs i
  | .fz ns, .int i => (atI ns i).map .int
  | _, _ => none
section
variable {X : Cx} {m : Addr → Prop} {K : PySem.W.Frag} {g : Str → Option Value} {H : Hp}
theorem grown_refl : ∀ (a : Addr) (o : HO), H a = some o → H a = some o := fun _ _ e => e
theorem v?_ok {d : D} {v w : V} (h : Rp m K g H v d) (e : d.v? = some w) : v = w ∧ flatV v = true := by
  cases d <;> simp [D.v?] at e <;> subst e <;> cases h <;> exact ⟨rfl, rfl⟩
theorem vs?_ok : ∀ {ds : List D} {vs ws : List V}, RpA m K g H vs ds → D.vs? ds = some ws → vs = ws ∧ vs.all flatV = true
  | [], _, _, h, e => by cases h; cases e; exact ⟨rfl, rfl⟩
  | d :: ds, _, _, h, e => by
    cases h with
    | cons h1 h2 =>
      unfold D.vs? at e
      split at e
      · rename_i v vs e1 e2
        cases e
        obtain ⟨rfl, f1⟩ := v?_ok h1 e1
        obtain ⟨rfl, f2⟩ := vs?_ok h2 e2
        exact ⟨rfl, by rw [List.all_cons, f1, f2]; rfl⟩
      · cases e
theorem items_ok {d : D} {v : V} {ds : List D} (h : Rp m K g H v d) (e : d.items? = some ds) : ∃ a xs, v = .ref a ∧ (SqL K H a xs ∨ SqT K H a xs) ∧ RpA m K g H xs ds := by
  cases d <;> simp [D.items?] at e <;> subst e
  · cases h with
    | lst h1 h2 => exact ⟨_, _, rfl, .inl h1.sq, h2⟩
  · cases h with
    | tup h1 h2 => exact ⟨_, _, rfl, .inr h1.sq, h2⟩
mutual
theorem okq_dp : ∀ (d : D) (n : Nat) (v : V), Rp m K g H v d → okq n d = true → Dp K H v d.py ∧ d.py.canLay0 = true ∧ d.py.depth ≤ n
  | .non, n, _, h, _ => by cases h; exact ⟨.non, rfl, Nat.zero_le _⟩
  | .bl b, n, _, h, _ => by cases h; exact ⟨.bl b, rfl, Nat.zero_le _⟩
  | .int i, n, _, h, _ => by cases h; exact ⟨.int i, rfl, Nat.zero_le _⟩
  | .str x, n, _, h, e => by
    cases h
    refine ⟨.str x, ?_, Nat.zero_le _⟩
    cases n <;> exact e
  | .lst ds, 0, _, _, e => by cases e
  | .lst ds, n + 1, _, h, e => by
    cases h with
    | lst h1 h2 =>
      obtain ⟨a, b, c⟩ := okqA_dp ds n _ h2 e
      exact ⟨.lst h1.sq a, b, Nat.succ_le_succ c⟩
  | .tup ds, 0, _, _, e => by cases e
  | .tup ds, n + 1, _, h, e => by
    cases h with
    | tup h1 h2 =>
      obtain ⟨a, b, c⟩ := okqA_dp ds n _ h2 e
      exact ⟨.tup h1.sq a, b, Nat.succ_le_succ c⟩
  | .dic ks ds, n, _, _, e => by cases n <;> cases e
  | .fz ns, n, _, _, e => by cases n <;> cases e
  | .ins c ns ds, n, _, _, e => by cases n <;> cases e
  | .err c ns ds, n, _, _, e => by cases n <;> cases e
  | .fn j ds, n, _, _, e => by cases n <;> cases e
  | .reg j, n, _, _, e => by cases n <;> cases e
theorem okqA_dp : ∀ (ds : List D) (n : Nat) (vs : List V), RpA m K g H vs ds → okqA n ds = true → DpAll K H vs (D.pyA ds) ∧ PyData.canLayAll0 (D.pyA ds) = true ∧ PyData.depthAll (D.pyA ds) ≤ n
  | [], n, _, h, _ => by cases h; exact ⟨.nil, rfl, Nat.zero_le _⟩
  | d :: ds, n, _, h, e => by
    cases h with
    | cons h1 h2 =>
      unfold okqA at e
      rw [Bool.and_eq_true] at e
      obtain ⟨a, b, c⟩ := okq_dp d n _ h1 e.1
      obtain ⟨a', b', c'⟩ := okqA_dp ds n _ h2 e.2
      refine ⟨.cons a a', ?_, ?_⟩
      · show (d.py.canLay0 && PyData.canLayAll0 (D.pyA ds)) = true
        rw [b, b']; rfl
      · show max d.py.depth (PyData.depthAll (D.pyA ds)) ≤ n
        omega
end
theorem okq_shaped {d : D} {v : V} (h : Rp m K g H v d) (e : okq 60 d = true) : Dp K H v d.py ∧ SeqAt.shaped d.py = true := by
  obtain ⟨a, b, c⟩ := okq_dp d 60 v h e
  refine ⟨a, ?_⟩
  unfold SeqAt.shaped
  rw [b, decide_eq_true (by omega)]
  rfl
/-! ### they are Python's -/
def rAddA (K : PySem.W.Frag) : R2 := fun x y H Q => rI0 (fun i j => .int (i + j)) x y H Q ∨ rCat x y H Q ∨ rCatA K x y H Q ∨ (fun x y H Q => ∃ i j, x = .str i ∧ y = .str j ∧ i.length + j.length ≤ sizeLine ∧ Q (.str (i ++ j)) H) x y H Q
theorem op_addA : OpR X (binaryOp .Add) (rAddA X.K) := op_add.or (op_cat.or (op_catA.or op_add_str))
theorem add_d : OpD X (rAddA X.K) dAdd := by
  intro m H x y dx dy dz hx hy e hm Q q
  unfold dAdd at e
  split at e
  · cases e; cases hx; cases hy
    exact .inl ⟨_, _, rfl, rfl, q _ H grown_refl (.int _)⟩
  · split at e
    · cases e
      rename_i hl
      cases hx with
      | lst h1 h2 =>
        cases hy with
        | lst h3 h4 =>
          refine .inr (.inl ⟨_, _, _, _, rfl, rfl, h1.2, h3.2, ?_, fun p hp => q _ _ (keep_new hp) (.lst ⟨hm p hp, upd_same⟩ (rpA_new (h2.append h4) hp))⟩)
          rw [h2.length, h4.length]; exact sz_leM hl
    · cases e
  · split at e
    · cases e
      rename_i xs ys hl
      cases hx with
      | tup h1 h2 =>
        cases hy with
        | tup h3 h4 =>
          refine .inr (.inr (.inl ⟨_, _, _, _, rfl, rfl, h1.sq, h3.sq, ?_, fun z => ?_, fun _ z => ?_, fun _ _ p hp => ?_⟩))
          · rw [h2.length, h4.length]; exact sz_leM hl
          · subst z
            have e0 : xs = [] := List.eq_nil_of_length_eq_zero h2.length.symm
            subst e0
            exact q _ H grown_refl (.tup h3 h4)
          · subst z
            have e0 : ys = [] := List.eq_nil_of_length_eq_zero h4.length.symm
            subst e0
            rw [List.append_nil] at q
            exact q _ H grown_refl (.tup h1 h2)
          · exact q _ _ (keep_new hp) (.tup (.inl ⟨hm p hp, upd_same⟩) (rpA_new (h2.append h4) hp))
    · cases e
  · split at e
    · cases e; cases hx; cases hy
      rename_i hl
      exact .inr (.inr (.inr ⟨_, _, rfl, rfl, sz_le hl, q _ H grown_refl (.str _)⟩))
    · cases e
  · cases e
theorem sub_d : OpD X (rI0 fun i j => .int (i - j)) dSub := by
  intro m H x y dx dy dz hx hy e hm Q q
  unfold dSub at e
  split at e
  · cases e; cases hx; cases hy
    exact ⟨_, _, rfl, rfl, q _ H grown_refl (.int _)⟩
  · cases e
def rMulA (K : PySem.W.Frag) : R2 := fun x y H Q => rI CMulW (fun i j => .int (i * j)) x y H Q ∨ rRep x y H Q ∨ rRepT K x y H Q
theorem op_mulA : OpR X (binaryOp .Mult) (rMulA X.K) := op_mulW.or (op_rep.or op_repT)
theorem mul_d : OpD X (rMulA X.K) dMul := by
  intro m H x y dx dy dz hx hy e hm Q q
  unfold dMul at e
  split at e
  · split at e
    · cases e; cases hx; cases hy
      rename_i hl
      unfold mulOk at hl
      have hl2 := of_decide_eq_true hl
      exact .inl ⟨_, _, rfl, rfl, hl2, q _ H grown_refl (.int _)⟩
    · cases e
  · split at e
    · cases e
      rename_i xs k hl
      cases hy
      cases hx with
      | lst h1 h2 =>
        refine .inr (.inl ⟨_, _, _, rfl, rfl, h1.2, by omega, by omega, ?_, fun p hp => q _ _ (keep_new hp) (.lst ⟨hm p hp, upd_same⟩ (rpA_new (h2.flat _) hp))⟩)
        rw [h2.length]
        refine sz_le ?_
        have a1 : xs.length * k.toNat ≤ 300 * 300 := Nat.mul_le_mul hl.1 (by omega)
        omega
    · cases e
  · split at e
    · cases e
      rename_i xs k hl
      cases hy
      cases hx with
      | tup h1 h2 =>
        refine .inr (.inr ⟨_, _, _, rfl, rfl, h1.sq, fun z => ?_, by omega, by omega, by rw [h2.length]; omega, fun p hp => q _ _ (keep_new hp) (.tup (.inl ⟨hm p hp, upd_same⟩) (rpA_new (h2.flat _) hp))⟩)
        subst z
        have := h2.length
        simp at this
        omega
    · cases e
  · cases e
/-- room for a division of great numbers -/
def Rm (P : Program) (w : World) (base : Heap) (A : Around) : Prop := A.depth + Builtin.pylongFrames < recursionLimit ∧ ∀ h : Heap, (∀ b o, base.get? b = some o → h.get? b = some o) → SeerAt (model P w) A h
theorem op_divR (hr : Rm X.prog X.w X.base X.A) : OpR X (binaryOp .FloorDiv) (rI (fun _ j => divOk j = true) fun i j => .int (i.fdiv j)) := by
  intro pins s σ H x y v u Q I rx ry h
  obtain ⟨i, j, rfl, rfl, hc, q⟩ := h
  obtain ⟨t, rfl⟩ := rx
  obtain ⟨t', rfl⟩ := ry
  have rm : PySem.PylongRoom (model X.prog X.w) X.A s := PylongRoom.of I.nolimit hr.1 (hr.2 _ I.bk)
  exact floordiv_int (of_decide_eq_true hc) ⟨.int (i.fdiv j), H, I.tok _, ⟨_, rfl⟩, q⟩ (.inr rm)
theorem div_d : OpD X (rI (fun _ j => divOk j = true) fun i j => .int (i.fdiv j)) dDiv := by
  intro m H x y dx dy dz hx hy e hm Q q
  unfold dDiv at e
  split at e
  · split at e
    · cases e; cases hx; cases hy
      rename_i hl
      exact ⟨_, _, rfl, rfl, hl, q _ H grown_refl (.int _)⟩
    · cases e
  · cases e
theorem mod_d : OpD X (rI (fun _ j => j ≠ 0) fun i j => .int (i.fmod j)) dMod := by
  intro m H x y dx dy dz hx hy e hm Q q
  unfold dMod at e
  split at e
  · split at e
    · cases e; cases hx; cases hy
      rename_i hl
      exact ⟨_, _, rfl, rfl, hl, q _ H grown_refl (.int _)⟩
    · cases e
  · cases e
theorem pow_d : OpD X (rI CPow fun i j => .int (i ^ j.toNat)) dPow := by
  intro m H x y dx dy dz hx hy e hm Q q
  unfold dPow at e
  split at e
  · split at e
    · cases e; cases hx; cases hy
      rename_i hl
      exact ⟨_, _, rfl, rfl, ⟨hl.1, by omega, hl.2.2⟩, q _ H grown_refl (.int _)⟩
    · cases e
  · cases e
theorem neg_d : UnD X (rU fun i => .int (-i)) dNeg := by
  intro m H x dx dz hx e Q q
  unfold dNeg at e
  split at e
  · cases e; cases hx
    exact ⟨_, rfl, q _ H grown_refl (.int _)⟩
  · cases e
theorem lt_d : OpD X (rI0 fun i j => .bl (decide (i < j))) dLt := by
  intro m H x y dx dy dz hx hy e hm Q q
  unfold dLt at e
  split at e
  · cases e; cases hx; cases hy
    exact ⟨_, _, rfl, rfl, q _ H grown_refl (.bl _)⟩
  · cases e
theorem gt_d : OpD X (rI0 fun i j => .bl (decide (j < i))) dGt := by
  intro m H x y dx dy dz hx hy e hm Q q
  unfold dGt at e
  split at e
  · cases e; cases hx; cases hy
    exact ⟨_, _, rfl, rfl, q _ H grown_refl (.bl _)⟩
  · cases e
theorem ge_d : OpD X (rI0 fun i j => .bl (decide (j ≤ i))) dGe := by
  intro m H x y dx dy dz hx hy e hm Q q
  unfold dGe at e
  split at e
  · cases e; cases hx; cases hy
    exact ⟨_, _, rfl, rfl, q _ H grown_refl (.bl _)⟩
  · cases e
def rNeA (K : PySem.W.Frag) : R2 := fun x y H Q => rNe x y H Q ∨ rNeD K x y H Q
theorem op_neA (hu : X.A.units + 64 < cLine) : OpR X (compareOp .NotEq) (rNeA X.K) := op_ne.or (op_neD hu)
theorem dec_strV {a b : Str} : decide (V.str a = V.str b) = decide (a = b) := by
  rw [Bool.eq_iff_iff]
  simp
theorem ne_d : OpD X (rNeA X.K) dNe := by
  intro m H x y dx dy dz hx hy e hm Q q
  unfold dNe at e
  split at e
  · rename_i a b e1
    cases e
    obtain ⟨rfl, rfl⟩ := strs?_some e1
    cases hx; cases hy
    refine .inl ⟨rfl, ?_⟩
    rw [dec_strV]
    exact q _ H grown_refl (.bl _)
  · split at e
    · cases e
      rename_i hl
      obtain ⟨a, b⟩ := okq_shaped hx hl.1
      obtain ⟨a', b'⟩ := okq_shaped hy hl.2
      exact .inr ⟨_, _, a, a', b, b', q _ H grown_refl (.bl _)⟩
    · cases e
theorem in_d : OpD X (rIn X.K false) dIn := by
  intro m H x y dx dy dz hx hy e hm Q q
  unfold dIn at e
  split at e
  · rename_i v vs e1 e2
    cases e
    obtain ⟨ds, e3, e4⟩ := Option.bind_eq_some_iff.mp e2
    obtain ⟨rfl, f1⟩ := v?_ok hx e1
    obtain ⟨a, xs, rfl, hs, ha⟩ := items_ok hy e3
    obtain ⟨rfl, f2⟩ := vs?_ok ha e4
    exact ⟨a, _, rfl, hs, f1, f2, q _ H grown_refl (.bl _)⟩
  · cases e
def rIxA (K : PySem.W.Frag) : R2 := fun x y H Q => rIxL K x y H Q ∨ rIxT K x y H Q
theorem ix_A : IxR X (rIxA X.K) := ix_list.or ix_tup
theorem atI_rp {xs : List V} {ds : List D} {i : Int} {d : D} (h : RpA m K g H xs ds) (e : atI ds i = some d) : ∃ v, atI xs i = some v ∧ Rp m K g H v d := by
  unfold atI at e ⊢
  rw [h.length]
  obtain ⟨j, e1, e2⟩ := Option.bind_eq_some_iff.mp e
  obtain ⟨v, h1, h2⟩ := h.get e2
  exact ⟨v, by rw [e1]; exact h1, h2⟩
theorem atI_map {α β : Type} (f : α → β) (xs : List α) (i : Int) : atI (xs.map f) i = (atI xs i).map f := by
  unfold atI
  rw [List.length_map]
  cases ixN xs.length i with
  | none => rfl
  | some j => simp
theorem ix_d : OpD X (rIxA X.K) dIx := by
  intro m H x y dx dy dz hx hy e hm Q q
  unfold dIx at e
  split at e
  · cases hy
    cases hx with
    | lst h1 h2 =>
      obtain ⟨v, e1, h3⟩ := atI_rp h2 e
      exact .inl ⟨_, _, _, _, rfl, rfl, h1.sq, e1, q _ H grown_refl h3⟩
  · cases hy
    cases hx with
    | tup h1 h2 =>
      obtain ⟨v, e1, h3⟩ := atI_rp h2 e
      exact .inr ⟨_, _, _, _, rfl, rfl, h1.sq, e1, q _ H grown_refl h3⟩
  · cases hy
    cases hx with
    | fz h1 =>
      obtain ⟨n, e1, e2⟩ := Option.map_eq_some_iff.mp e
      cases e2
      exact .inl ⟨_, _, _, .int n, rfl, rfl, h1.sq, by rw [atI_map, e1]; rfl, q _ H grown_refl (.int _)⟩
  · cases e
end
end PV
namespace PV
open PySem PySem.Spec PyProof.Rows L2
variable [Tb]
/-! ### built-in functions on data -/
def dLen : List D → Option D
  | [.lst xs] => some (.int xs.length)
  | [.tup xs] => some (.int xs.length)
  | [.fz xs] => some (.int xs.length)
  | [.str x] => if x.length ≤ 100000 then some (.int x.length) else none
  | _ => none
def dAbs : List D → Option D
  | [.int i] => some (.int (if i < 0 then -i else i))
  | _ => none
def dMin : List D → Option D
  | [.int i, .int j] => some (.int (if j < i then j else i))
  | _ => none
def dMax : List D → Option D
  | [.int i, .int j] => some (.int (if j > i then j else i))
  | _ => none
def dInt : List D → Option D
  | [.int i] => some (.int i)
  | [.bl k] => some (.int (if k then 1 else 0))
  | _ => none
def ints? : List D → Option (List Int)
  | [] => some []
  | .int i :: ds => (ints? ds).map (i :: ·)
  | _ :: _ => none
def bls? : List D → Option (List Bool)
  | [] => some []
  | .bl i :: ds => (bls? ds).map (i :: ·)
  | _ :: _ => none
theorem ints?_ok : ∀ {ds : List D} {ns : List Int}, ints? ds = some ns → ds = ns.map D.int
  | [], _, h => by cases h; rfl
  | d :: ds, ns, h => by
    cases d <;> simp [ints?] at h
    obtain ⟨l, h1, h2⟩ := h
    subst h2
    rw [ints?_ok h1]; rfl
theorem bls?_ok : ∀ {ds : List D} {ns : List Bool}, bls? ds = some ns → ds = ns.map D.bl
  | [], _, h => by cases h; rfl
  | d :: ds, ns, h => by
    cases d <;> simp [bls?] at h
    obtain ⟨l, h1, h2⟩ := h
    subst h2
    rw [bls?_ok h1]; rfl
@[simp] theorem ints?_map : ∀ ns : List Int, ints? (ns.map D.int) = some ns
  | [] => rfl
  | n :: ns => by show (ints? (ns.map D.int)).map (n :: ·) = _; rw [ints?_map ns]; rfl
@[simp] theorem bls?_map : ∀ ns : List Bool, bls? (ns.map D.bl) = some ns
  | [] => rfl
  | n :: ns => by show (bls? (ns.map D.bl)).map (n :: ·) = _; rw [bls?_map ns]; rfl
def dSum : List D → Option D
  | [.lst xs] => (ints? xs).map fun ns => .int ns.sum
  | _ => none
def dAll : List D → Option D
  | [.lst xs] => (bls? xs).map fun bs => .bl (bs.all id)
  | _ => none
def dAny : List D → Option D
  | [.lst xs] => (bls? xs).map fun bs => .bl (bs.any id)
  | _ => none
def dDivmod : List D → Option D
  | [.int i, .int j] => if 0 < j ∧ j.natAbs.log2 < 9000 then some (.tup [.int (i / j), .int (i % j)]) else none
  | _ => none
def dTuple : List D → Option D
  | [.lst xs] => some (.tup xs)
  | [.tup xs] => some (.tup xs)
  | _ => none
def dList : List D → Option D
  | [.lst xs] => some (.lst xs)
  | [.tup xs] => some (.lst xs)
  | _ => none
def dGcd : List D → Option D
  | [.int i, .int j] => some (.int (Nat.gcd i.natAbs j.natAbs : Nat))
  | _ => none
/-- what is shown by repr -/
def okr (d : D) : Bool := okq 60 d && d.py.showable && decide (d.py.bulk ≤ 8000)
def dRepr : List D → Option D
  | [d] => if okr d = true then some (.str d.py.shown) else none
  | _ => none
def D.ty : D → Option String
  | .non => some "NoneType"
  | .bl _ => some "bool"
  | .int _ => some "int"
  | .str _ => some "str"
  | .lst _ => some "list"
  | .fz _ => some "list"
  | .tup _ => some "tuple"
  | .dic _ _ => some "dict"
  | .ins _ _ _ => none
  | .err _ _ _ => none
  | .fn _ _ => none
  | .reg _ => none
def dIsi (T : String) (d : D) : Option D := (d.ty.bind fun t => kitB t T).map .bl
section
variable {X : Cx} {m : Addr → Prop} {K : PySem.W.Frag} {g : Str → Option Value} {H : Hp}
theorem rp1 {d : D} {vs : List V} (h : RpA m K g H vs [d]) : ∃ v, vs = [v] ∧ Rp m K g H v d := by
  cases h with
  | cons h1 h2 => cases h2; exact ⟨_, rfl, h1⟩
theorem rp2 {d e : D} {vs : List V} (h : RpA m K g H vs [d, e]) : ∃ v w, vs = [v, w] ∧ Rp m K g H v d ∧ Rp m K g H w e := by
  cases h with
  | cons h1 h2 =>
    obtain ⟨w, rfl, h3⟩ := rp1 h2
    exact ⟨_, w, rfl, h1, h3⟩
def rLenA (K : PySem.W.Frag) : List V → Hp → VK → Prop := fun xs H Q => (∃ p ys, xs = [.ref p] ∧ (SqL K H p ys ∨ SqT K H p ys) ∧ Q (.int ys.length) H) ∨ (∃ z, xs = [.str z] ∧ z.length ≤ sizeLine ∧ Q (.int z.length) H)
theorem call_lenA : CallR X (.builtin "len") (rLenA X.K) := call_len_seq.or call_len_str
theorem len_d : CallD X (rLenA X.K) dLen := by
  intro m H vs ds dz h e hm Q q
  unfold dLen at e
  split at e
  · cases e
    obtain ⟨v, rfl, h1⟩ := rp1 h
    cases h1 with
    | lst h2 h3 => exact .inl ⟨_, _, rfl, .inl h2.sq, by rw [h3.length]; exact q _ H grown_refl (.int _)⟩
  · cases e
    obtain ⟨v, rfl, h1⟩ := rp1 h
    cases h1 with
    | tup h2 h3 => exact .inl ⟨_, _, rfl, .inr h2.sq, by rw [h3.length]; exact q _ H grown_refl (.int _)⟩
  · cases e
    obtain ⟨v, rfl, h1⟩ := rp1 h
    cases h1 with
    | fz h2 => exact .inl ⟨_, _, rfl, .inl h2.sq, by rw [List.length_map]; exact q _ H grown_refl (.int _)⟩
  · split at e
    · cases e
      rename_i hl
      obtain ⟨v, rfl, h1⟩ := rp1 h
      cases h1
      exact .inr ⟨_, rfl, sz_le hl, q _ H grown_refl (.int _)⟩
    · cases e
  · cases e
theorem abs_d : CallD X (fun xs H Q => ∃ i, xs = [.int i] ∧ Q (.int (if i < 0 then -i else i)) H) dAbs := by
  intro m H vs ds dz h e hm Q q
  unfold dAbs at e
  split at e
  · cases e
    obtain ⟨v, rfl, h1⟩ := rp1 h
    cases h1
    exact ⟨_, rfl, q _ H grown_refl (.int _)⟩
  · cases e
theorem int_d : CallD X (fun xs H Q => (∃ i, xs = [.int i] ∧ Q (.int i) H) ∨ ∃ k, xs = [.bl k] ∧ Q (.int (if k then 1 else 0)) H) dInt := by
  intro m H vs ds dz h e hm Q q
  unfold dInt at e
  split at e
  · cases e
    obtain ⟨v, rfl, h1⟩ := rp1 h
    cases h1
    exact .inl ⟨_, rfl, q _ H grown_refl (.int _)⟩
  · cases e
    obtain ⟨v, rfl, h1⟩ := rp1 h
    cases h1
    exact .inr ⟨_, rfl, q _ H grown_refl (.int _)⟩
  · cases e
theorem sum_d : CallD X (rSum X.K) dSum := by
  intro m H vs ds dz h e hm Q q
  unfold dSum at e
  split at e
  · obtain ⟨ns, e1, e2⟩ := Option.map_eq_some_iff.mp e
    cases e2
    rw [ints?_ok e1] at h
    obtain ⟨v, rfl, h1⟩ := rp1 h
    cases h1 with
    | lst h2 h3 =>
      have h4 := h3.ints
      subst h4
      exact ⟨_, _, rfl, h2.sq, q _ H grown_refl (.int _)⟩
  · cases e
theorem all_d : CallD X (rAll X.K) dAll := by
  intro m H vs ds dz h e hm Q q
  unfold dAll at e
  split at e
  · obtain ⟨ns, e1, e2⟩ := Option.map_eq_some_iff.mp e
    cases e2
    rw [bls?_ok e1] at h
    obtain ⟨v, rfl, h1⟩ := rp1 h
    cases h1 with
    | lst h2 h3 =>
      have h4 := h3.bls
      subst h4
      exact ⟨_, _, rfl, h2.sq, q _ H grown_refl (.bl _)⟩
  · cases e
theorem divmod_d : CallD X (fun xs H Q => ∃ i j, xs = [.int i, .int j] ∧ CDivP i j ∧ ∀ p, H p = none → Q (.ref p) (upd H p (.tup [.int (i / j), .int (i % j)]))) dDivmod := by
  intro m H vs ds dz h e hm Q q
  unfold dDivmod at e
  split at e
  · split at e
    · cases e
      rename_i hl
      obtain ⟨v, w, rfl, h1, h2⟩ := rp2 h
      cases h1; cases h2
      exact ⟨_, _, rfl, ⟨hl.1, PyProof.noPylong_of_log2 hl.2⟩, fun p hp => q _ _ (keep_new hp) (.tup (.inl ⟨hm p hp, upd_same⟩) (.cons (.int _) (.cons (.int _) .nil)))⟩
    · cases e
  · cases e
/-! repr -/
mutual
theorem short_of : ∀ d : PyData, d.canLay0 = true → d.showable = true → d.leavesShort 2000 = true
  | .none, _, _ => rfl
  | .bool b, _, _ => rfl
  | .int i, _, h => by
    have h' : i.natAbs.log2 < 1920 := by simpa only [PyData.showable, decide_eq_true_eq] using h
    have e := int_text_length_le (a := i) (k := 1920) (by decide) h'
    simp only [PyData.leavesShort, decide_eq_true_eq]
    rw [show (PyData.shown (.int i)) = Str.ofString (toString i) from rfl, PySem.ofString_length]
    omega
  | .str x, h, _ => by
    have h' : PyData.strOk x = true := by simpa [PyData.canLay0] using h
    unfold PyData.strOk at h'
    simp only [PyData.leavesShort, List.all_eq_true, decide_eq_true_eq]
    intro c hc
    rw [Array.all_eq_true'] at h'
    have q := h' c (by simpa using hc)
    have q' : c < 0x110000 := by simpa using q
    omega
  | .list xs, h, h2 => by
    simp only [PyData.leavesShort]
    exact shortA_of xs (by simpa [PyData.canLay0] using h) (by simpa [PyData.showable] using h2)
  | .tuple xs, h, h2 => by
    simp only [PyData.leavesShort]
    exact shortA_of xs (by simpa [PyData.canLay0] using h) (by simpa [PyData.showable] using h2)
  | .dict kvs, h, _ => by simp [PyData.canLay0] at h
theorem shortA_of : ∀ ds : List PyData, PyData.canLayAll0 ds = true → PyData.showableAll ds = true → PyData.leavesShortAll 2000 ds = true
  | [], _, _ => by simp [PyData.leavesShortAll]
  | d :: ds, h, h2 => by
    have h' : d.canLay0 = true ∧ PyData.canLayAll0 ds = true := by simpa [PyData.canLayAll0] using h
    have h2' : d.showable = true ∧ PyData.showableAll ds = true := by simpa [PyData.showableAll] using h2
    simp only [PyData.leavesShortAll, short_of d h'.1 h2'.1, shortA_of ds h'.2 h2'.2, Bool.and_self]
end
def rRepr (K : PySem.W.Frag) : List V → Hp → VK → Prop := fun xs H Q => ∃ x d, xs = [x] ∧ Dp K H x d ∧ d.canLay0 = true ∧ d.depth ≤ 60 ∧ d.showable = true ∧ d.bulk ≤ 8000 ∧ Q (.str d.shown) H
theorem repr_d : CallD X (rRepr X.K) dRepr := by
  intro m H vs ds dz h e hm Q q
  unfold dRepr at e
  split at e
  · split at e
    · cases e
      rename_i d hl
      obtain ⟨v, rfl, h1⟩ := rp1 h
      unfold okr at hl
      rw [Bool.and_eq_true, Bool.and_eq_true] at hl
      obtain ⟨a, b, c⟩ := okq_dp d 60 v h1 hl.1.1
      exact ⟨v, d.py, rfl, a, b, c, hl.1.2, of_decide_eq_true hl.2, q _ H grown_refl (.str _)⟩
    · cases e
  · cases e
/-! isinstance -/
variable {W : WX} {fx : List Nat} {a b e : Expr} {fa fb : M D} {pos p p2 : Pos} {x x2 : Str} {T : String}
/-! slices -/
def cutD (ds : List D) (lo hi : Option Int) : List D := (ds.drop (HT.sIx ds.length 0 lo)).take (HT.sIx ds.length ds.length hi - HT.sIx ds.length 0 lo)
def dSl (lo hi : Option Int) : D → Option D
  | .lst xs => some (.lst (cutD xs lo hi))
  | .tup xs => some (.tup (cutD xs lo hi))
  | .fz ns => some (.lst (cutD (ns.map .int) lo hi))
  | _ => none
theorem cut_rp {xs : List V} {ds : List D} (h : RpA m K g H xs ds) (lo hi : Option Int) : RpA m K g H (cutV xs lo hi) (cutD ds lo hi) := by
  unfold cutV cutD
  rw [h.length]
  exact (h.drop _).take _
theorem cutD_all {ds : List D} {lo hi : Option Int} (h : HT.sIx ds.length 0 lo = 0 ∧ HT.sIx ds.length ds.length hi = ds.length) : cutD ds lo hi = ds := by
  unfold cutD
  rw [h.1, h.2]
  simp
def oNone : M (Option Int) := M.ret none
def oSome (fa : M D) : M (Option Int) := M.bind fa fun d => lift (match d with
  | .int i => some (some i)
  | _ => none)
theorem o_none : OV X W fx none oNone := PO.imp po_none fun σ H Q ⟨m₀, ρ, rr, w⟩ => w H rr .refl
theorem o_some (ha : EV X W fx e fa) : OV X W fx (some e) (oSome fa) := by
  refine PO.imp (po_some ha) fun σ H Q ⟨m₀, ρ, rr, w⟩ => ?_
  refine tE.first rr w fun dx ρ1 v H1 r1 h1 s1 w1 => ?_
  obtain ⟨o, ez, w3⟩ := w1.lift
  split at ez
  · cases ez; cases h1
    exact ⟨_, rfl, w3 H1 r1 s1⟩
  · cases ez
def mSl (fa : M D) (fl fh : M (Option Int)) : M D := M.bind fa fun d => M.bind fl fun lo => M.bind fh fun hi => lift (dSl lo hi d)
theorem e_slice {lo hi : Option Expr} {fl fh : M (Option Int)} (ha : EV X W fx e fa) (hl : OV X W fx lo fl) (hh : OV X W fx hi fh) : EV X W fx (.Subscript e (.Slice lo hi none p2) pos) (mSl fa fl fh) := by
  refine PE.imp (pe_slice (sl_list.or sl_tupA) ha hl hh) fun σ H Q ⟨m₀, ρ, rr, w⟩ => ?_
  refine tE.first rr w fun dx ρ1 v H1 r1 h1 s1 w1 => tO.first r1 w1 fun l ρ2 H2 r2 s2 w2 => tO.first r2 w2 fun u ρ3 H3 r3 s3 w3 => ?_
  obtain ⟨dz, ez, w4⟩ := w3.lift
  have h3 := (s2.trans s3).rp r1 h1
  have st := s1.trans (s2.trans s3)
  unfold dSl at ez
  split at ez
  · cases ez
    cases h3 with
    | lst h4 h5 => exact .inl ⟨_, _, rfl, h4.sq, fun p hp => w4 _ _ (r3.add hp).drop (.lst ⟨r3.new_out hp, upd_same⟩ (rpA_new (cut_rp h5 l u) hp)) (st.trans (.grown (keep_new hp)))⟩
  · cases ez
    cases h3 with
    | tup h4 h5 =>
      refine .inr ⟨_, _, rfl, h4.sq, fun z => ?_, fun z p hp => ?_⟩
      · rw [h5.length] at z
        rw [cutD_all z] at w4
        exact w4 _ H3 r3 (.tup h4 h5) st
      · exact w4 _ _ (r3.add hp).drop (.tup (.inl ⟨r3.new_out hp, upd_same⟩) (rpA_new (cut_rp h5 l u) hp)) (st.trans (.grown (keep_new hp)))
  · cases ez
    cases h3 with
    | fz h4 => exact .inl ⟨_, _, rfl, h4.sq, fun p hp => w4 _ _ (r3.add hp).drop (.lst ⟨r3.new_out hp, upd_same⟩ (rpA_new (cut_rp (RpA.of_ints _) l u) hp)) (st.trans (.grown (keep_new hp)))⟩
  · cases ez
end
end PV
namespace PV
open PySem PySem.Spec PyProof.Rows L2
variable [Tb]
/-! ### statements -/
inductive Fl where
  | nx | bk | ct | rt (d : D) | ro (ds : List D)
def EndOk (c : Ct) (m₀ : Addr → Prop) (σ : L2.St) (ρ : En) (H : Hp) (E : Ends) (ρ' : En) : Fl → Prop
  | .nx => ∀ σ' H', Rel m₀ c.K c.g H' σ' ρ' → Stp σ ρ H σ' ρ' H' → Fx c.fx σ σ' → E.nx σ' H'
  | .bk => ∀ σ' H', Rel m₀ c.K c.g H' σ' ρ' → Stp σ ρ H σ' ρ' H' → Fx c.fx σ σ' → E.bk σ' H'
  | .ct => ∀ σ' H', Rel m₀ c.K c.g H' σ' ρ' → Stp σ ρ H σ' ρ' H' → Fx c.fx σ σ' → E.ct σ' H'
  | .rt d => ∀ v σ' H', Rel m₀ c.K c.g H' σ' ρ' → Rp (mm m₀ σ' ρ') c.K c.g H' v d → Stp σ ρ H σ' ρ' H' → Fx c.fx σ σ' → E.rt v H'
  | .ro ds => ∀ p vs σ' H', Rel (mp m₀ p) c.K c.g H' σ' ρ' → H p = none → H' p = some (.lst vs) → RpA (mm (mp m₀ p) σ' ρ') c.K c.g H' vs ds → Stp σ ρ H σ' ρ' H' → Fx c.fx σ σ' → E.rt (.ref p) H'
def tS (c : Ct) (f : M Fl) : TS := fun E σ H => ∃ m₀ ρ, Rel m₀ c.K c.g H σ ρ ∧ Want c m₀ σ ρ H (fun fl ρ' => EndOk c m₀ σ ρ H E ρ' fl) (f ρ)
abbrev SV (X : Cx) (W : WX) (fx : List Nat) (s : Stmt) (f : M Fl) : Prop := PS X s (tS (ct X W fx) f)
abbrev BV (X : Cx) (W : WX) (fx : List Nat) (s : List Stmt) (f : M Fl) : Prop := PSs X s (tS (ct X W fx) f)
section
variable {c : Ct} {m₀ : Addr → Prop} {σ σ1 : L2.St} {ρ ρ1 ρ' : En} {H H1 : Hp} {E E' : Ends}
theorem EndOk.later {fl : Fl} (h : EndOk c m₀ σ ρ H E ρ' fl) (s : Stp σ ρ H σ1 ρ1 H1) (f : Fx c.fx σ σ1) : EndOk c m₀ σ1 ρ1 H1 E ρ' fl := by
  cases fl with
  | nx => exact fun σ' H' r' s' f' => h σ' H' r' (s.trans s') (f.trans f')
  | bk => exact fun σ' H' r' s' f' => h σ' H' r' (s.trans s') (f.trans f')
  | ct => exact fun σ' H' r' s' f' => h σ' H' r' (s.trans s') (f.trans f')
  | rt d => exact fun v σ' H' r' h' s' f' => h v σ' H' r' h' (s.trans s') (f.trans f')
  | ro ds => exact fun p vs σ' H' r' n' e' h' s' f' => h p vs σ' H' r' (s.back n') e' h' (s.trans s') (f.trans f')
/-- a statement's reading from what is left to do -/
theorem tS.of {f : M Fl} (r : Rel m₀ c.K c.g H1 σ1 ρ1) (s : Stp σ ρ H σ1 ρ1 H1) (fx : Fx c.fx σ σ1) (w : Want c m₀ σ1 ρ1 H1 (fun fl ρ' => EndOk c m₀ σ ρ H E ρ' fl) (f ρ1)) : tS c f E σ1 H1 :=
  ⟨m₀, ρ1, r, w.mono fun fl ρ' _ h => h.later s fx⟩
theorem fx_set {fx : List Nat} {i : Nat} {x : Option V} (h : i ∉ fx) : Fx fx σ (σ.set i x) := fun j hj => by
  rw [List.getElem?_set_ne]
  rintro rfl
  exact h hj
end
/-! mirrors of statements -/
def mSeq (f g : M Fl) : M Fl := M.bind f fun fl => match fl with
  | .nx => g
  | fl => M.ret fl
def put (i : Nat) (s : Sl) : M Unit := fun ρ => if i < ρ.length then .ok () (ρ.set i s) else .no
def mSet (i : Nat) (f : M D) : M Fl := M.bind f fun d => M.bind (put i (.val d)) fun _ => M.ret .nx
def mOwn (i : Nat) (f : M (List D)) : M Fl := M.bind f fun ds => M.bind (put i (.own ds)) fun _ => M.ret .nx
def mRet (f : M D) : M Fl := M.bind f fun d => M.ret (.rt d)
def mRetO (f : M (List D)) : M Fl := M.bind f fun d => M.ret (.ro d)
def mExpr (f : M D) : M Fl := M.bind f fun _ => M.ret .nx
def mIfS (t : M Bool) (f g : M Fl) : M Fl := M.bind t fun c => if c = true then f else g
section
variable {X : Cx} {W : WX} {fx : List Nat} {a b e : Expr} {s : Stmt} {rest sa sb : List Stmt} {f g : M Fl} {fe : M D} {pos pos' : Pos} {i : Nat} {x : Str}
theorem b_nil : BV X W fx [] (M.ret .nx) := PSs.imp pss_nil fun E σ H ⟨m₀, ρ, rr, w⟩ => w σ H rr .refl .refl
theorem b_cons (h1 : SV X W fx s f) (h2 : BV X W fx rest g) : BV X W fx (s :: rest) (mSeq f g) := by
  refine PSs.imp (pss_cons h1 h2) fun E σ H ⟨m₀, ρ, rr, w⟩ => ⟨m₀, ρ, rr, ?_⟩
  refine w.bind.mono fun fl ρ1 _ q => ?_
  cases fl with
  | nx => exact fun σ1 H1 r1 s1 f1 => tS.of r1 s1 f1 (q.later s1 f1)
  | bk => exact q
  | ct => exact q
  | rt d => exact q
  | ro ds => exact q
theorem b_one (h1 : SV X W fx s f) : BV X W fx [s] f := PSs.imp (pss_one h1) fun _ _ _ h => h
theorem put_ok {c : Ct} {m₀ : Addr → Prop} {σ : L2.St} {ρ : En} {H : Hp} {β : Type} {S : β → En → Prop} {sl : Sl} {k : Unit → M β} (w : Want c m₀ σ ρ H S (M.bind (put i sl) k ρ)) : i < ρ.length ∧ Want c m₀ σ ρ H S (k () (ρ.set i sl)) := by
  have w' : Want c m₀ σ ρ H S ((if i < ρ.length then R.ok () (ρ.set i sl) else R.no).andThen k) := w
  by_cases h : i < ρ.length
  · rw [if_pos h] at w'; exact ⟨h, w'⟩
  · rw [if_neg h] at w'; exact w'.elim
theorem set_core {σ : L2.St} {H : Hp} {E : Ends} (hfx : i ∉ fx) (h : tS (ct X W fx) (mSet i fe) E σ H) : tAsg (tE (ct X W fx) fe) (gName i) E σ H := by
  obtain ⟨m₀, ρ, rr, w⟩ := h
  refine tE.first rr w fun d ρ1 v H1 r1 h1 s1 w1 => ?_
  obtain ⟨hi, w2⟩ := put_ok w1
  exact w2 _ H1 (r1.put hi h1) (s1.trans .set) (fx_set hfx)
theorem s_set (i : Nat) {x : Str} (hN : X.N.Nodup) (he : EV X W fx e fe) (hi : X.N[i]? = some x := by rfl) (hx : Loc X.env.scope x := by first | exact .inl rfl | exact .inr rfl) (hfx : i ∉ fx := by decide) (hs : swapsWith e (some (.Name x pos')) pos.line X.env = pure false := by rfl)
    (hf : X.fn x = true ∨ X.env.scope.names.lookup x = some .local := by first | exact .inl rfl | exact .inr rfl) : SV X W fx (.Assign [.Name x pos'] e pos) (mSet i fe) :=
  PS.imp (ps_set hN hi hx he hs hf) fun _ _ _ h => set_core hfx h
theorem s_ret (he : EV X W fx e fe) : SV X W fx (.Return (some e) pos) (mRet fe) := by
  refine PS.imp (ps_ret he) fun E σ H ⟨m₀, ρ, rr, w⟩ => ?_
  exact tE.first rr w fun d ρ1 v H1 r1 h1 s1 w1 => w1 v σ H1 r1 h1 s1 .refl
theorem s_retO {fl : M (List D)} (he : NV X W fx e fl) : SV X W fx (.Return (some e) pos) (mRetO fl) := by
  refine PS.imp (ps_ret he) fun E σ H ⟨m₀, ρ, rr, w⟩ => ?_
  exact tN.first rr w fun d ρ1 p vs H1 r1 n1 e1 h1 s1 w1 => w1 p vs σ H1 r1 n1 e1 h1 s1 .refl
theorem s_if {t : Expr} {ft : M Bool} (ht : TV X W fx t ft) (ha : BV X W fx sa f) (hb : BV X W fx sb g) : SV X W fx (.If t sa sb pos) (mIfS ft f g) := by
  refine PS.imp (ps_if ht ha hb) fun E σ H ⟨m₀, ρ, rr, w⟩ => ?_
  refine tT.first rr w fun c ρ1 H1 r1 s1 w1 => ?_
  cases c with
  | true => exact tS.of r1 s1 .refl w1
  | false => exact tS.of r1 s1 .refl w1
end
/-! ### targets -/
def tG (c : Ct) (f : D → M Unit) : TG := fun v σ H Q => ∃ m₀ ρ d, Rel m₀ c.K c.g H σ ρ ∧ Rp (mm m₀ σ ρ) c.K c.g H v d ∧ Want c m₀ σ ρ H (fun _ ρ' => ∀ σ' H', Rel m₀ c.K c.g H' σ' ρ' → Stp σ ρ H σ' ρ' H' → Fx c.fx σ σ' → Q σ' H') (f d ρ)
def tGs (c : Ct) (f : List D → M Unit) : TGs := fun vs σ H Q => ∃ m₀ ρ ds, Rel m₀ c.K c.g H σ ρ ∧ RpA (mm m₀ σ ρ) c.K c.g H vs ds ∧ Want c m₀ σ ρ H (fun _ ρ' => ∀ σ' H', Rel m₀ c.K c.g H' σ' ρ' → Stp σ ρ H σ' ρ' H' → Fx c.fx σ σ' → Q σ' H') (f ds ρ)
abbrev GV (X : Cx) (W : WX) (fx : List Nat) (e : Expr) (f : D → M Unit) : Prop := PG X e (tG (ct X W fx) f)
abbrev GsV (X : Cx) (W : WX) (fx : List Nat) (es : List Expr) (f : List D → M Unit) : Prop := PGs X es (tGs (ct X W fx) f)
theorem PG.imp {X : Cx} {e : Expr} {t t' : TG} (h : PG X e t) (i : ∀ v σ H Q, t' v σ H Q → t v σ H Q) : PG X e t' := ⟨fun pins s σ H v u Q I r w => h.run pins s σ H v u Q I r (i v σ H Q w)⟩
theorem PG.or {X : Cx} {e : Expr} {t t' : TG} (h : PG X e t) (h' : PG X e t') : PG X e (fun v σ H Q => t v σ H Q ∨ t' v σ H Q) := ⟨fun pins s σ H v u Q I r w => w.elim (h.run pins s σ H v u Q I r) (h'.run pins s σ H v u Q I r)⟩
theorem PGs.imp {X : Cx} {e : List Expr} {t t' : TGs} (h : PGs X e t) (i : ∀ v σ H Q, t' v σ H Q → t v σ H Q) : PGs X e t' := ⟨fun pins s σ H v u Q I r w => h.run pins s σ H v u Q I r (i v σ H Q w)⟩
def gN (i : Nat) (d : D) : M Unit := put i (.val d)
def gsNil : List D → M Unit
  | [] => M.ret ()
  | _ => fun _ => .no
def gsCons (f : D → M Unit) (g : List D → M Unit) : List D → M Unit
  | d :: ds => M.bind (f d) fun _ => g ds
  | _ => fun _ => .no
def gT (g : List D → M Unit) : D → M Unit
  | .tup ds => g ds
  | .lst ds => g ds
  | _ => fun _ => .no
section
variable {X : Cx} {W : WX} {fx : List Nat} {e : Expr} {es : List Expr} {fe : M D} {pos : Pos} {i : Nat} {f : D → M Unit} {g : List D → M Unit}
theorem g_name (i : Nat) {x : Str} (hN : X.N.Nodup) (hi : X.N[i]? = some x := by rfl) (hx : Loc X.env.scope x := by first | exact .inl rfl | exact .inr rfl) (hfx : i ∉ fx := by decide)
    (hf : X.fn x = true ∨ X.env.scope.names.lookup x = some .local := by first | exact .inl rfl | exact .inr rfl) : GV X W fx (.Name x pos) (gN i) := by
  refine PG.imp (pg_name hN hi hx hf) fun v σ H Q ⟨m₀, ρ, d, rr, h, w⟩ => ?_
  unfold gN put at w
  split at w
  · rename_i hl
    exact w _ H (rr.put hl h) .set (fx_set hfx)
  · exact w.elim
theorem gs_nil : GsV X W fx [] gsNil := by
  refine PGs.imp pgs_nil fun vs σ H Q ⟨m₀, ρ, ds, rr, h, w⟩ => ?_
  cases h with
  | nil => exact ⟨rfl, w σ H rr .refl .refl⟩
  | cons h1 h2 => exact w.elim
theorem gs_cons (h1 : GV X W fx e f) (h2 : GsV X W fx es g) (hs : (assignEach (e :: es) X.env).map (·.2) = assign e X.env :: (assignEach es X.env).map (·.2) := by rfl) : GsV X W fx (e :: es) (gsCons f g) := by
  refine PGs.imp (pgs_cons h1 h2 hs) fun vs σ H Q ⟨m₀, ρ, ds, rr, h, w⟩ => ?_
  cases h with
  | nil => exact w.elim
  | cons h3 h4 =>
    refine ⟨_, _, rfl, m₀, ρ, _, rr, h3, ?_⟩
    have w' : Want (ct X W fx) m₀ σ ρ H (fun _ ρ' => ∀ σ' H', Rel m₀ X.K X.mg H' σ' ρ' → Stp σ ρ H σ' ρ' H' → Fx fx σ σ' → Q σ' H') (M.bind (f _) (fun _ => g _) ρ) := w
    refine w'.bind.mono fun _ ρ1 _ w1 σ1 H1 r1 s1 f1 => ?_
    exact ⟨m₀, ρ1, _, r1, s1.rpA rr h4, (w1.later s1 f1).mono fun _ ρ2 _ q σ2 H2 r2 s2 f2 => q σ2 H2 r2 (s1.trans s2) (f1.trans f2)⟩
theorem g_tup {k n : Nat} (hc : X.calm = true) (h : GsV X W fx es g) (hn : (assignEach es X.env).length = n := by rfl) (hst : (assignEach es X.env).findIdx? (·.1) = none := by rfl) (hg : ∀ ds ρ, (∃ u ρ', g ds ρ = .ok u ρ') ∨ (∃ u ρ', g ds ρ = .er u ρ') → ds.length = n) : GV X W fx (.Tuple es k pos) (gT g) := by
  have key : ∀ {vs : List V} {ds : List D} {σ : L2.St} {H : Hp} {Q : L2.St → Hp → Prop} {m₀ : Addr → Prop} {ρ : En}, RpA (mm m₀ σ ρ) X.K X.mg H vs ds → Want (ct X W fx) m₀ σ ρ H (fun _ ρ' => ∀ σ' H', Rel m₀ X.K X.mg H' σ' ρ' → Stp σ ρ H σ' ρ' H' → Fx fx σ σ' → Q σ' H') (g ds ρ) → vs.length = n := fun {vs ds σ H Q m₀ ρ} h2 w' => by
    rw [h2.length]
    apply hg _ ρ
    revert w'
    cases g _ ρ with
    | no => exact fun w' => w'.elim
    | er y ρ' => exact fun _ => .inr ⟨_, _, rfl⟩
    | ok u ρ' => exact fun _ => .inl ⟨_, _, rfl⟩
  refine PG.imp (PG.or (pg_tup hc h hn hst) (pg_lst hc h hn hst)) fun v σ H Q ⟨m₀, ρ, d, rr, hd, w⟩ => ?_
  cases hd with
  | tup h1 h2 => exact .inl ⟨_, _, rfl, h1.sq, key h2 w, m₀, ρ, _, rr, h2, w⟩
  | lst h1 h2 => exact .inr ⟨_, _, rfl, h1.sq, key h2 w, m₀, ρ, _, rr, h2, w⟩
  | _ => exact w.elim
/-- so many targets -/
def Gn (g : List D → M Unit) (n : Nat) : Prop := ∀ ds ρ, (∃ u ρ', g ds ρ = .ok u ρ') ∨ (∃ u ρ', g ds ρ = .er u ρ') → ds.length = n
theorem gn_nil : Gn gsNil 0 := fun ds ρ h => by
  cases ds with
  | nil => rfl
  | cons d ds => rcases h with ⟨u, ρ', h⟩ | ⟨u, ρ', h⟩ <;> cases h
theorem gn_cons {n : Nat} (hf : ∀ d ρ x ρ', f d ρ ≠ .er x ρ') (h : Gn g n) : Gn (gsCons f g) (n + 1) := fun ds ρ h' => by
  cases ds with
  | nil => rcases h' with ⟨u, ρ', h'⟩ | ⟨u, ρ', h'⟩ <;> cases h'
  | cons d ds =>
    rw [List.length_cons]
    congr 1
    have e : gsCons f g (d :: ds) ρ = (f d ρ).andThen fun _ => g ds := rfl
    rw [e] at h'
    cases q : f d ρ with
    | no => rw [q] at h'; rcases h' with ⟨u, ρ', h'⟩ | ⟨u, ρ', h'⟩ <;> cases h'
    | er y ρ1 => exact absurd q (hf d ρ y ρ1)
    | ok u ρ1 => rw [q] at h'; exact h ds ρ1 h'
theorem gN_noer (i : Nat) : ∀ d ρ x ρ', gN i d ρ ≠ .er x ρ' := fun d ρ x ρ' h => by
  unfold gN put at h
  split at h <;> cases h
def mAsg (fe : M D) (f : D → M Unit) : M Fl := M.bind fe fun d => M.bind (f d) fun _ => M.ret .nx
theorem s_asg {tg : Expr} (he : EV X W fx e fe) (hg : GV X W fx tg f) (hs : swapsWithSole [tg] e pos.line X.env = pure false := by rfl) (hw : swappedStores [tg] e X.env = pure none := by rfl) (h1 : (assignEach [tg] X.env).map (·.2) = [assign tg X.env] := by rfl) :
    SV X W fx (.Assign [tg] e pos) (mAsg fe f) := by
  refine PS.imp (ps_asg he hg hs hw h1) fun E σ H ⟨m₀, ρ, rr, w⟩ => ?_
  refine tE.first rr w fun d ρ1 v H1 r1 h1 s1 w1 => ⟨m₀, ρ1, d, r1, h1, ?_⟩
  exact w1.bind.mono fun _ ρ2 _ q σ2 H2 r2 s2 f2 => q σ2 H2 r2 (s1.trans s2) f2
end
end PV
namespace PV
open PySem PySem.Spec PyProof.Rows L2
variable [Tb]
section
variable {m₀ : Addr → Prop} {K : PySem.W.Frag} {g : Str → Option Value} {H H' : Hp} {σ σ' : L2.St} {ρ ρ' : En} {v : V} {d : D} {i j : Nat} {p : Addr} {ds es : List D} {vs : List V}
/-! ### an owned list is written -/
theorem own_set_own (e : ρ[j]? = some (.own ds)) (a : Addr) : Own σ (ρ.set j (.own es)) a ↔ Own σ ρ a := by
  have hl := (List.getElem?_eq_some_iff.mp e).1
  constructor
  · rintro ⟨k, fs, e1, e2⟩
    by_cases hk : k = j
    · subst hk; exact ⟨k, ds, e, e2⟩
    · rw [List.getElem?_set_ne (Ne.symm hk)] at e1; exact ⟨k, fs, e1, e2⟩
  · rintro ⟨k, fs, e1, e2⟩
    by_cases hk : k = j
    · subst hk; exact ⟨k, es, List.getElem?_set_self hl, e2⟩
    · exact ⟨k, fs, by rw [List.getElem?_set_ne (Ne.symm hk)]; exact e1, e2⟩
theorem mm_congr {σ : L2.St} {ρ : En} (h : ∀ a, Own σ' ρ' a ↔ Own σ ρ a) : mm m₀ σ' ρ' = mm m₀ σ ρ := funext fun a => propext (or_congr Iff.rfl (h a))
theorem Rel.write (r : Rel m₀ K g H σ ρ) (e : ρ[j]? = some (.own ds)) : ∃ p vs, σ[j]? = some (some (.ref p)) ∧ H p = some (.lst vs) ∧ RpA (mm m₀ σ ρ) K g H vs ds ∧
    ∀ vs' es, RpA (mm m₀ σ ρ) K g H vs' es → Rel m₀ K g (upd H p (.lst vs')) σ (ρ.set j (.own es)) ∧ Stp σ ρ H σ (ρ.set j (.own es)) (upd H p (.lst vs')) := by
  obtain ⟨p, vs, h1, h2, h3, h4⟩ := r.own j ds e
  have hl := (List.getElem?_eq_some_iff.mp e).1
  refine ⟨p, vs, h1, h3, h4, fun vs' es h => ?_⟩
  have ow : Own σ ρ p := ⟨j, ds, e, h1⟩
  have kp : Kp (Own σ ρ) H (upd H p (.lst vs')) := fun a o n q _ => by
    rw [upd_ne (fun z => n (by rw [z]; exact ow))]; exact q
  have kpm : Kp (mm m₀ σ ρ) H (upd H p (.lst vs')) := fun a o n q t => kp a o (fun z => n (.inr z)) q t
  have em : mm m₀ σ (ρ.set j (.own es)) = mm m₀ σ ρ := mm_congr (own_set_own e)
  have gr : ∀ a, H a ≠ none → upd H p (.lst vs') a ≠ none := fun a n => by
    by_cases z : a = p
    · rw [z, upd_same]; simp
    · rw [upd_ne z]; exact n
  refine ⟨⟨by rw [List.length_set]; exact r.len, fun a z => gr a (r.dom a z), fun k d q => ?_, fun k fs q => ?_, fun k l fs hs b q1 q2 q3 q4 => ?_, tabs_upd r.tab h3 (by simp) (by simp)⟩, kp, gr, fun a z => .inl ((own_set_own e a).mp z)⟩
  · rw [em]
    by_cases hk : k = j
    · subst hk; rw [List.getElem?_set_self hl] at q; cases q
    · rw [List.getElem?_set_ne (Ne.symm hk)] at q
      obtain ⟨w, q1, q2⟩ := r.val k d q
      exact ⟨w, q1, Rp.mono Sub'.refl kpm _ _ q2⟩
  · rw [em]
    by_cases hk : k = j
    · subst hk
      rw [List.getElem?_set_self hl] at q; cases q
      exact ⟨p, vs', h1, h2, upd_same, RpA.mono Sub'.refl kpm _ _ h⟩
    · rw [List.getElem?_set_ne (Ne.symm hk)] at q
      obtain ⟨b, ws, q1, q2, q3, q4⟩ := r.own k fs q
      refine ⟨b, ws, q1, q2, ?_, RpA.mono Sub'.refl kpm _ _ q4⟩
      rw [upd_ne (fun z => hk (r.inj k j fs ds p q e (by rw [← z]; exact q1) h1))]
      exact q3
  · have f1 : ∃ fs', ρ[k]? = some (.own fs') := by
      by_cases hk : k = j
      · subst hk; exact ⟨_, e⟩
      · rw [List.getElem?_set_ne (Ne.symm hk)] at q1; exact ⟨_, q1⟩
    have f2 : ∃ fs', ρ[l]? = some (.own fs') := by
      by_cases hk : l = j
      · subst hk; exact ⟨_, e⟩
      · rw [List.getElem?_set_ne (Ne.symm hk)] at q2; exact ⟨_, q2⟩
    obtain ⟨_, f1⟩ := f1
    obtain ⟨_, f2⟩ := f2
    exact r.inj k l _ _ b f1 f2 q3 q4
end
/-- the slot j is owned -/
def isOwn (ρ : En) (j : Nat) : Bool := match ρ[j]? with
  | some (.own _) => true
  | _ => false
theorem isOwn_ok {ρ : En} {j : Nat} (h : isOwn ρ j = true) : ∃ ds, ρ[j]? = some (.own ds) := by
  unfold isOwn at h
  split at h
  · exact ⟨_, by assumption⟩
  · cases h
def mOwned {α : Type} (j : Nat) (f : M α) : M α := fun ρ => if isOwn ρ j = true then f ρ else .no
/-- what is done to the owned list at j -/
def mAt {α : Type} (j : Nat) (f : List D → Option (α × List D)) : M α := fun ρ => match ρ[j]? with
  | some (.own ds) => match f ds with
    | some (a, es) => .ok a (ρ.set j (.own es))
    | none => .no
  | _ => .no
theorem at_ok {α β : Type} {c : Ct} {m₀ : Addr → Prop} {σ : L2.St} {ρ : En} {H : Hp} {S : β → En → Prop} {j : Nat} {f : List D → Option (α × List D)} {k : α → M β} (w : Want c m₀ σ ρ H S (M.bind (mAt j f) k ρ)) :
    ∃ ds a es, ρ[j]? = some (.own ds) ∧ f ds = some (a, es) ∧ Want c m₀ σ ρ H S (k a (ρ.set j (.own es))) := by
  unfold M.bind mAt at w
  split at w
  · rename_i ds e
    split at w
    · rename_i a es e2
      exact ⟨ds, a, es, e, e2, w⟩
    · exact w.elim
  · exact w.elim
section
variable {X : Cx} {W : WX} {fx : List Nat} {e : Expr} {es : List Expr} {fe fi : M D} {pos pos' apos : Pos} {j : Nat} {x : Str}
def setAt (k d : D) (ds : List D) : Option (Unit × List D) := match k with
  | .int i => (ixN ds.length i).map fun n => ((), ds.set n d)
  | _ => none
def gSub1 (j : Nat) (fi : M D) (d : D) : M Unit := mOwned j (M.bind fi fun k => M.bind (mAt j (setAt k d)) fun _ => M.ret ())
/-- o[i] = .., o owned -/
theorem g_sub (j : Nat) {x : Str} (ho : PE X (.Name x pos') (tVar j)) (hi : EV X W fx e fi) (ha : ∀ v, assign (.Subscript (.Name x pos') e pos) X.env v = (do
      let ov ← holding [v] (eval (.Name x pos') X.env)
      let iv ← holding [v, ov] (eval e X.env)
      standAt pos
      holding [v, ov, iv] (setItem ov iv v)
      release [v, ov, iv] []) := by intro _; rfl) : GV X W fx (.Subscript (.Name x pos') e pos) (gSub1 j fi) := by
  refine PG.imp (pg_sub ho hi set_list ha) fun v σ H Q ⟨m₀, ρ, d, rr, h, w⟩ => ?_
  unfold gSub1 mOwned at w
  by_cases ho : isOwn ρ j = true
  · rw [if_pos ho] at w
    obtain ⟨ds0, eo⟩ := isOwn_ok ho
    obtain ⟨p0, _, ep, _, _, _⟩ := rr.own j ds0 eo
    refine ⟨.ref p0, ep, ?_⟩
    refine tE.first rr w fun k ρ1 iv H1 r1 h1 s1 w2 => ?_
    obtain ⟨ds, u, es, eo1, e2, w3⟩ := at_ok w2
    obtain ⟨p, vs, ep1, eH, hA, hw⟩ := r1.write eo1
    rw [ep] at ep1; cases ep1
    unfold setAt at e2
    split at e2
    · obtain ⟨n, e3, e4⟩ := Option.map_eq_some_iff.mp e2
      cases e4; cases h1
      obtain ⟨r2, s2⟩ := hw (vs.set n v) (ds.set n d) (hA.set n (s1.rp rr h))
      exact ⟨p0, vs, _, n, rfl, rfl, eH, by rw [hA.length]; exact e3, w3 σ _ r2 (s1.trans s2) .refl⟩
    · cases e2
  · rw [if_neg ho] at w; exact w.elim
def appAt (d : D) (ds : List D) : Option (Unit × List D) := if ds.length < 1000000 then some ((), ds ++ [d]) else none
def mApp (j : Nat) (fe : M D) : M D := mOwned j (M.bind fe fun d => M.bind (mAt j (appAt d)) fun _ => M.ret .non)
/-- an owned list is read: its length, an item -/
def mLenO (j : Nat) : M D := mAt j fun ds => some (.int ds.length, ds)
def mIxO (j : Nat) (fi : M D) : M D := mOwned j (M.bind fi fun k => mAt j fun ds => (dIx (.lst ds) k).map fun d => (d, ds))
end
/-! ### what is walked -/
structure Src (K : PySem.W.Frag) (g : Str → Option Value) (m : Addr → Prop) (H : Hp) (J : It) (ds : List D) : Prop where
  ex : ∃ S : (Addr → Prop) → Hp → Prop, S m H ∧ (∀ m m' H H', S m H → Sub' m' m H → Kp m H H' → S m' H') ∧
    (∀ i m H d, S m H → (∀ p, H p = none → ¬ m p) → ds[i]? = some d → J.go i H ∧ ∀ x H', J.yld i H x H' → (∀ a o, H a = some o → H' a = some o) ∧ Rp m K g H' x d) ∧ ∀ m H, S m H → J.stop ds.length H
def tI (c : Ct) (f : M (List D)) : TI := fun σ H Q => ∃ m₀ ρ, Rel m₀ c.K c.g H σ ρ ∧ Want c m₀ σ ρ H (fun ds ρ' => ∀ J H', Rel m₀ c.K c.g H' σ ρ' → Src c.K c.g (mm m₀ σ ρ') H' J ds → Stp σ ρ H σ ρ' H' → Q J H') (f ρ)
abbrev IV (X : Cx) (W : WX) (fx : List Nat) (tg e : Expr) (f : M (List D)) : Prop := PI X tg e (tI (ct X W fx) f)
theorem PI.imp {X : Cx} {tg e : Expr} {t t' : TI} (h : PI X tg e t) (i : ∀ σ H Q, t' σ H Q → t σ H Q) : PI X tg e t' := ⟨fun pins s σ H R I w => h.run pins s σ H R I (i σ H R w)⟩
theorem PI.or {X : Cx} {tg e : Expr} {t t' : TI} (h : PI X tg e t) (h' : PI X tg e t') : PI X tg e (fun σ H Q => t σ H Q ∨ t' σ H Q) := ⟨fun pins s σ H R I w => w.elim (h.run pins s σ H R I) (h'.run pins s σ H R I)⟩
theorem tI.first {c : Ct} {σ : L2.St} {H : Hp} {β : Type} {x : M (List D)} {f : List D → M β} {m₀ : Addr → Prop} {ρ : En} {S : β → En → Prop} {Q : It → Hp → Prop} (r : Rel m₀ c.K c.g H σ ρ) (h : Want c m₀ σ ρ H S (M.bind x f ρ))
    (q : ∀ ds ρ1 J H1, Rel m₀ c.K c.g H1 σ ρ1 → Src c.K c.g (mm m₀ σ ρ1) H1 J ds → Stp σ ρ H σ ρ1 H1 → Want c m₀ σ ρ1 H1 S (f ds ρ1) → Q J H1) : tI c x σ H Q :=
  ⟨m₀, ρ, r, h.bind.mono fun d ρ1 _ w J H1 r1 h1 s1 => q d ρ1 J H1 r1 h1 s1 (w.later s1 .refl)⟩
section
variable {m : Addr → Prop} {K : PySem.W.Frag} {g : Str → Option Value} {H : Hp} {a b : Addr} {xs ys : List V} {ds es : List D}
theorem src_list (h : RL m H a xs) (h2 : RpA m K g H xs ds) : Src K g m H (Itl K a) ds := by
  refine ⟨fun m H => RL m H a xs ∧ RpA m K g H xs ds, ⟨h, h2⟩, fun m m' H H' ⟨p, q⟩ s k => ⟨p.mono s k, RpA.mono s k _ _ q⟩, fun i m H d ⟨p, q⟩ hm e => ?_, fun m H ⟨p, q⟩ => ⟨xs, p.sq, by rw [q.length]; exact Nat.le_refl _⟩⟩
  obtain ⟨v, e1, h3⟩ := q.get e
  refine ⟨⟨xs, v, p.sq, e1⟩, fun x H' y => ?_⟩
  obtain ⟨rfl, y⟩ := y
  have e2 := y xs p.sq
  rw [e1] at e2; cases e2
  exact ⟨grown_refl, h3⟩
theorem src_tup (h : RT m K H a xs) (h2 : RpA m K g H xs ds) : Src K g m H (Itt K a) ds := by
  refine ⟨fun m H => RT m K H a xs ∧ RpA m K g H xs ds, ⟨h, h2⟩, fun m m' H H' ⟨p, q⟩ s k => ⟨p.mono s k, RpA.mono s k _ _ q⟩, fun i m H d ⟨p, q⟩ hm e => ?_, fun m H ⟨p, q⟩ => ⟨xs, p.sq, by rw [q.length]; exact Nat.le_refl _⟩⟩
  obtain ⟨v, e1, h3⟩ := q.get e
  refine ⟨⟨xs, v, p.sq, e1⟩, fun x H' y => ?_⟩
  obtain ⟨rfl, y⟩ := y
  have e2 := y xs p.sq
  rw [e1] at e2; cases e2
  exact ⟨grown_refl, h3⟩
def upto (lo : Int) (n : Nat) : List D := (List.range n).map fun i => D.int (lo + (i : Nat))
theorem src_range (lo : Int) (n : Nat) : Src K g m H (Itr lo n) (upto lo n) := by
  refine ⟨fun _ _ => True, trivial, fun _ _ _ _ _ _ _ => trivial, fun i m H d _ hm e => ?_, fun m H _ => ?_⟩
  · unfold upto at e
    rw [List.getElem?_map] at e
    obtain ⟨k, e1, e2⟩ := Option.map_eq_some_iff.mp e
    obtain ⟨hl, e3⟩ := List.getElem?_eq_some_iff.mp e1
    rw [List.getElem_range] at e3
    subst e3; subst e2
    refine ⟨show i < n by simpa using hl, fun x H' y => ?_⟩
    obtain ⟨rfl, rfl⟩ := y
    exact ⟨grown_refl, .int _⟩
  · show n ≤ (upto lo n).length
    unfold upto
    simp
def pairs (ds es : List D) : List D := List.zipWith (fun x y => D.tup [x, y]) ds es
end
section
variable {X : Cx} {W : WX} {fx : List Nat} {tg e e2 : Expr} {es : List Expr} {fe : M D} {fl : M (List D)} {p pos tpos : Pos}
def mIter (fe : M D) : M (List D) := M.bind fe fun d => lift d.items?
theorem i_seq (he : EV X W fx e fe) : IV X W fx tg e (mIter fe) := by
  refine PI.imp (PI.or (pi_list he) (pi_tup he)) fun σ H R ⟨m₀, ρ, rr, w⟩ => ?_
  rcases Classical.em (∃ ds ρ1, fe ρ = .ok (.tup ds) ρ1) with ⟨ds0, ρ0, e0⟩ | key
  · refine .inr (tE.firstE rr w fun d ρ1 v H1 e1 r1 h1 s1 w1 => ?_)
    rw [e0] at e1; cases e1
    obtain ⟨ds, e2, w2⟩ := w1.lift
    cases e2
    cases h1 with
    | tup h2 h3 => exact ⟨_, rfl, ⟨_, h2.sq⟩, w2 _ H1 r1 (src_tup h2 h3) s1⟩
  · refine .inl (tE.firstE rr w fun d ρ1 v H1 e1 r1 h1 s1 w1 => ?_)
    obtain ⟨ds, e2, w2⟩ := w1.lift
    cases d with
    | lst xs =>
      cases e2
      cases h1 with
      | lst h2 h3 => exact ⟨_, rfl, ⟨_, h2.sq⟩, w2 _ H1 r1 (src_list h2 h3) s1⟩
    | tup xs => exact (key ⟨xs, ρ1, e1⟩).elim
    | _ => cases e2
def rng1 : List D → Option (List D)
  | [.int j] => if -1000000000 ≤ j ∧ j ≤ 1000000000 then some (upto 0 j.toNat) else none
  | _ => none
def mIter' (f : List D → Option (List D)) (fl : M (List D)) : M (List D) := M.bind fl fun ds => lift (f ds)
theorem i_range1 (hg : Gl X "range") (hm : X.mg "range" = none) (ha : LV X W fx [e] fl) (hs : starEach [e] X.env = [(false, eval e X.env)] := by rfl) : IV X W fx tg (.Call (.Name "range" p) [e] [] pos) (mIter' rng1 fl) := by
  refine PI.imp (pi_range1 hg hm ha hs) fun σ H R ⟨m₀, ρ, rr, w⟩ => ?_
  refine tL.first rr w fun ds ρ1 vs H1 _ r1 h1 s1 w1 => ?_
  obtain ⟨is, e2, w2⟩ := w1.lift
  unfold rng1 at e2
  split at e2
  · split at e2
    · rename_i hj
      cases e2
      obtain ⟨v, rfl, h2⟩ := rp1 h1
      cases h2
      exact ⟨_, rfl, by omega, by omega, w2 _ H1 r1 (src_range 0 _) s1⟩
    · cases e2
  · cases e2
def zip2 : List D → Option (List D)
  | [.lst xs, .lst ys] => some (pairs xs ys)
  | [.tup xs, .tup ys] => some (pairs xs ys)
  | _ => none
end
end PV
namespace PV
open PySem PySem.Spec PyProof.Rows L2
variable [Tb]
/-! ### for -/
def loopL (g : D → M Unit) (b : M Fl) : List D → M Fl
  | [] => M.ret .nx
  | d :: ds => M.bind (g d) fun _ => M.bind b fun fl => match fl with
    | .nx => loopL g b ds
    | .ct => loopL g b ds
    | .bk => M.ret .nx
    | .rt d => M.ret (.rt d)
    | .ro ds => M.ret (.ro ds)
def mFor (fi : M (List D)) (g : D → M Unit) (b : M Fl) : M Fl := M.bind fi fun ds => loopL g b ds
section
variable {X : Cx} {W : WX} {fx : List Nat} {tg iter : Expr} {body : List Stmt} {fi : M (List D)} {g : D → M Unit} {b : M Fl} {pos : Pos}
theorem s_for (hp : PassesOwn (model X.prog X.w) X.A X.env X.xe) (hc : X.calm = true) (hi : IV X W fx tg iter fi) (hg : GV X W fx tg g) (hb : BV X W fx body b) (hs : ∀ x, foldedSetIterable iter X.env x = pure x := by intro _; rfl) :
    SV X W fx (.For tg iter body [] pos) (mFor fi g b) := by
  refine PS.imp (ps_for hp hc hi hg hb hs) fun E σ H ⟨m₀, ρ, rr, w⟩ => ?_
  refine tI.first rr w fun ds ρ1 J H1 r1 ⟨S, s0, sm, si, se⟩ st1 w1 => ?_
  refine ⟨fun i n σ' H' => n = ds.length - i ∧ i ≤ ds.length ∧ ∃ ρ', Rel m₀ X.K X.mg H' σ' ρ' ∧ Stp σ ρ H σ' ρ' H' ∧ Fx fx σ σ' ∧ S (mm m₀ σ' ρ') H' ∧ Want (ct X W fx) m₀ σ' ρ' H' (fun fl ρ'' => EndOk (ct X W fx) m₀ σ ρ H E ρ'' fl) (loopL g b (ds.drop i) ρ'),
    ⟨ds.length, by simp, Nat.zero_le _, ρ1, r1, st1, .refl, s0, w1⟩, ?_⟩
  rintro i n σ2 H2 ⟨rfl, hi2, ρ2, r2, st2, f2, s2, w2⟩
  by_cases hlt : i < ds.length
  · right
    have ed : ds.drop i = ds[i] :: ds.drop (i + 1) := (List.drop_eq_getElem_cons hlt)
    rw [ed] at w2
    have ei : ds[i]? = some ds[i] := List.getElem?_eq_getElem hlt
    obtain ⟨go, hy⟩ := si i _ H2 _ s2 (fun p hp => r2.new_out hp) ei
    refine ⟨go, fun σ' H' => ∃ ρ', Rel m₀ X.K X.mg H' σ' ρ' ∧ Stp σ ρ H σ' ρ' H' ∧ Fx fx σ σ' ∧ S (mm m₀ σ' ρ') H' ∧ Want (ct X W fx) m₀ σ' ρ' H' (fun fl ρ'' => EndOk (ct X W fx) m₀ σ ρ H E ρ'' fl) (loopL g b (ds.drop (i + 1)) ρ'),
      fun σ' H' h => ⟨ds.length - (i + 1), by omega, rfl, hlt, h⟩, fun x H3 y => ?_⟩
    obtain ⟨k3, h3⟩ := hy x H3 y
    have r3 := r2.grown k3
    have t3 : Stp σ2 ρ2 H2 σ2 ρ2 H3 := .grown k3
    refine ⟨m₀, ρ2, _, r3, h3, ?_⟩
    have w3 := (w2.later t3 .refl).bind
    refine w3.mono fun _ ρ4 _ w4 σ4 H4 r4 st4 f4 => ?_
    refine ⟨m₀, ρ4, r4, ?_⟩
    refine (w4.later st4 f4).bind.mono fun fl ρ5 _ w5 => ?_
    have nxt : ∀ {ρ5 : En}, Want (ct X W fx) m₀ σ4 ρ4 H4 (fun fl ρ'' => EndOk (ct X W fx) m₀ σ ρ H E ρ'' fl) (loopL g b (ds.drop (i + 1)) ρ5) → ∀ σ5 H5, Rel m₀ X.K X.mg H5 σ5 ρ5 → Stp σ4 ρ4 H4 σ5 ρ5 H5 → Fx fx σ4 σ5 →
        ∃ ρ', Rel m₀ X.K X.mg H5 σ5 ρ' ∧ Stp σ ρ H σ5 ρ' H5 ∧ Fx fx σ σ5 ∧ S (mm m₀ σ5 ρ') H5 ∧ Want (ct X W fx) m₀ σ5 ρ' H5 (fun fl ρ'' => EndOk (ct X W fx) m₀ σ ρ H E ρ'' fl) (loopL g b (ds.drop (i + 1)) ρ') := fun {ρ5} w5 σ5 H5 r5 st5 f5 => by
      have t25 : Stp σ2 ρ2 H2 σ5 ρ5 H5 := t3.trans (st4.trans st5)
      refine ⟨ρ5, r5, st2.trans t25, f2.trans (f4.trans f5), sm _ _ _ _ s2 (fun a z => ?_) (fun a o n e => t25.keep a o (fun z => n (.inr z)) e), w5.later st5 f5⟩
      rcases z with z | z
      · exact .inl (.inl z)
      · rcases t25.own a z with y | y
        · exact .inl (.inr y)
        · exact .inr y
    have t24 : Stp σ ρ H σ4 ρ4 H4 := st2.trans (t3.trans st4)
    have f24 : Fx fx σ σ4 := f2.trans f4
    cases fl with
    | nx => exact fun σ5 H5 r5 st5 f5 => nxt w5 σ5 H5 r5 st5 f5
    | ct => exact fun σ5 H5 r5 st5 f5 => nxt w5 σ5 H5 r5 st5 f5
    | bk => exact fun σ5 H5 r5 st5 f5 => EndOk.later (fl := .nx) w5 t24 f24 σ5 H5 r5 st5 f5
    | rt d => exact fun v σ5 H5 r5 h5 st5 f5 => EndOk.later (fl := .rt d) w5 t24 f24 v σ5 H5 r5 h5 st5 f5
    | ro es => exact fun p vs σ5 H5 r5 n5 e5 h5 st5 f5 => EndOk.later (fl := .ro es) w5 t24 f24 p vs σ5 H5 r5 n5 e5 h5 st5 f5
  · left
    have e : i = ds.length := by omega
    subst e
    rw [List.drop_length] at w2
    exact ⟨se _ _ s2, w2 σ2 H2 r2 st2 f2⟩
end
/-! ### while -/
def whileN (t : M Bool) (b : M Fl) : Nat → M Fl
  | 0 => fun _ => .no
  | n + 1 => M.bind t fun c => if c = true then M.bind b fun fl => match fl with
      | .nx => whileN t b n
      | .ct => whileN t b n
      | .bk => M.ret .nx
      | .rt d => M.ret (.rt d)
      | .ro ds => M.ret (.ro ds)
    else M.ret .nx
open Classical in
noncomputable def mWhile (t : M Bool) (b : M Fl) : M Fl := fun ρ => if h : ∃ n, whileN t b n ρ ≠ .no then whileN t b (Classical.choose h) ρ else .no
end PV
namespace PV
open PySem PySem.Spec PyProof.Rows L2
variable [Tb]
/-! ### list comprehensions -/
def wipeE (ρ : En) : List Nat → En
  | [] => ρ
  | v :: vs => (wipeE ρ vs).set v .no
def wipeM (vs : List Nat) : M Unit := fun ρ => if vs.all (fun i => !isOwn ρ i) = true then .ok () (wipeE ρ vs) else .no
def lenM (n : Nat) : M Unit := fun ρ => if ρ.length = n then .ok () ρ else .no
def lcTurn (n : Nat) (vs : List Nat) (g : D → M Unit) (t : M Bool) (f : M D) (d : D) : M (List D) := M.bind (lenM n) fun _ => M.bind (wipeM vs) fun _ => M.bind (g d) fun _ => M.bind (lenM n) fun _ => M.bind t fun b => if b = true then M.bind f fun y => M.ret [y] else M.ret []
def lcL (n : Nat) (vs : List Nat) (g : D → M Unit) (t : M Bool) (f : M D) : List D → M (List D)
  | [] => M.ret []
  | d :: ds => M.bind (lcTurn n vs g t f d) fun ys => M.bind (lcL n vs g t f ds) fun zs => M.ret (ys ++ zs)
def noEr {α : Type} (x : M α) : M α := fun ρ => match x ρ with
  | .ok a ρ' => .ok a ρ'
  | _ => .no
def mLc (n : Nat) (vs : List Nat) (fi : M (List D)) (g : D → M Unit) (t : M Bool) (f : M D) : M (List D) := M.bind fi fun ds => noEr (M.bind (lenM n) fun _ => if ds.length ≤ 100000 then M.bind (lcL n vs g t f ds) fun ys => M.bind (lenM n) fun _ => M.bind (wipeM vs) fun _ => M.ret ys else fun _ => .no)
theorem bind_inv {α β : Type} {x : M α} {f : α → M β} {ρ ρ' : En} {b : β} (h : M.bind x f ρ = .ok b ρ') : ∃ a ρ1, x ρ = .ok a ρ1 ∧ f a ρ1 = .ok b ρ' := by
  unfold M.bind at h
  cases q : x ρ with
  | no => rw [q] at h; cases h
  | er y ρ1 => rw [q] at h; cases h
  | ok a ρ1 => rw [q] at h; exact ⟨a, ρ1, rfl, h⟩
theorem lenM_inv {n : Nat} {u : Unit} {ρ ρ' : En} (h : lenM n ρ = .ok u ρ') : ρ.length = n ∧ ρ = ρ' := by
  unfold lenM at h
  split at h
  · rename_i e; cases h; exact ⟨e, rfl⟩
  · cases h
theorem noEr_inv {α : Type} {c : Ct} {m₀ : Addr → Prop} {σ : L2.St} {ρ : En} {H : Hp} {S : α → En → Prop} {x : M α} (w : Want c m₀ σ ρ H S (noEr x ρ)) : ∃ a ρ', x ρ = .ok a ρ' ∧ S a ρ' := by
  unfold noEr at w
  cases q : x ρ with
  | no => rw [q] at w; exact w.elim
  | er y ρ1 => rw [q] at w; exact w.elim
  | ok a ρ1 => rw [q] at w; exact ⟨a, ρ1, rfl, w⟩
section
variable {m₀ : Addr → Prop} {K : PySem.W.Frag} {g : Str → Option Value} {H H' : Hp} {σ σ1 : L2.St} {ρ ρ' : En} {i : Nat} {x : Option V} {D0 : Addr} {vs : List Nat}
theorem own_forget (h : isOwn ρ i = false) (a : Addr) : Own (σ.set i x) (ρ.set i .no) a ↔ Own σ ρ a := by
  constructor
  · rintro ⟨k, fs, e1, e2⟩
    by_cases hk : k = i
    · subst hk
      by_cases hl : k < ρ.length
      · rw [List.getElem?_set_self hl] at e1; cases e1
      · rw [List.getElem?_eq_none (by simpa using hl)] at e1; cases e1
    · rw [List.getElem?_set_ne (Ne.symm hk)] at e1 e2; exact ⟨k, fs, e1, e2⟩
  · rintro ⟨k, fs, e1, e2⟩
    by_cases hk : k = i
    · subst hk; unfold isOwn at h; rw [e1] at h; cases h
    · exact ⟨k, fs, by rw [List.getElem?_set_ne (Ne.symm hk)]; exact e1, by rw [List.getElem?_set_ne (Ne.symm hk)]; exact e2⟩
theorem Rel.forget (r : Rel m₀ K g H σ ρ) (h : isOwn ρ i = false) : Rel m₀ K g H (σ.set i x) (ρ.set i .no) := by
  have em : mm m₀ (σ.set i x) (ρ.set i .no) = mm m₀ σ ρ := mm_congr (own_forget h)
  have ne : ∀ {k : Nat} {s : Sl}, s ≠ .no → (ρ.set i .no)[k]? = some s → k ≠ i ∧ ρ[k]? = some s := fun {k s} n q => by
    by_cases hk : k = i
    · subst hk
      by_cases hl : k < ρ.length
      · rw [List.getElem?_set_self hl] at q; exact absurd (Option.some.inj q).symm n
      · rw [List.getElem?_eq_none (by simpa using hl)] at q; cases q
    · rw [List.getElem?_set_ne (Ne.symm hk)] at q; exact ⟨hk, q⟩
  refine ⟨by rw [List.length_set, List.length_set]; exact r.len, r.dom, fun j e q => ?_, fun j es q => ?_, fun j k es fs p q1 q2 q3 q4 => ?_, r.tab⟩
  · obtain ⟨hj, q⟩ := ne (by simp) q
    obtain ⟨w, h1, h2⟩ := r.val j e q
    exact ⟨w, by rw [List.getElem?_set_ne (Ne.symm hj)]; exact h1, by rw [em]; exact h2⟩
  · obtain ⟨hj, q⟩ := ne (by simp) q
    obtain ⟨p, ws, h1, h2, h3, h4⟩ := r.own j es q
    exact ⟨p, ws, by rw [List.getElem?_set_ne (Ne.symm hj)]; exact h1, h2, h3, by rw [em]; exact h4⟩
  · obtain ⟨hj, q1⟩ := ne (by simp) q1
    obtain ⟨hk, q2⟩ := ne (by simp) q2
    rw [List.getElem?_set_ne (Ne.symm hj)] at q3
    rw [List.getElem?_set_ne (Ne.symm hk)] at q4
    exact r.inj j k es fs p q1 q2 q3 q4
theorem isOwn_set {j : Nat} (h : isOwn ρ j = false) : isOwn (ρ.set i .no) j = false := by
  unfold isOwn at h ⊢
  by_cases hk : j = i
  · subst hk
    by_cases hl : j < ρ.length
    · rw [List.getElem?_set_self hl]
    · rw [List.getElem?_eq_none (by simpa using hl)]
  · rw [List.getElem?_set_ne (Ne.symm hk)]; exact h
theorem isOwn_wipe {j : Nat} (h : isOwn ρ j = false) : ∀ vs : List Nat, isOwn (wipeE ρ vs) j = false
  | [] => h
  | v :: vs => isOwn_set (isOwn_wipe h vs)
theorem Rel.wiped (r : Rel m₀ K g H σ ρ) : ∀ vs : List Nat, (vs.all fun i => !isOwn ρ i) = true → Rel m₀ K g H (wipe σ vs) (wipeE ρ vs) ∧ ∀ a, Own (wipe σ vs) (wipeE ρ vs) a ↔ Own σ ρ a
  | [], _ => ⟨r, fun _ => Iff.rfl⟩
  | v :: vs, h => by
    rw [List.all_cons, Bool.and_eq_true] at h
    obtain ⟨r1, o1⟩ := Rel.wiped r vs h.2
    have nv : isOwn (wipeE ρ vs) v = false := isOwn_wipe (by simpa using h.1) vs
    exact ⟨r1.forget nv, fun a => (own_forget nv a).trans (o1 a)⟩
theorem wipeE_no : ∀ {vs : List Nat} {j : Nat} {s : Sl}, j ∈ vs → (wipeE ρ vs)[j]? = some s → s = .no
  | [], _, _, h, _ => by cases h
  | v :: vs, j, s, h, e => by
    have e' : ((wipeE ρ vs).set v .no)[j]? = some s := e
    by_cases hj : j = v
    · subst hj
      by_cases hl : j < (wipeE ρ vs).length
      · rw [List.getElem?_set_self hl] at e'; exact (Option.some.inj e').symm
      · rw [List.getElem?_eq_none (by simpa using hl)] at e'; cases e'
    · rw [List.getElem?_set_ne (Ne.symm hj)] at e'
      exact wipeE_no ((List.mem_cons.mp h).resolve_left hj) e'
theorem wipeE_length : ∀ vs : List Nat, (wipeE ρ vs).length = ρ.length
  | [] => rfl
  | v :: vs => by show ((wipeE ρ vs).set v .no).length = _; rw [List.length_set, wipeE_length vs]
/-- the slots that say nothing may hold anything -/
theorem Rel.cong (r : Rel m₀ K g H σ1 ρ) (hl : σ.length = ρ.length) (h : ∀ (j : Nat) (s : Sl), ρ[j]? = some s → s ≠ .no → σ[j]? = σ1[j]?) : Rel m₀ K g H σ ρ ∧ ∀ a, Own σ ρ a ↔ Own σ1 ρ a := by
  have o : ∀ a, Own σ ρ a ↔ Own σ1 ρ a := fun a => by
    constructor
    · rintro ⟨k, fs, e1, e2⟩; exact ⟨k, fs, e1, by rw [← h k _ e1 (by simp)]; exact e2⟩
    · rintro ⟨k, fs, e1, e2⟩; exact ⟨k, fs, e1, by rw [h k _ e1 (by simp)]; exact e2⟩
  have em : mm m₀ σ ρ = mm m₀ σ1 ρ := mm_congr o
  refine ⟨⟨hl, r.dom, fun j e q => ?_, fun j es q => ?_, fun j k es fs p q1 q2 q3 q4 => ?_, r.tab⟩, o⟩
  · obtain ⟨w, h1, h2⟩ := r.val j e q
    exact ⟨w, by rw [h j _ q (by simp)]; exact h1, by rw [em]; exact h2⟩
  · obtain ⟨p, ws, h1, h2, h3, h4⟩ := r.own j es q
    exact ⟨p, ws, by rw [h j _ q (by simp)]; exact h1, h2, h3, by rw [em]; exact h4⟩
  · rw [h j _ q1 (by simp)] at q3
    rw [h k _ q2 (by simp)] at q4
    exact r.inj j k es fs p q1 q2 q3 q4
/-- what is in m₀ may be written -/
theorem Rel.updOut {o : HO} {zs : List V} (r : Rel m₀ K g H σ ρ) (hd : m₀ D0) (hl : H D0 = some (.lst zs)) : Rel m₀ K g (upd H D0 o) σ ρ ∧ Kp (mm m₀ σ ρ) H (upd H D0 o) := by
  have kp : Kp (mm m₀ σ ρ) H (upd H D0 o) := fun a u n e _ => by
    rw [upd_ne (fun z => n (by rw [z]; exact .inl hd))]; exact e
  refine ⟨⟨r.len, fun a z => ?_, fun j e q => ?_, fun j es q => ?_, r.inj, tabs_upd r.tab hl (by simp) (by simp)⟩, kp⟩
  · by_cases y : a = D0
    · rw [y, upd_same]; simp
    · rw [upd_ne y]; exact r.dom a z
  · obtain ⟨w, h1, h2⟩ := r.val j e q
    exact ⟨w, h1, Rp.mono Sub'.refl kp _ _ h2⟩
  · obtain ⟨p, ws, h1, h2, h3, h4⟩ := r.own j es q
    refine ⟨p, ws, h1, h2, ?_, RpA.mono Sub'.refl kp _ _ h4⟩
    rw [upd_ne (fun z => h2 (by rw [z]; exact hd))]; exact h3
theorem Stp.updNew {H1 : Hp} {σ0 : L2.St} {ρ0 : En} {o : HO} (s : Stp σ0 ρ0 H1 σ ρ H) (n : H1 D0 = none) : Stp σ0 ρ0 H1 σ ρ (upd H D0 o) := by
  refine ⟨fun a u m e t => ?_, fun a m => ?_, s.own⟩
  · rw [upd_ne (ne_of_none e n)]; exact s.keep a u m e t
  · by_cases y : a = D0
    · rw [y, upd_same]; simp
    · rw [upd_ne y]; exact s.grow a m
theorem Stp.same {σ' : L2.St} (o : ∀ a, Own σ' ρ' a ↔ Own σ ρ a) : Stp σ ρ H σ' ρ' H := ⟨Kp.refl, fun _ h => h, fun a z => .inl ((o a).mp z)⟩
end
abbrev W0 : WX := fun _ _ _ _ => False
theorem lc_imp {K : PySem.W.Frag} {mg : Str → Option Value} {W : WX} {fx fx' vs : List Nat} {n : Nat} {fi : M (List D)} {g : D → M Unit} {t : M Bool} {f : M D} {σ : L2.St} {H : Hp} {Q : VK}
    (hfx : ∀ j, j < n → j ∉ vs → j ∈ fx') (h : tN ⟨K, mg, W, fx⟩ (mLc n vs fi g t f) σ H Q) : tLc (tI ⟨K, mg, W, fx⟩ fi) (tG ⟨K, mg, W0, fx'⟩ g) (tT ⟨K, mg, W0, fx'⟩ t) (tE ⟨K, mg, W0, fx'⟩ f) vs σ H Q := by
  obtain ⟨m₀, ρ, rr, w⟩ := h
  refine tI.first rr w fun ds ρ1 J H1 r1 ⟨S, s0, sm, si, se⟩ st1 w1 D0 hD => ?_
  obtain ⟨ys, ρe, e1, fin⟩ := noEr_inv w1
  obtain ⟨_, ρ1', e2, e3⟩ := bind_inv e1
  unfold lenM at e2
  split at e2
  · rename_i hn
    cases e2
    split at e3
    · rename_i hz
      obtain ⟨zs, ρ2, e4, e5⟩ := bind_inv e3
      obtain ⟨_, ρ3', e8, e9⟩ := bind_inv e5
      obtain ⟨hne, rfl⟩ := lenM_inv e8
      obtain ⟨_, ρ3, e6, e7⟩ := bind_inv e9
      cases e7
      unfold wipeM at e6
      split at e6
      · rename_i hw
        cases e6
        have nm : ¬ m₀ D0 := fun z => r1.dom D0 z hD
        -- the state between two turns
        refine ⟨fun i k H' => k = ds.length - i ∧ i ≤ ds.length ∧ ∃ σi ρi acc av, wipe σi vs = wipe σ vs ∧ Rel (mp m₀ D0) K mg H' σi ρi ∧ Stp σ ρ1 H1 σi ρi H' ∧ S (mm (mp m₀ D0) σi ρi) H' ∧ H' D0 = some (.lst av) ∧ RpA (mm (mp m₀ D0) σi ρi) K mg H' av acc ∧ acc.length ≤ i ∧
            ∃ rest, lcL n vs g t f (ds.drop i) ρi = .ok rest ρ2 ∧ acc ++ rest = ys, ⟨ds.length, by simp, Nat.zero_le _, σ, ρ1, [], [], rfl, r1.add hD, Stp.grown (keep_new hD), ?_, upd_same, .nil, Nat.le_refl _, ys, e4, rfl⟩, ?_⟩
        · exact sm _ _ _ _ s0 (fun a z => by
            rcases z with (z | z) | z
            · exact .inl (.inl z)
            · rw [z]; exact .inr hD
            · exact .inl (.inr z)) (fun a o m e _ => keep_new hD a o e)
        · rintro i k H2 ⟨rfl, hi, σi, ρi, acc, av, ws, r2, st2, s2, hav, ra, hal, rest, el, eacc⟩
          by_cases hlt : i < ds.length
          · right
            have ed : ds.drop i = ds[i] :: ds.drop (i + 1) := (List.drop_eq_getElem_cons hlt)
            rw [ed] at el
            obtain ⟨y0, ρ4, t1, t2⟩ := bind_inv el
            obtain ⟨z0, ρ5, t3, t4⟩ := bind_inv t2
            cases t4
            obtain ⟨_, ρ6', u0, t5⟩ := bind_inv t1
            obtain ⟨hn2, rfl⟩ := lenM_inv u0
            obtain ⟨_, ρ6, u1, u2⟩ := bind_inv t5
            unfold wipeM at u1
            split at u1
            · rename_i hw2
              cases u1
              obtain ⟨_, ρ7, u3, u4⟩ := bind_inv u2
              obtain ⟨_, ρ8, u5, u6⟩ := bind_inv u4
              unfold lenM at u5
              split at u5
              · rename_i hn3
                cases u5
                obtain ⟨b, ρ9, u7, u8⟩ := bind_inv u6
                have ei : ds[i]? = some ds[i] := List.getElem?_eq_getElem hlt
                obtain ⟨go, hy⟩ := si i _ H2 _ s2 (fun p hp => r2.new_out hp) ei
                refine ⟨go, fun H' => ∃ σi ρi acc av, wipe σi vs = wipe σ vs ∧ Rel (mp m₀ D0) K mg H' σi ρi ∧ Stp σ ρ1 H1 σi ρi H' ∧ S (mm (mp m₀ D0) σi ρi) H' ∧ H' D0 = some (.lst av) ∧ RpA (mm (mp m₀ D0) σi ρi) K mg H' av acc ∧ acc.length ≤ i + 1 ∧
                    ∃ rest, lcL n vs g t f (ds.drop (i + 1)) ρi = .ok rest ρ2 ∧ acc ++ rest = ys, fun H' h => ⟨ds.length - (i + 1), by omega, rfl, hlt, h⟩, fun x H3 yl => ?_⟩
                obtain ⟨k3, h3⟩ := hy x H3 yl
                obtain ⟨rw', ow⟩ := r2.wiped vs hw2
                rw [ws] at rw' ow
                have em : mm (mp m₀ D0) (wipe σ vs) (wipeE ρi vs) = mm (mp m₀ D0) σi ρi := mm_congr ow
                have r3 := rw'.grown k3
                refine ⟨mp m₀ D0, wipeE ρi vs, _, r3, by rw [em]; exact h3, ?_⟩
                rw [u3]
                intro σ4 H4 r4 st4 f4
                have hl4 : σ4.length = (wipe σ vs).length := by
                  rw [r4.len, hn3, rw'.len, wipeE_length, hn2]
                have wv : wipe σ4 vs = wipe σ vs := by
                  refine List.ext_getElem? fun j => ?_
                  by_cases hj : j ∈ vs
                  · have a1 : ∀ (τ : L2.St), τ.length = n → j < n → (wipe τ vs)[j]? = some none := fun τ hτ hjn => by
                      cases q : (wipe τ vs)[j]? with
                      | none => rw [List.getElem?_eq_none_iff, wipe_length, hτ] at q; omega
                      | some s =>
                        cases s with
                        | none => rfl
                        | some v => exact absurd hj (wipe_some q).2
                    have ln4 : σ4.length = n := by rw [r4.len]; exact hn3
                    have ln : σ.length = n := by rw [r1.len]; exact hn
                    by_cases hjn : j < n
                    · rw [a1 _ ln4 hjn, a1 _ ln hjn]
                    · rw [List.getElem?_eq_none (by rw [wipe_length, ln4]; omega), List.getElem?_eq_none (by rw [wipe_length, ln]; omega)]
                  · rw [wipe_out hj, wipe_out hj]
                    by_cases hjn : j < n
                    · rw [f4 j (hfx j hjn hj), wipe_out hj]
                    · have ln4 : σ4.length = n := by rw [r4.len]; exact hn3
                      have ln : σ.length = n := by rw [r1.len]; exact hn
                      rw [List.getElem?_eq_none (by omega), List.getElem?_eq_none (by omega)]
                refine ⟨wv, mp m₀ D0, ρ7, r4, ?_⟩
                rw [u7]
                intro H5 r5 st5
                -- the steps since the turn began
                have q1 : Stp σi ρi H2 (wipe σ vs) (wipeE ρi vs) H2 := Stp.same ow
                have q2 : Stp σi ρi H2 σ4 ρ9 H5 := q1.trans ((Stp.grown k3).trans (st4.trans st5))
                have nD : ∀ {τ : L2.St} {π : En} {G : Hp}, Rel (mp m₀ D0) K mg G τ π → ¬ Own τ π D0 := fun {τ π G} rl ⟨j, es, e1, e2⟩ => by
                  obtain ⟨p, _, h1, h2, _, _⟩ := rl.own j es e1
                  rw [e2] at h1; cases h1
                  exact h2 (.inr rfl)
                have ext : ∀ {ρ10 : En} {H6 : Hp} {G : Hp} {a2 : List D} {v2 : List V}, Rel (mp m₀ D0) K mg H6 σ4 ρ10 → Stp σi ρi H2 σ4 ρ10 H6 → (G = H6 ∧ v2 = av ∨ ∃ o, G = upd H6 D0 o ∧ o = .lst v2) → RpA (mm (mp m₀ D0) σ4 ρ10) K mg G v2 a2 → a2.length ≤ i + 1 →
                    (∃ rest, lcL n vs g t f (ds.drop (i + 1)) ρ10 = .ok rest ρ2 ∧ a2 ++ rest = ys) → ∃ σi ρi acc av, wipe σi vs = wipe σ vs ∧ Rel (mp m₀ D0) K mg G σi ρi ∧ Stp σ ρ1 H1 σi ρi G ∧ S (mm (mp m₀ D0) σi ρi) G ∧ G D0 = some (.lst av) ∧ RpA (mm (mp m₀ D0) σi ρi) K mg G av acc ∧ acc.length ≤ i + 1 ∧
                    ∃ rest, lcL n vs g t f (ds.drop (i + 1)) ρi = .ok rest ρ2 ∧ acc ++ rest = ys := fun {ρ10 H6 G a2 v2} r6 st6 hG rp6 hal6 hr6 => by
                  have s6 : S (mm (mp m₀ D0) σ4 ρ10) H6 := sm _ _ _ _ s2 (fun a z => by
                    rcases z with z | z
                    · exact .inl (.inl z)
                    · rcases st6.own a z with y | y
                      · exact .inl (.inr y)
                      · exact .inr y) (fun a o m e t => st6.keep a o (fun z => m (.inr z)) e t)
                  have t6 := st2.trans st6
                  have d6 : H6 D0 = some (.lst av) := st6.keep D0 _ (nD r2) hav (by simp)
                  rcases hG with ⟨rfl, rfl⟩ | ⟨o, rfl, rfl⟩
                  · exact ⟨σ4, ρ10, a2, v2, wv, r6, t6, s6, d6, rp6, hal6, hr6⟩
                  · obtain ⟨r7, k7⟩ := r6.updOut (o := .lst v2) (D0 := D0) (.inr rfl) d6
                    exact ⟨σ4, ρ10, a2, v2, wv, r7, t6.updNew hD, sm _ _ _ _ s6 Sub'.refl k7, upd_same, rp6, hal6, hr6⟩
                have ra5 := q2.rpA r2 ra
                cases b with
                | false =>
                  rw [if_neg Bool.false_ne_true] at u8 ⊢
                  cases u8
                  exact ext r5 q2 (.inl ⟨rfl, rfl⟩) ra5 (by omega) ⟨z0, t3, eacc⟩
                | true =>
                  rw [if_pos rfl] at u8 ⊢
                  obtain ⟨yv, ρ10, u9, u10⟩ := bind_inv u8
                  cases u10
                  refine ⟨mp m₀ D0, ρ9, r5, ?_⟩
                  rw [u9]
                  intro y H6 r6 hy6 st6
                  have q3 : Stp _ _ H2 σ4 ρ4 H6 := q2.trans st6
                  have hD6 : H6 D0 = some (.lst av) := q3.keep D0 _ (nD r2) hav (by simp)
                  have ra6 := q3.rpA r2 ra
                  obtain ⟨r7, k7⟩ := r6.updOut (o := .lst (av ++ [y])) (D0 := D0) (.inr rfl) hD6
                  refine ⟨av, hD6, ?_, ext r6 q3 (.inr ⟨_, rfl, rfl⟩) (RpA.mono Sub'.refl k7 _ _ (ra6.append (.cons hy6 .nil))) (by simp; omega) ⟨z0, t3, by rw [List.append_assoc]; exact eacc⟩⟩
                  rw [ra.length]
                  exact Nat.lt_of_le_of_lt (by omega : acc.length ≤ 100000) (by decide)
              · cases u5
            · cases u1
          · left
            have e : i = ds.length := by omega
            subst e
            rw [List.drop_length] at el
            have el' : (R.ok [] ρi : R (List D)) = .ok rest ρ2 := el
            cases el'
            rw [List.append_nil] at eacc
            subst eacc
            refine ⟨se _ _ s2, ?_⟩
            obtain ⟨rw', ow⟩ := r2.wiped vs hw
            rw [ws] at rw' ow
            obtain ⟨r9, o9⟩ := Rel.cong (σ := σ) rw' (by rw [wipeE_length, hne, r1.len]; exact hn) fun j s q ns => by
              by_cases hj : j ∈ vs
              · exact absurd (wipeE_no hj q) ns
              · rw [wipe_out hj]
            have ot : ∀ a, Own σ (wipeE _ vs) a ↔ Own σi _ a := fun a => (o9 a).trans (ow a)
            refine fin D0 av H2 r9 (st1.back hD) hav ?_ (st1.trans (st2.trans (Stp.same ot)))
            rw [mm_congr ot]; exact ra
      · cases e6
    · cases e3
  · cases e2
end PV
namespace PV
open PySem PySem.Spec PyProof.Rows L2
variable [Tb]
/-! ### comprehensions as expressions and statements -/
abbrev IfV (X : Cx) (W : WX) (fx : List Nat) (ifs : List Expr) (t : M Bool) : Prop := PTs X ifs (tT (ct X W fx) t)
section
variable {X : Cx} {W : WX} {fx fx' : List Nat} {e : Expr} {t : M Bool} {fi : M (List D)} {g : D → M Unit} {f : M D} {elt tg iter : Expr} {ifs : List Expr} {scope : Scope} {own : List (Str × Nat)} {pos spos py : Pos} {n i : Nat} {y : Str}
theorem PTs.imp {t t' : TT} (h : PTs X ifs t) (i : ∀ σ H Q, t' σ H Q → t σ H Q) : PTs X ifs t' := ⟨fun pins s σ H Q I w => h.run pins s σ H Q I (i σ H Q w)⟩
theorem if_nil : IfV X W fx [] (M.ret true) := PTs.imp pts_nil fun σ H Q ⟨m₀, ρ, rr, w⟩ => w H rr .refl
theorem if_one (h : TV X W fx e t) : IfV X W fx [e] t := pts_one h
abbrev Blk (X : Cx) (scope : Scope) (p : Cx → Prop) : Prop := ∀ (s : Shared) (H : Hp) (C : Addr) (cl : List (Str × Addr)) (fp : List Addr), p (X.blk s H scope (compEnvC scope cl C X.env) fp)
theorem n_lc (hc : X.calm = true) (hN : X.N.Nodup) (hi : IV X W fx tg iter fi) (ok : BlkOk X.N X.env.scope scope own) (hg : Blk X scope fun Y => GV Y W0 fx' tg g) (ht : Blk X scope fun Y => IfV Y W0 fx' ifs t) (he : Blk X scope fun Y => EV Y W0 fx' elt f)
    (hfx : ∀ j, j < n → j ∉ own.map (·.2) → j ∈ fx') (hs : ∀ x, foldedSetIterable iter X.env x = pure x := by intro _; rfl) : NV X W fx (.ListComp elt [⟨tg, iter, ifs, 0⟩] scope pos) (mLc n (own.map (·.2)) fi g t f) :=
  PE.imp (pe_lc hc hN hi ok hg ht he hs) fun σ H Q h => lc_imp hfx h
end
/-! ### defs -/
/-- a def of the text: called where nothing is being shown by repr, it keeps its promise -/
structure FnG (P : Program) (w : World) (K : PySem.W.Frag) (mg : Str → Option Value) (base : Heap) (k : Nat) (f : Addr) (fd : FuncData) (ps : List Str) (sp : Sp) : Prop where
  len : ∀ vs H Q E, sp vs H Q E → vs.length = ps.length
  run : ∀ (A : Around) (outer : List PySem.Env) (s : Shared) (H : Hp) (args : Args) (us : List Value) (vs : List V) (Q : VK) (E : XK), Room k A → A.guards = some [] → Env0 P w K mg base A outer s H → BindsTo s fd args (ps.zip us) → Vals vs us →
    sp vs H Q E → codeAny (model P w) A (.call (.ref f) args) (CR (L2.CX P w) outer P w H s Q E) s
section
variable {X : Cx} {W : WX} {fx : List Nat} {k : Nat} {f : Addr} {fd : FuncData} {ps ks : List Str} {sp : Sp} {x : Str} {p pos : Pos} {e : Expr} {es : List Expr} {kws : List Keyword} {t tk : TA} {g : List Value → List Value → List Value} {gV : List V → List V → List V}
theorem run_G {pins : List (Addr × Obj)} {σ : L2.St} {H : Hp} {s : Shared} {Q : VK} {E : XK} {args : Args} {us : List Value} {vs : List V} (F : FnG X.prog X.w X.K X.mg X.base k f fd ps sp) (hr : Room k X.A) (hgd : X.A.guards = some []) (hx : ∀ (e : Value) (s' : Shared), L2.CX X.prog X.w X.stack H s E e s' → X.xe e s')
    (hb : BindsTo s fd args (ps.zip us)) (I : Inv X pins σ H s) (r : Vals vs us) (h : sp vs H Q E) : wpAny (model X.prog X.w) X.A (call (.ref f) args.pos args.kw) (EP X pins σ Q) X.xe s := by
  refine wpAny_call (codeAny_mono (F.run X.A X.stack s H args us vs Q E hr hgd I.env0 hb r h) fun r s' hq => ?_)
  cases r with
  | error e => exact hx e s' hq
  | ok fl =>
    cases fl with
    | ret u => exact I.after hq
    | next => exact False.elim hq
    | brk => exact False.elim hq
    | cont => exact False.elim hq
end
end PV
namespace PV
open PySem PySem.Spec PyProof.Rows L2
variable [Tb]
section
variable {X : Cx} {W : WX} {fx : List Nat} {k : Nat} {f : Addr} {fd : FuncData} {ps ks : List Str} {sp : Sp} {x : Str} {p pos : Pos} {e : Expr} {es : List Expr} {kws : List Keyword} {t tk : TA} {g : List Value → List Value → List Value} {gV : List V → List V → List V}
theorem out_ok {pins : List (Addr × Obj)} {σ : L2.St} {H : Hp} {s : Shared} (tw : Takes X W) (I : Inv X pins σ H s) : ∀ (e : Value) (s' : Shared), L2.CX X.prog X.w X.stack H s (WE W σ) e s' → X.xe e s' := fun e s' c => tw e s' (XE.of_call I (fun _ _ _ h => h) c)
theorem pe_callG (F : FnG X.prog X.w X.K X.mg X.base k f fd ps sp) (hr : Room k X.A) (hgd : X.A.guards = some []) (hg : Gl X x) (hm : X.mg x = some (.ref f)) (hk : PySem.W.keepIn X.K (.ref f) = true) (hb : Binds X.K fd ps []) (tw : Takes X W)
    (ha : PA X (e :: es) t) (hdb : (x == ("__debug__" : Str)) = false := by decide) (he : starEach (e :: es) X.env = (false, eval e X.env) :: starEach es X.env := by rfl) (hpl : (backTo pos (starEach es X.env)).any (·.1) = false := by rfl) :
    PE X (.Call (.Name x p) (e :: es) [] pos) (tCallS sp (WE W) t) := by
  refine ⟨fun pins s σ H Q I h => ?_⟩
  refine wpAny_Call_Name_kw (ld_glob I hg hm ?_ hdb)
  refine PySem.W.callWith_K (h₀ := X.base) I.ok.mod.kin hk (thn (ha.run pos pins s σ H _ I h) fun us s1 ⟨vs, H1, I1, r, q⟩ => ⟨I1.kIn, ?_⟩) he hpl
  have hl : us.length = ps.length := by rw [← r.length]; exact F.len _ _ _ _ q
  have b := hb s1 us I1.kIn (by rw [List.append_nil]; exact hl)
  rw [List.append_nil] at b
  exact run_G (args := ⟨us, []⟩) F hr hgd (out_ok tw I1) b I1 r q
end
/-! ### promises by mirrors -/
def OkD (K : PySem.W.Frag) (mg : Str → Option Value) (m₀ : Addr → Prop) (σ : L2.St) (ρ : En) (H : Hp) (Q : VK) (E : XK) : R D → Prop
  | .no => False
  | .er x ρ' => ∀ cl d H', Rel m₀ K mg H' σ ρ' → Stp σ ρ H σ ρ' H' → ExR (mm m₀ σ ρ') K mg H' cl d x → E cl d H'
  | .ok d ρ' => ∀ v H', Rel m₀ K mg H' σ ρ' → Rp (mm m₀ σ ρ') K mg H' v d → Stp σ ρ H σ ρ' H' → Q v H'
/-- a def that hands back a datum -/
def spD (K : PySem.W.Frag) (mg : Str → Option Value) (n : Nat) (F : M D) : Sp := fun vs H Q E => vs.length = n ∧ ∃ m₀ ρ, Rel m₀ K mg H (vs.map some) ρ ∧ OkD K mg m₀ (vs.map some) ρ H Q E (F ρ)
def OkN (K : PySem.W.Frag) (mg : Str → Option Value) (m₀ : Addr → Prop) (σ : L2.St) (ρ : En) (H : Hp) (Q : VK) : R (List D) → Prop
  | .no => False
  | .er _ _ => False
  | .ok ds ρ' => ∀ p us H', Rel (mp m₀ p) K mg H' σ ρ' → H p = none → H' p = some (.lst us) → RpA (mm (mp m₀ p) σ ρ') K mg H' us ds → Stp σ ρ H σ ρ' H' → Q (.ref p) H'
/-- a def that hands back a new list -/
def spN (K : PySem.W.Frag) (mg : Str → Option Value) (n : Nat) (F : M (List D)) : Sp := fun vs H Q E => vs.length = n ∧ ∃ m₀ ρ, Rel m₀ K mg H (vs.map some) ρ ∧ OkN K mg m₀ (vs.map some) ρ H Q (F ρ)
/-- a def's own slots at its end -/
def finE : En → En → Option En
  | [], _ => some []
  | .own _ :: ρ, .own ds :: ρ' => (finE ρ ρ').map (.own ds :: ·)
  | .own _ :: _, _ => none
  | .val d :: ρ, _ :: ρ' => (finE ρ ρ').map (.val d :: ·)
  | .no :: ρ, _ :: ρ' => (finE ρ ρ').map (.no :: ·)
  | .val _ :: _, [] => none
  | .no :: _, [] => none
theorem finE_ok : ∀ {ρ ρ' r : En}, finE ρ ρ' = some r → r.length = ρ.length ∧ ∀ (i : Nat) (s : Sl), r[i]? = some s → (∃ ds ds', ρ[i]? = some (.own ds) ∧ ρ'[i]? = some (.own ds') ∧ s = .own ds') ∨ (ρ[i]? = some s ∧ ∀ ds, s ≠ .own ds)
  | [], _, r, h => by cases h; exact ⟨rfl, fun i s e => by simp at e⟩
  | s0 :: ρ, ρ', r, h => by
    have step : ∀ {s1 s2 : Sl} {π : En}, ((finE ρ π).map (s2 :: ·) = some r) → ((∃ ds ds', s0 = .own ds ∧ s1 = .own ds' ∧ s2 = .own ds') ∨ (s0 = s2 ∧ ∀ ds, s2 ≠ .own ds)) → ρ' = s1 :: π →
        r.length = (s0 :: ρ).length ∧ ∀ (i : Nat) (s : Sl), r[i]? = some s → (∃ ds ds', (s0 :: ρ)[i]? = some (.own ds) ∧ ρ'[i]? = some (.own ds') ∧ s = .own ds') ∨ ((s0 :: ρ)[i]? = some s ∧ ∀ ds, s ≠ .own ds) := fun {s1 s2 π} e c e' => by
      obtain ⟨r', e1, e2⟩ := Option.map_eq_some_iff.mp e
      subst e2; subst e'
      obtain ⟨h1, h2⟩ := finE_ok e1
      refine ⟨by rw [List.length_cons, List.length_cons, h1], fun i s q => ?_⟩
      cases i with
      | zero =>
        simp at q; subst q
        rcases c with ⟨ds, ds', rfl, rfl, rfl⟩ | ⟨rfl, c⟩
        · exact .inl ⟨ds, ds', rfl, rfl, rfl⟩
        · exact .inr ⟨rfl, c⟩
      | succ i => exact h2 i s (by simpa using q)
    cases s0 with
    | own ds =>
      cases ρ' with
      | nil => cases h
      | cons s1 π =>
        cases s1 with
        | own ds' => exact step (s1 := .own ds') h (.inl ⟨ds, ds', rfl, rfl, rfl⟩) rfl
        | val d => cases h
        | no => cases h
    | val d =>
      cases ρ' with
      | nil => cases h
      | cons s1 π => exact step (s1 := s1) h (.inr ⟨rfl, by simp⟩) rfl
    | no =>
      cases ρ' with
      | nil => cases h
      | cons s1 π => exact step (s1 := s1) h (.inr ⟨rfl, by simp⟩) rfl
/-- what is owned at the entry stands at fx -/
def ownsIn (fx : List Nat) (ρ : En) : Bool := (List.range ρ.length).all fun i => !isOwn ρ i || decide (i ∈ fx)
theorem ownsIn_ok {fx : List Nat} {ρ : En} (h : ownsIn fx ρ = true) {i : Nat} {ds : List D} (e : ρ[i]? = some (.own ds)) : i ∈ fx := by
  unfold ownsIn at h
  rw [List.all_eq_true] at h
  have h2 := h i (List.mem_range.mpr (List.getElem?_eq_some_iff.mp e).1)
  unfold isOwn at h2
  rw [e] at h2
  simpa using h2
def fnEnd {α : Type} (ρ : En) (r : R α) : R α := match r with
  | .no => .no
  | .er x ρ' => match finE ρ ρ' with
    | some q => .er x q
    | none => .no
  | .ok a ρ' => match finE ρ ρ' with
    | some q => .ok a q
    | none => .no
def asRet (f : M Fl) : M D := M.bind f fun fl => match fl with
  | .rt d => M.ret d
  | .nx => M.ret .non
  | _ => fun _ => .no
def asRetO (f : M Fl) : M (List D) := M.bind f fun fl => match fl with
  | .ro ds => M.ret ds
  | _ => fun _ => .no
def fnB {α : Type} (fx : List Nat) (n m : Nat) (f : M α) : M α := fun ρ => if ρ.length = n ∧ ownsIn fx ρ = true then fnEnd ρ (f (ρ ++ List.replicate m .no)) else .no
section
variable {m₀ : Addr → Prop} {K : PySem.W.Frag} {mg : Str → Option Value} {H H' : Hp} {vs : List V} {ρ ρ' q : En} {n m : Nat} {fx : List Nat} {σ' : L2.St}
theorem getElem?_start {i : Nat} {s : Sl} (hs : s ≠ .no) (e : (ρ ++ List.replicate m Sl.no)[i]? = some s) : ρ[i]? = some s := by
  by_cases h : i < ρ.length
  · rw [List.getElem?_append_left h] at e; exact e
  · rw [List.getElem?_append_right (by omega), List.getElem?_replicate] at e
    split at e
    · exact absurd (Option.some.inj e).symm hs
    · cases e
theorem start_get {i : Nat} (h : i < vs.length) : (vs.map some ++ List.replicate m (none : Option V))[i]? = (vs.map some)[i]? := by
  rw [List.getElem?_append_left (by simpa using h)]
theorem Rel.start (r : Rel m₀ K mg H (vs.map some) ρ) : Rel m₀ K mg H (vs.map some ++ List.replicate m none) (ρ ++ List.replicate m .no) ∧ ∀ a, Own (vs.map some ++ List.replicate m none) (ρ ++ List.replicate m .no) a ↔ Own (vs.map some) ρ a := by
  have hl : vs.length = ρ.length := by have := r.len; simpa using this
  have lt : ∀ {i : Nat} {s : Sl}, ρ[i]? = some s → i < vs.length := fun {i s} e => by rw [hl]; exact (List.getElem?_eq_some_iff.mp e).1
  have o : ∀ a, Own (vs.map some ++ List.replicate m none) (ρ ++ List.replicate m .no) a ↔ Own (vs.map some) ρ a := fun a => by
    constructor
    · rintro ⟨k, fs, e1, e2⟩
      have e3 := getElem?_start (by simp) e1
      exact ⟨k, fs, e3, by rw [← start_get (m := m) (lt e3)]; exact e2⟩
    · rintro ⟨k, fs, e1, e2⟩
      exact ⟨k, fs, by rw [List.getElem?_append_left (List.getElem?_eq_some_iff.mp e1).1]; exact e1, by rw [start_get (lt e1)]; exact e2⟩
  have em := mm_congr (m₀ := m₀) o
  refine ⟨⟨by simp [hl], r.dom, fun j e q => ?_, fun j es q => ?_, fun j k es fs p q1 q2 q3 q4 => ?_, r.tab⟩, o⟩
  · have q' := getElem?_start (by simp) q
    obtain ⟨w, h1, h2⟩ := r.val j e q'
    exact ⟨w, by rw [start_get (lt q')]; exact h1, by rw [em]; exact h2⟩
  · have q' := getElem?_start (by simp) q
    obtain ⟨p, ws, h1, h2, h3, h4⟩ := r.own j es q'
    exact ⟨p, ws, by rw [start_get (lt q')]; exact h1, h2, h3, by rw [em]; exact h4⟩
  · have q1' := getElem?_start (by simp) q1
    have q2' := getElem?_start (by simp) q2
    rw [start_get (lt q1')] at q3
    rw [start_get (lt q2')] at q4
    exact r.inj j k es fs p q1' q2' q3 q4
/-- the entry's view of the end -/
theorem Rel.finish {m₁ : Addr → Prop} (hm1 : ∀ a, m₀ a → m₁ a) (r : Rel m₀ K mg H (vs.map some) ρ) (r' : Rel m₁ K mg H' σ' ρ') (s : Stp (vs.map some ++ List.replicate m none) (ρ ++ List.replicate m .no) H σ' ρ' H') (f : Fx fx (vs.map some ++ List.replicate m none) σ') (ho : ownsIn fx ρ = true) (e : finE ρ ρ' = some q)
    (hnew : ∀ a, m₁ a → m₀ a ∨ H a = none) : Rel m₁ K mg H' (vs.map some) q ∧ Stp (vs.map some) ρ H (vs.map some) q H' ∧ ∀ a, mm m₁ (vs.map some) q a → mm m₁ σ' ρ' a := by
  obtain ⟨hq, hg⟩ := finE_ok e
  have hl : vs.length = ρ.length := by have := r.len; simpa using this
  obtain ⟨rs, os⟩ := r.start (m := m)
  have sl : ∀ {i : Nat} {ds : List D}, ρ[i]? = some (.own ds) → σ'[i]? = (vs.map some)[i]? := fun {i ds} h => by
    rw [f i (ownsIn_ok ho h), start_get (by rw [hl]; exact (List.getElem?_eq_some_iff.mp h).1)]
  have oq : ∀ {i : Nat} {ds : List D}, q[i]? = some (.own ds) → ρ'[i]? = some (.own ds) ∧ ∃ es, ρ[i]? = some (.own es) := fun {i ds} h => by
    rcases hg i _ h with ⟨es, ds', h1, h2, h3⟩ | ⟨h1, h2⟩
    · cases h3; exact ⟨h2, es, h1⟩
    · exact absurd rfl (h2 ds)
  have sub : ∀ a, Own (vs.map some) q a → Own σ' ρ' a := fun a ⟨i, ds, e1, e2⟩ => by
    obtain ⟨h1, es, h2⟩ := oq e1
    exact ⟨i, ds, h1, by rw [sl h2]; exact e2⟩
  have subm : ∀ a, mm m₁ (vs.map some) q a → mm m₁ σ' ρ' a := fun a z => z.imp id (sub a)
  have keepO : Kp (Own (vs.map some) ρ) H H' := fun a o n e t => s.keep a o (fun z => n ((os a).mp z)) e t
  refine ⟨⟨by rw [hq]; exact r.len, r'.dom, fun j d h => ?_, fun j es h => ?_, fun j k es fs p q1 q2 q3 q4 => ?_, r'.tab⟩, ⟨keepO, s.grow, fun a z => ?_⟩, subm⟩
  · rcases hg j _ h with ⟨es, ds', h1, h2, h3⟩ | ⟨h1, h2⟩
    · cases h3
    · obtain ⟨v, a1, a2⟩ := r.val j d h1
      refine ⟨v, a1, Rp.mono (fun a z => ?_) (fun a o n e t => keepO a o (fun y => n (.inr y)) e t) _ _ a2⟩
      rcases z with z | z
      · exact (hnew a z).imp .inl id
      · rcases s.own a (sub a z) with y | y
        · exact .inl (.inr ((os a).mp y))
        · exact .inr y
  · obtain ⟨h1, es', h2⟩ := oq h
    obtain ⟨p, ws, a1, a2, a3, a4⟩ := r'.own j es h1
    exact ⟨p, ws, by rw [← sl h2]; exact a1, a2, a3, RpA.mono (fun a z => .inl (subm a z)) Kp.refl _ _ a4⟩
  · obtain ⟨h1, es', h2⟩ := oq q1
    obtain ⟨h3, fs', h4⟩ := oq q2
    exact r'.inj j k es fs p h1 h3 (by rw [sl h2]; exact q3) (by rw [sl h4]; exact q4)
  · rcases s.own a (sub a z) with y | y
    · exact .inl ((os a).mp y)
    · exact .inr y
end
/-- the body of a def keeps its promise -/
theorem fn_core {K : PySem.W.Frag} {mg : Str → Option Value} {fx : List Nat} {f : M Fl} {vs : List V} {H : Hp} {Q : VK} {E : XK} {N : List Str} {n m : Nat} (hN : N.length = n + m) (h : spD K mg n (fnB fx n m (asRet f)) vs H Q E) :
    tS ⟨K, mg, fun cl d _ H' => E cl d H', fx⟩ f { nx := fun _ H' => Q .non H', rt := Q } (start N vs) H := by
  obtain ⟨hl, m₀, ρ, r, w⟩ := h
  have hs : start N vs = vs.map some ++ List.replicate m none := by
    unfold L2.start
    rw [hN, hl, Nat.add_sub_cancel_left]
  unfold fnB at w
  by_cases hc : ρ.length = n ∧ ownsIn fx ρ = true
  · rw [if_pos hc] at w
    obtain ⟨rs, os⟩ := r.start (m := m)
    rw [hs]
    refine ⟨m₀, _, rs, ?_⟩
    unfold asRet M.bind at w
    cases q : f (ρ ++ List.replicate m .no) with
    | no => rw [q] at w; exact w.elim
    | er y ρ' =>
      rw [q] at w
      intro cl d σ' H' r' s' f' ex
      have w' : OkD K mg m₀ (vs.map some) ρ H Q E (match finE ρ ρ' with
        | some q => .er y q
        | none => .no) := w
      cases e : finE ρ ρ' with
      | none => rw [e] at w'; exact w'.elim
      | some z =>
        rw [e] at w'
        obtain ⟨r2, s2, sub⟩ := Rel.finish (fun _ h => h) r r' s' f' hc.2 e (fun a z => .inl z)
        refine w' cl d H' r2 s2 ⟨ex.1, ?_⟩
        have e2 := ex.2
        revert e2
        cases y.given with
        | none => exact id
        | some fy => exact fun ⟨dx, v, a1, a0, a2, a3⟩ => ⟨dx, v, a1, fun z => a0 (sub _ z), a2, Rp.mono (fun a z => .inl (sub a z)) Kp.refl _ _ a3⟩
    | ok fl ρ' =>
      rw [q] at w
      cases fl with
      | nx =>
        intro σ' H' r' s' f'
        have w' : OkD K mg m₀ (vs.map some) ρ H Q E (match finE ρ ρ' with
          | some q => .ok .non q
          | none => .no) := w
        cases e : finE ρ ρ' with
        | none => rw [e] at w'; exact w'.elim
        | some z =>
          rw [e] at w'
          obtain ⟨r2, s2, sub⟩ := Rel.finish (fun _ h => h) r r' s' f' hc.2 e (fun a z => .inl z)
          exact w' .non H' r2 .non s2
      | rt d =>
        intro v σ' H' r' hv s' f'
        have w' : OkD K mg m₀ (vs.map some) ρ H Q E (match finE ρ ρ' with
          | some q => .ok d q
          | none => .no) := w
        cases e : finE ρ ρ' with
        | none => rw [e] at w'; exact w'.elim
        | some z =>
          rw [e] at w'
          obtain ⟨r2, s2, sub⟩ := Rel.finish (fun _ h => h) r r' s' f' hc.2 e (fun a z => .inl z)
          exact w' v H' r2 (Rp.mono (fun a z => .inl (sub a z)) Kp.refl _ _ hv) s2
      | bk => exact w.elim
      | ct => exact w.elim
      | ro ds => exact w.elim
  · rw [if_neg hc] at w; exact w.elim
theorem fn_coreN {K : PySem.W.Frag} {mg : Str → Option Value} {fx : List Nat} {f : M Fl} {vs : List V} {H : Hp} {Q : VK} {E : XK} {N : List Str} {n m : Nat} (hN : N.length = n + m) (h : spN K mg n (fnB fx n m (asRetO f)) vs H Q E) :
    tS ⟨K, mg, fun cl d _ H' => E cl d H', fx⟩ f { nx := fun _ H' => Q .non H', rt := Q } (start N vs) H := by
  obtain ⟨hl, m₀, ρ, r, w⟩ := h
  have hs : start N vs = vs.map some ++ List.replicate m none := by
    unfold L2.start
    rw [hN, hl, Nat.add_sub_cancel_left]
  unfold fnB at w
  by_cases hc : ρ.length = n ∧ ownsIn fx ρ = true
  · rw [if_pos hc] at w
    obtain ⟨rs, os⟩ := r.start (m := m)
    rw [hs]
    refine ⟨m₀, _, rs, ?_⟩
    unfold asRetO M.bind at w
    cases q : f (ρ ++ List.replicate m .no) with
    | no => rw [q] at w; exact w.elim
    | er y ρ' =>
      rw [q] at w
      have w' : OkN K mg m₀ (vs.map some) ρ H Q (match finE ρ ρ' with
        | some q => .er y q
        | none => .no) := w
      cases e : finE ρ ρ' with
      | none => rw [e] at w'; exact w'.elim
      | some z => rw [e] at w'; exact w'.elim
    | ok fl ρ' =>
      rw [q] at w
      cases fl with
      | ro ds =>
        intro p us σ' H' r' n' e' hv s' f'
        have w' : OkN K mg m₀ (vs.map some) ρ H Q (match finE ρ ρ' with
          | some q => .ok ds q
          | none => .no) := w
        cases e : finE ρ ρ' with
        | none => rw [e] at w'; exact w'.elim
        | some z =>
          rw [e] at w'
          obtain ⟨r2, s2, sub⟩ := Rel.finish (m₁ := mp m₀ p) (fun _ h => .inl h) r r' s' f' hc.2 e (fun a z => z.imp id fun y => by rw [y]; exact n')
          exact w' p us H' r2 n' e' (RpA.mono (fun a z => .inl (sub a z)) Kp.refl _ _ hv) s2
      | rt d => exact w.elim
      | nx => exact w.elim
      | bk => exact w.elim
      | ct => exact w.elim
  · rw [if_neg hc] at w; exact w.elim
end PV
namespace PV
open PySem PySem.Spec PyProof.Rows L2
variable [Tb]
section
variable {m m' m₀ : Addr → Prop} {K : PySem.W.Frag} {g : Str → Option Value} {H H' : Hp} {σ σ' : L2.St} {ρ ρ' : En} {vs vs' : List V} {ds ds' : List D} {a p : Addr} {i : Nat} {v : V} {d : D} {cl : Value} {od : Option Addr} {x : Exn}
theorem ExR.sub (s : ∀ a, m' a → m a) (h : ExR m K g H cl od x) : ExR m' K g H cl od x := by
  refine ⟨h.1, ?_⟩
  have e2 := h.2
  revert e2
  cases x.given with
  | none => exact id
  | some fy => exact fun ⟨dx, v, a1, a0, a2, a3⟩ => ⟨dx, v, a1, fun z => a0 (s _ z), a2, Rp.mono (fun a z => .inl (s a z)) Kp.refl _ _ a3⟩
theorem no_own : ¬ Own σ' (ds.map Sl.val) a := by
  rintro ⟨i, es, e, _⟩
  rw [List.getElem?_map] at e
  cases q : ds[i]? <;> rw [q] at e <;> simp at e
theorem Rel.args (r : Rel m₀ K g H σ ρ) (h : RpA (mm m₀ σ ρ) K g H vs ds) : Rel (mm m₀ σ ρ) K g H (vs.map some) (ds.map .val) := by
  have dom : ∀ a, mm m₀ σ ρ a → H a ≠ none := fun a z => by
    rcases z with z | ⟨j, es, e1, e2⟩
    · exact r.dom a z
    · obtain ⟨q, ws, h1, _, h3, _⟩ := r.own j es e1
      rw [e2] at h1; cases h1
      rw [h3]; simp
  refine ⟨by rw [List.length_map, List.length_map, h.length], dom, fun j d e => ?_, fun j es e => ?_, fun j k es fs p q1 _ _ _ => ?_, r.tab⟩
  · rw [List.getElem?_map] at e
    cases q : ds[j]? with
    | none => rw [q] at e; simp at e
    | some d' =>
      rw [q] at e
      obtain rfl : d' = d := by simpa using e
      obtain ⟨v, e1, e2⟩ := h.get q
      refine ⟨v, by rw [List.getElem?_map, e1]; rfl, Rp.mono (fun a z => .inl ?_) Kp.refl _ _ e2⟩
      exact z.elim id fun y => (no_own y).elim
  · rw [List.getElem?_map] at e
    cases q : ds[j]? <;> rw [q] at e <;> simp at e
  · rw [List.getElem?_map] at q1
    cases q : ds[j]? <;> rw [q] at q1 <;> simp at q1
/-- an owned list was written elsewhere -/
theorem Rel.written (r : Rel m₀ K g H σ ρ) (e : ρ[i]? = some (.own ds)) (ep : σ[i]? = some (some (.ref p))) (k : ∀ a o, a ≠ p → H a = some o → (∀ ps, o ≠ .tbl ps) → H' a = some o) (gr : ∀ a, H a ≠ none → H' a ≠ none) (tb : LamX.Tabs (Tb.T K) H') (eH : H' p = some (.lst vs')) (hA : RpA (mm m₀ σ ρ) K g H' vs' ds') :
    Rel m₀ K g H' σ (ρ.set i (.own ds')) ∧ Stp σ ρ H σ (ρ.set i (.own ds')) H' := by
  obtain ⟨p', vs, h1, h2, h3, h4⟩ := r.own i ds e
  rw [ep] at h1; cases h1
  have hl := (List.getElem?_eq_some_iff.mp e).1
  have ow : Own σ ρ p := ⟨i, ds, e, ep⟩
  have kp : Kp (Own σ ρ) H H' := fun a o n q t => k a o (fun z => n (by rw [z]; exact ow)) q t
  have kpm : Kp (mm m₀ σ ρ) H H' := fun a o n q t => kp a o (fun z => n (.inr z)) q t
  have em : mm m₀ σ (ρ.set i (.own ds')) = mm m₀ σ ρ := mm_congr (own_set_own e)
  refine ⟨⟨by rw [List.length_set]; exact r.len, fun a z => gr a (r.dom a z), fun j d q => ?_, fun j fs q => ?_, fun j l fs hs b q1 q2 q3 q4 => ?_, tb⟩, kp, gr, fun a z => .inl ((own_set_own e a).mp z)⟩
  · rw [em]
    by_cases hk : j = i
    · subst hk; rw [List.getElem?_set_self hl] at q; cases q
    · rw [List.getElem?_set_ne (Ne.symm hk)] at q
      obtain ⟨w, q1, q2⟩ := r.val j d q
      exact ⟨w, q1, Rp.mono Sub'.refl kpm _ _ q2⟩
  · rw [em]
    by_cases hk : j = i
    · subst hk
      rw [List.getElem?_set_self hl] at q; cases q
      exact ⟨p, vs', ep, h2, eH, hA⟩
    · rw [List.getElem?_set_ne (Ne.symm hk)] at q
      obtain ⟨b, ws, q1, q2, q3, q4⟩ := r.own j fs q
      refine ⟨b, ws, q1, q2, k b _ (fun z => hk (r.inj j i fs ds p q e (by rw [← z]; exact q1) ep)) q3 (by simp), RpA.mono Sub'.refl kpm _ _ q4⟩
  · have f1 : ∃ fs', ρ[j]? = some (.own fs') := by
      by_cases hk : j = i
      · subst hk; exact ⟨_, e⟩
      · rw [List.getElem?_set_ne (Ne.symm hk)] at q1; exact ⟨_, q1⟩
    have f2 : ∃ fs', ρ[l]? = some (.own fs') := by
      by_cases hk : l = i
      · subst hk; exact ⟨_, e⟩
      · rw [List.getElem?_set_ne (Ne.symm hk)] at q2; exact ⟨_, q2⟩
    obtain ⟨_, f1⟩ := f1
    obtain ⟨_, f2⟩ := f2
    exact r.inj j l _ _ b f1 f2 q3 q4
/-- what a callee sees whose first argument is an owned list -/
theorem own_hd {es : List D} : Own (some (V.ref p) :: vs.map some) (Sl.own es :: ds.map .val) a ↔ a = p := by
  constructor
  · rintro ⟨j, fs, e1, e2⟩
    cases j with
    | zero => simp at e2; exact e2.symm
    | succ j =>
      simp at e1
  · rintro rfl
    exact ⟨0, es, rfl, rfl⟩
def mless (m : Addr → Prop) (p : Addr) : Addr → Prop := fun a => m a ∧ a ≠ p
theorem mm_hd {m : Addr → Prop} {es : List D} (hp : m p) : mm (mless m p) (some (V.ref p) :: vs.map some) (Sl.own es :: ds.map .val) = m := funext fun a => propext (by
  constructor
  · rintro (⟨z, _⟩ | z)
    · exact z
    · rw [own_hd.mp z]; exact hp
  · intro z
    by_cases h : a = p
    · exact .inr (own_hd.mpr h)
    · exact .inl ⟨z, h⟩)
theorem Rel.args1 {m : Addr → Prop} {us : List V} {es : List D} (hp : m p) (dom : ∀ a, m a → H a ≠ none) (eH : H p = some (.lst us)) (hA : RpA m K g H us es) (h : RpA m K g H vs ds) (tb : LamX.Tabs (Tb.T K) H) : Rel (mless m p) K g H (some (V.ref p) :: vs.map some) (Sl.own es :: ds.map .val) := by
  refine ⟨by rw [List.length_cons, List.length_cons, List.length_map, List.length_map, h.length], fun a z => dom a z.1, fun j d e => ?_, fun j fs e => ?_, fun j k fs hs q e1 e2 _ _ => ?_, tb⟩
  · cases j with
    | zero => simp at e
    | succ j =>
      have e' : (ds.map Sl.val)[j]? = some (Sl.val d) := by simpa using e
      rw [List.getElem?_map] at e'
      cases q : ds[j]? with
      | none => rw [q] at e'; simp at e'
      | some d' =>
        rw [q] at e'
        obtain rfl : d' = d := by simpa using e'
        obtain ⟨v, f1, f2⟩ := h.get q
        refine ⟨v, ?_, by rw [mm_hd hp]; exact f2⟩
        show (vs.map some)[j]? = _
        rw [List.getElem?_map, f1]; rfl
  · cases j with
    | zero =>
      simp at e; subst e
      exact ⟨p, us, rfl, fun z => z.2 rfl, eH, by rw [mm_hd hp]; exact hA⟩
    | succ j => simp at e
  · cases j with
    | zero =>
      cases k with
      | zero => rfl
      | succ k => simp at e2
    | succ j => simp at e1
theorem Rel.kept (r : Rel m₀ K g H σ ρ) (k : Kp m₀ H H') (gr : ∀ a, H a ≠ none → H' a ≠ none) (tb : LamX.Tabs (Tb.T K) H') : Rel m₀ K g H' σ ρ := by
  refine ⟨r.len, fun a z => gr a (r.dom a z), fun j d e => ?_, fun j es e => ?_, r.inj, tb⟩
  · obtain ⟨v, h1, h2⟩ := r.val j d e
    exact ⟨v, h1, Rp.mono Sub'.refl (fun a o n q t => k a o (fun z => n (.inl z)) q t) _ _ h2⟩
  · obtain ⟨p, ws, h1, h2, h3, h4⟩ := r.own j es e
    exact ⟨p, ws, h1, h2, k _ _ h2 h3 (by simp), RpA.mono Sub'.refl (fun a o n q t => k a o (fun z => n (.inl z)) q t) _ _ h4⟩
theorem Rel.domm (r : Rel m₀ K g H σ ρ) (a : Addr) (z : mm m₀ σ ρ a) : H a ≠ none := by
  rcases z with z | ⟨j, es, e1, e2⟩
  · exact r.dom a z
  · obtain ⟨q, ws, h1, _, h3, _⟩ := r.own j es e1
    rw [e2] at h1; cases h1
    rw [h3]; simp
end
/-! ### mirrors of calls -/
def callV {α : Type} (n : Nat) (F : M α) (ds : List D) : M α := fun ρ => if ds.length = n then match F (ds.map .val) with
    | .no => .no
    | .er x _ => .er x ρ
    | .ok d _ => .ok d ρ
  else .no
def callO {α : Type} (n : Nat) (F : M α) (i : Nat) (ds : List D) : M α := fun ρ => match ρ[i]? with
  | some (.own L) => if ds.length + 1 = n then match F (.own L :: ds.map .val) with
      | .no => .no
      | .er x (.own L' :: _) => .er x (ρ.set i (.own L'))
      | .er _ _ => .no
      | .ok d (.own L' :: _) => .ok d (ρ.set i (.own L'))
      | .ok _ _ => .no
    else .no
  | _ => .no
def callN {α : Type} (n : Nat) (F : M α) (L : List D) : M α := fun ρ => if n = 1 then match F [.own L] with
    | .no => .no
    | .er x _ => .er x ρ
    | .ok d _ => .ok d ρ
  else .no
section
variable {P : Program} {w : World} {K : PySem.W.Frag} {mg : Str → Option Value} {base : Heap}
/-- how a def is known to those that call it -/
structure DefV (P : Program) (w : World) (K : PySem.W.Frag) (mg : Str → Option Value) (base : Heap) (x : Str) (st : Stmt) (k : Nat) (ps : List Str) (F : M D) : Prop where
  ex : ∃ f fd, mg x = some (.ref f) ∧ FunD K x x (defArgs st) (defBody st) (defScope st) [] [] f fd ∧ Binds K fd ps [] ∧ FnG P w K mg base k f fd ps (spD K mg ps.length F)
structure DefL (P : Program) (w : World) (K : PySem.W.Frag) (mg : Str → Option Value) (base : Heap) (x : Str) (st : Stmt) (k : Nat) (ps : List Str) (F : M (List D)) : Prop where
  ex : ∃ f fd, mg x = some (.ref f) ∧ FunD K x x (defArgs st) (defBody st) (defScope st) [] [] f fd ∧ Binds K fd ps [] ∧ FnG P w K mg base k f fd ps (spN K mg ps.length F)
end
section
variable {c : Ct} {m₀ : Addr → Prop} {σ : L2.St} {ρ : En} {H : Hp} {Q : VK} {n i : Nat} {F : M D} {ds : List D} {vs : List V} {S : D → En → Prop}
/-- the promise is asked as the mirror says -/
theorem callV_ok (r : Rel m₀ c.K c.g H σ ρ) (h : RpA (mm m₀ σ ρ) c.K c.g H vs ds) (w : Want c m₀ σ ρ H (fun d ρ' => ∀ v H', Rel m₀ c.K c.g H' σ ρ' → Rp (mm m₀ σ ρ') c.K c.g H' v d → Stp σ ρ H σ ρ' H' → Q v H') (callV n F ds ρ)) :
    spD c.K c.g n F vs H Q (WE c.W σ) := by
  unfold callV at w
  split at w
  · rename_i hl
    refine ⟨by rw [h.length]; exact hl, mm m₀ σ ρ, ds.map .val, r.args h, ?_⟩
    split at w
    · exact w.elim
    · rename_i x ρ' e
      rw [e]
      intro cl d H' rc sc ex
      have k : LamX.ExtN H H' := fun a o q n => sc.keep a o no_own q n
      exact w cl d σ H' (r.grownT k sc.grow rc.tab) (.grownT k sc.grow) .refl (ex.sub fun a z => .inl z)
    · rename_i d ρ' e
      rw [e]
      intro v H' rc hv sc
      have k : LamX.ExtN H H' := fun a o q n => sc.keep a o no_own q n
      exact w v H' (r.grownT k sc.grow rc.tab) (Rp.mono (fun a z => .inl (.inl z)) Kp.refl _ _ hv) (.grownT k sc.grow)
  · exact w.elim
theorem callO_ok (r : Rel m₀ c.K c.g H σ ρ) (h : RpA (mm m₀ σ ρ) c.K c.g H vs ds) {v0 : V} (e0 : σ[i]? = some (some v0)) (w : Want c m₀ σ ρ H (fun d ρ' => ∀ v H', Rel m₀ c.K c.g H' σ ρ' → Rp (mm m₀ σ ρ') c.K c.g H' v d → Stp σ ρ H σ ρ' H' → Q v H') (callO n F i ds ρ)) :
    spD c.K c.g n F (v0 :: vs) H Q (WE c.W σ) := by
  unfold callO at w
  split at w
  · rename_i L eo
    obtain ⟨p, us, ep, np, eH, hA⟩ := r.own i L eo
    rw [e0] at ep; cases ep
    split at w
    · rename_i hl
      have hp : mm m₀ σ ρ p := .inr ⟨i, L, eo, e0⟩
      have rc := Rel.args1 hp r.domm eH hA h r.tab
      refine ⟨by rw [List.length_cons, h.length]; exact hl, mless (mm m₀ σ ρ) p, _, rc, ?_⟩
      have fin : ∀ {L' : List D} {τ : En} {H' : Hp}, Rel (mless (mm m₀ σ ρ) p) c.K c.g H' (some (V.ref p) :: vs.map some) (.own L' :: τ) → Stp (some (V.ref p) :: vs.map some) (.own L :: ds.map .val) H (some (V.ref p) :: vs.map some) (.own L' :: τ) H' →
          (Rel m₀ c.K c.g H' σ (ρ.set i (.own L')) ∧ Stp σ ρ H σ (ρ.set i (.own L')) H') ∧ ∀ a, mm m₀ σ (ρ.set i (.own L')) a → mm (mless (mm m₀ σ ρ) p) (some (V.ref p) :: vs.map some) (.own L' :: τ) a := fun {L' τ H'} r' s' => by
        have sub : ∀ a, mm m₀ σ ρ a → mm (mless (mm m₀ σ ρ) p) (some (V.ref p) :: vs.map some) (.own L' :: τ) a := fun a z => by
          by_cases hap : a = p
          · exact .inr ⟨0, L', rfl, by rw [hap]; rfl⟩
          · exact .inl ⟨z, hap⟩
        obtain ⟨p', us', f1, f2, f3, f4⟩ := r'.own 0 L' rfl
        cases f1
        refine ⟨r.written eo e0 (fun a o n q t => s'.keep a o (fun z => n (own_hd.mp z)) q t) s'.grow r'.tab f3 (RpA.mono (fun a z => .inl (sub a z)) Kp.refl _ _ f4), fun a z => sub a ?_⟩
        rwa [mm_congr (own_set_own eo)] at z
      show OkD c.K c.g (mless (mm m₀ σ ρ) p) (some (V.ref p) :: vs.map some) _ H Q (WE c.W σ) _
      split at w
      · exact w.elim
      · rename_i x L' τ e
        rw [e]
        intro cl d H' r' s' ex
        obtain ⟨⟨g1, g2⟩, g3⟩ := fin r' s'
        exact w cl d σ H' g1 g2 .refl (ex.sub g3)
      · exact w.elim
      · rename_i d L' τ e
        rw [e]
        intro v H' r' hv s'
        obtain ⟨⟨g1, g2⟩, g3⟩ := fin r' s'
        exact w v H' g1 (Rp.mono (fun a z => .inl (g3 a z)) Kp.refl _ _ hv) g2
      · exact w.elim
    · exact w.elim
  · exact w.elim
theorem callN_ok {p : Addr} {us : List V} {L : List D} {H0 : Hp} {ρ0 : En} (r0 : Rel m₀ c.K c.g H0 σ ρ0) (hp : H0 p = none) (s0 : Stp σ ρ0 H0 σ ρ H) (r : Rel (mp m₀ p) c.K c.g H σ ρ) (eH : H p = some (.lst us)) (hA : RpA (mm (mp m₀ p) σ ρ) c.K c.g H us L)
    (w : Want c m₀ σ ρ0 H0 (fun d ρ' => ∀ v H', Rel m₀ c.K c.g H' σ ρ' → Rp (mm m₀ σ ρ') c.K c.g H' v d → Stp σ ρ0 H0 σ ρ' H' → Q v H') (callN n F L ρ)) :
    spD c.K c.g n F [.ref p] H Q (WE c.W σ) := by
  unfold callN at w
  split at w
  · rename_i hl
    have hpm : mm (mp m₀ p) σ ρ p := .inl (.inr rfl)
    have rc := Rel.args1 (vs := []) (ds := []) hpm r.domm eH hA .nil r.tab
    refine ⟨hl.symm, mless (mm (mp m₀ p) σ ρ) p, _, rc, ?_⟩
    have nO : ¬ Own σ ρ p := fun ⟨j, es, e1, e2⟩ => by
      obtain ⟨q, ws, h1, h2, h3, _⟩ := r.own j es e1
      rw [e2] at h1; cases h1
      exact h2 (.inr rfl)
    have fin : ∀ {τ : En} {H' : Hp}, LamX.Tabs (Tb.T c.K) H' → Stp [some (V.ref p)] [.own L] H [some (V.ref p)] τ H' → Rel m₀ c.K c.g H' σ ρ ∧ Stp σ ρ0 H0 σ ρ H' := fun {τ H'} tb s' => by
      have k : ∀ a o, a ≠ p → H a = some o → (∀ ps, o ≠ .tbl ps) → H' a = some o := fun a o n q t => s'.keep a o (fun z => n (own_hd (vs := []) (ds := []) |>.mp z)) q t
      refine ⟨(r.kept (fun a o n q t => k a o (fun z => n (.inr z)) q t) s'.grow tb).drop, fun a o n q t => ?_, fun a z => s'.grow a (s0.grow a z), fun a z => s0.own a z⟩
      refine k a o (fun z => ?_) (s0.keep a o n q t) t
      rw [z, hp] at q; cases q
    have sub : ∀ a, mm m₀ σ ρ a → mless (mm (mp m₀ p) σ ρ) p a := fun a z => by
      refine ⟨z.imp .inl id, fun q => ?_⟩
      rcases z with z | z
      · exact r0.dom a z (by rw [q]; exact hp)
      · exact nO (by rw [← q]; exact z)
    show OkD c.K c.g (mless (mm (mp m₀ p) σ ρ) p) [some (V.ref p)] _ H Q (WE c.W σ) _
    split at w
    · exact w.elim
    · rename_i x τ e
      have e' : F (Sl.own L :: List.map Sl.val []) = .er x τ := e
      rw [e']
      intro cl d H' r' s' ex
      obtain ⟨g1, g2⟩ := fin r'.tab s'
      exact w cl d σ H' g1 g2 .refl (ex.sub fun a z => .inl (sub a z))
    · rename_i d τ e
      have e' : F (Sl.own L :: List.map Sl.val []) = .ok d τ := e
      rw [e']
      intro v H' r' hv s'
      obtain ⟨g1, g2⟩ := fin r'.tab s'
      exact w v H' g1 (Rp.mono (fun a z => .inl (.inl (sub a z))) Kp.refl _ _ hv) g2
  · exact w.elim
theorem Rel.addG {p : Addr} {H' : Hp} {g : Str → Option Value} {K : PySem.W.Frag} (r : Rel m₀ K g H σ ρ) (hp : H p = none) (k : LamX.ExtN H H') (gr : ∀ a, H a ≠ none → H' a ≠ none) (tb : LamX.Tabs (Tb.T K) H') (e : H' p ≠ none) : Rel (mp m₀ p) K g H' σ ρ := by
  have sb : Sub' (mm (mp m₀ p) σ ρ) (mm m₀ σ ρ) H := fun a z => by
    rcases z with (z | z) | z
    · exact .inl (.inl z)
    · exact .inr (by rw [z]; exact hp)
    · exact .inl (.inr z)
  refine ⟨r.len, fun a z => ?_, fun j d q => ?_, fun j es q => ?_, r.inj, tb⟩
  · rcases z with z | z
    · exact gr a (r.dom a z)
    · rw [z]; exact e
  · obtain ⟨v, h1, h2⟩ := r.val j d q
    exact ⟨v, h1, Rp.mono sb (fun a o _ q n => k a o q n) _ _ h2⟩
  · obtain ⟨b, ws, h1, h2, h3, h4⟩ := r.own j es q
    have nb : ¬ mp m₀ p b := fun z => Or.elim (show m₀ b ∨ b = p from z) h2 fun y => by
      rw [y, hp] at h3; cases h3
    exact ⟨b, ws, h1, nb, k _ _ h3 (by simp), RpA.mono sb (fun a o _ q n => k a o q n) _ _ h4⟩
def callL (n : Nat) (F : M (List D)) (ds : List D) : M (List D) := fun ρ => if ds.length = n then match F (ds.map .val) with
    | .ok d _ => .ok d ρ
    | _ => .no
  else .no
theorem callL_ok {F : M (List D)} (r : Rel m₀ c.K c.g H σ ρ) (h : RpA (mm m₀ σ ρ) c.K c.g H vs ds)
    (w : Want c m₀ σ ρ H (fun es ρ' => ∀ p us H', Rel (mp m₀ p) c.K c.g H' σ ρ' → H p = none → H' p = some (.lst us) → RpA (mm (mp m₀ p) σ ρ') c.K c.g H' us es → Stp σ ρ H σ ρ' H' → Q (.ref p) H') (callL n F ds ρ)) :
    spN c.K c.g n F vs H Q (WE c.W σ) := by
  unfold callL at w
  split at w
  · rename_i hl
    refine ⟨by rw [h.length]; exact hl, mm m₀ σ ρ, ds.map .val, r.args h, ?_⟩
    split at w
    · rename_i d ρ' e
      rw [e]
      intro p us H' rc hp eH hv sc
      have k : LamX.ExtN H H' := fun a o q n => sc.keep a o no_own q n
      refine w p us H' (r.addG hp k sc.grow rc.tab (by rw [eH]; simp)) hp eH (RpA.mono (fun a z => .inl ?_) Kp.refl _ _ hv) (.grownT k sc.grow)
      rcases z with (z | z) | z
      · exact .inl (.inl (.inl z))
      · exact .inl (.inr z)
      · exact .inl (.inl (.inr z))
    · exact w.elim
  · exact w.elim
end
section
variable {X : Cx} {W : WX} {fx : List Nat} {k j : Nat} {ps ks : List Str} {x y : Str} {p pos pos' : Pos} {e : Expr} {es : List Expr} {kws : List Keyword} {F : M D} {st : Stmt} {fl : M (List D)} {fn : M (List D)}
/-- f(e, ..): data -/
theorem e_callV (G : DefV X.prog X.w X.K X.mg X.base x st j ps F) (hr : Room k X.A) (hgd : X.A.guards = some []) (tw : Takes X W) (hg : Gl X x) (ha : LV X W fx (e :: es) fl) (hjk : j ≤ k := by decide)
    (hdb : (x == ("__debug__" : Str)) = false := by decide) (he : starEach (e :: es) X.env = (false, eval e X.env) :: starEach es X.env := by rfl) (hpl : (backTo pos (starEach es X.env)).any (·.1) = false := by rfl) :
    EV X W fx (.Call (.Name x p) (e :: es) [] pos) (M.bind fl (callV ps.length F)) := by
  obtain ⟨f, fd, hm, hF, hb, hG⟩ := G.ex
  refine PE.imp (pe_callG hG (hr.mono hjk) hgd hg hm hF.kp hb tw ha hdb he hpl) fun σ H Q ⟨m₀, ρ, rr, w⟩ => ?_
  refine tL.first rr w fun ds ρ1 vs H1 _ r1 h1 s1 w1 => ?_
  exact callV_ok (c := ct X W fx) r1 h1 (w1.mono fun d ρ2 _ hs v H2 r2 h2 s2 => hs v H2 r2 h2 (s1.trans s2))
/-- f(o, e, ..): the owned list o, data -/
theorem e_callO (i : Nat) (G : DefV X.prog X.w X.K X.mg X.base x st j ps F) (hr : Room k X.A) (hgd : X.A.guards = some []) (tw : Takes X W) (hg : Gl X x) (ho : PE X e (tVar i)) (ha : LV X W fx es fl) (hjk : j ≤ k := by decide)
    (hdb : (x == ("__debug__" : Str)) = false := by decide) (he : starEach (e :: es) X.env = (false, eval e X.env) :: starEach es X.env := by rfl) (hpl : (backTo pos (starEach es X.env)).any (·.1) = false := by rfl) :
    EV X W fx (.Call (.Name x p) (e :: es) [] pos) (mOwned i (M.bind fl (callO ps.length F i))) := by
  obtain ⟨f, fd, hm, hF, hb, hG⟩ := G.ex
  refine PE.imp (pe_callG hG (hr.mono hjk) hgd hg hm hF.kp hb tw (pa_cons ho ha he) hdb he hpl) fun σ H Q ⟨m₀, ρ, rr, w⟩ => ?_
  unfold mOwned at w
  by_cases hi : isOwn ρ i = true
  · rw [if_pos hi] at w
    obtain ⟨L, eo⟩ := isOwn_ok hi
    obtain ⟨q, us, eq, _, _, _⟩ := rr.own i L eo
    refine ⟨_, eq, ?_⟩
    refine tL.first rr w fun ds ρ1 vs H1 _ r1 h1 s1 w1 => ?_
    exact callO_ok (c := ct X W fx) r1 h1 eq (w1.mono fun d ρ2 _ hs v H2 r2 h2 s2 => hs v H2 r2 h2 (s1.trans s2))
  · rw [if_neg hi] at w; exact w.elim
/-- f([..]): a new list -/
theorem e_callN (G : DefV X.prog X.w X.K X.mg X.base x st j ps F) (hr : Room k X.A) (hgd : X.A.guards = some []) (tw : Takes X W) (hg : Gl X x) (ha : NV X W fx e fn) (hjk : j ≤ k := by decide)
    (hdb : (x == ("__debug__" : Str)) = false := by decide) (he : starEach (e :: []) X.env = (false, eval e X.env) :: starEach [] X.env := by rfl) (hpl : (backTo pos (starEach [] X.env)).any (·.1) = false := by rfl) :
    EV X W fx (.Call (.Name x p) [e] [] pos) (M.bind fn (callN ps.length F)) := by
  obtain ⟨f, fd, hm, hF, hb, hG⟩ := G.ex
  refine PE.imp (pe_callG hG (hr.mono hjk) hgd hg hm hF.kp hb tw (pa_cons ha pa_nil he) hdb he hpl) fun σ H Q ⟨m₀, ρ, rr, w⟩ => ?_
  have w' := w.bind
  refine ⟨m₀, ρ, rr, w'.mono fun L ρ1 _ hs q us H1 r1 n1 e1 h1 s1 => ?_⟩
  exact callN_ok (c := ct X W fx) rr n1 s1 r1 e1 h1 hs
/-- f(e, ..), a def that makes a new list -/
theorem n_callV {F : M (List D)} (G : DefL X.prog X.w X.K X.mg X.base x st j ps F) (hr : Room k X.A) (hgd : X.A.guards = some []) (tw : Takes X W) (hg : Gl X x) (ha : LV X W fx (e :: es) fl) (hjk : j ≤ k := by decide)
    (hdb : (x == ("__debug__" : Str)) = false := by decide) (he : starEach (e :: es) X.env = (false, eval e X.env) :: starEach es X.env := by rfl) (hpl : (backTo pos (starEach es X.env)).any (·.1) = false := by rfl) :
    NV X W fx (.Call (.Name x p) (e :: es) [] pos) (M.bind fl (callL ps.length F)) := by
  obtain ⟨f, fd, hm, hF, hb, hG⟩ := G.ex
  refine PE.imp (pe_callG hG (hr.mono hjk) hgd hg hm hF.kp hb tw ha hdb he hpl) fun σ H Q ⟨m₀, ρ, rr, w⟩ => ?_
  refine tL.first rr w fun ds ρ1 vs H1 _ r1 h1 s1 w1 => ?_
  refine callL_ok (c := ct X W fx) r1 h1 (w1.mono fun d ρ2 _ hs q us H2 r2 n2 e2 h2 s2 => hs q us H2 r2 (s1.back n2) e2 h2 (s1.trans s2))
/-! ### keywords -/
abbrev KV (X : Cx) (W : WX) (fx : List Nat) (kws : List Keyword) (f : M (List D)) : Prop := PK X kws (tL (ct X W fx) f)
theorem k_nil : KV X W fx [] dNil := ⟨fun pos pins s σ H Q I ⟨m₀, ρ, rr, w⟩ => pk_nil.run pos pins s σ H Q I (w [] H rr .nil .refl)⟩
theorem k_cons {nm : Option Str} {kpos : Pos} {fa : M D} (ha : EV X W fx e fa) (hl : KV X W fx kws fl) : KV X W fx (⟨nm, e, kpos⟩ :: kws) (dCons fa fl) := by
  refine ⟨fun pos pins s σ H Q I ⟨m₀, ρ, rr, w⟩ => (pk_cons ha hl).run pos pins s σ H Q I ?_⟩
  refine tE.first rr w fun dx ρ1 x H1 r1 h1 s1 w1 => tL.first r1 w1 fun ds ρ2 vs H2 _ r2 h2 s2 w2 => ?_
  exact w2 (x :: vs) H2 r2 (.cons (s2.rp r1 h1) h2) (s1.trans s2)
def pick {α : Type} (ix : List Nat) (xs : List α) : List α := ix.filterMap (xs[·]?)
def kwOf {α : Type} (a b : Nat) (ix : List Nat) (us ws : List α) : List α := if us.length = a ∧ ws.length = b then pick ix (us ++ ws) else []
variable {a b : Nat} {ix : List Nat} {fk : M (List D)}
def callK (n a b : Nat) (ix : List Nat) (F : M D) (ds es : List D) : M D := callV n F (kwOf a b ix ds es)
end
end PV
namespace PV
open PySem PySem.Spec PyProof.Rows L2
variable [Tb]
section
variable {P : Program} {w : World} {K : PySem.W.Frag} {mg : Str → Option Value} {base : Heap}
/-- what a division of great numbers leans on -/
def Sr (P : Program) (base : Heap) : Prop := P.given.tree = none ∧ base.NoSeer
theorem FunD.okR {x qual : Str} {params : Arguments} {body : List Stmt} {scope : Scope} {f : Addr} {fd : FuncData} {N ps : List Str} {k : Nat} {sp : Sp} (sr : Sr P base) (h34 : 34 ≤ k) (F : FunD K x qual params body scope [] [] f fd) (S : FnScope N ps scope) (len : ∀ vs H Q E, sp vs H Q E → vs.length = ps.length)
    (hbody : ∀ (cdv : Value) (A : Around) (outer : List PySem.Env) (s : Shared) (H : Hp) (vs : List V) (Q : VK) (E : XK), Room k (A.deeper (envOfC qual scope s.heap.objs.size f cdv)) → A.guards = some [] → Rm P w base (A.deeper (envOfC qual scope s.heap.objs.size f cdv)) → sp vs H Q E →
      ∃ t, PSs (cxOf (L2.CX P w) P w K mg base N qual scope f cdv A outer s H E) body t ∧ t { nx := fun _ H' => Q .non H', rt := Q } (L2.start N vs) H) : FnG P w K mg base (k + 1) f fd ps sp := by
  obtain ⟨oc, od, dV, kV, doc, pm, an, cdv, ct, osl, rfl, lk, hcd, _, _⟩ := F.ex
  refine ⟨len, fun A outer s H args us vs Q E room guard e0 bound rel want => ?_⟩
  have count := len _ _ _ _ want
  have inK : K.In s.heap := e0.mod.kin.keeps fun b o e => (e0.bs b o e).1
  have free : s.heap.NoLimit := e0.mod.nolimit.keeps fun b o e => (e0.bs b o e).1
  have kinds : ∀ y ∈ ps.zip us, scope.names.lookup y.1 = some .local ∨ (scope.names.lookup y.1 = some .cell ∧ ((cellsFrom (s.heap.objs.size + 1) scope.names []).lookup y.1).isSome = true) := by
    rintro ⟨n, v⟩ hy
    rcases S.par n (List.of_mem_zip hy).1 with q | q
    · exact .inl q
    · exact .inr ⟨q, PySem.W.cellsFrom_some _ _ _ (.inl q)⟩
  refine codeAny_call_function room.depth (inK _ _ lk) rfl S.co S.gen rfl (PySem.W.codeRec_of inK hcd) (bound _ _ _ _ ?_)
  refine wpAny_newFunctionEnv_cells S.kind kinds fun env he s1 x => ?_
  subst he
  refine ⟨free.keeps x.toInCall.keep, codeAny_func ?_⟩
  have rm : Rm P w base (A.deeper (envOfC qual scope s.heap.objs.size f cdv)) := by
    refine ⟨?_, fun h hk => SeerAt.of (sr.2.keeps hk) sr.1 (PySem.Around.frames_deeper e0.frames) S.gen S.co rfl rfl⟩
    have := (room.deeper (envOfC qual scope s.heap.objs.size f cdv)).dp
    have e : Builtin.pylongFrames = 100 := rfl
    omega
  obtain ⟨t, ht, hq⟩ := hbody cdv A outer s H vs Q E (room.deeper _) guard rm want
  have I : Inv (cxOf (L2.CX P w) P w K mg base N qual scope f cdv A outer s H E) [] (L2.start N vs) H s1 := inv_start S room.hd e0 count rel x
  refine wpAny_mono (ht.run [] s1 (L2.start N vs) H _ I hq) (fun fl s' hs => ?_) fun _ _ hs => hs
  cases fl with
  | ret u =>
    obtain ⟨v, σ', H', J, rv, q⟩ := hs
    exact ⟨v, H', J.os, J.bare, J.base, J.hok, rv, q⟩
  | next =>
    obtain ⟨σ', H', J, q⟩ := hs
    exact ⟨V.non, H', J.os, J.bare, J.base, J.hok, rfl, q⟩
  | brk => exact hs.choose_spec.choose_spec.2.elim
  | cont => exact hs.choose_spec.choose_spec.2.elim
/-- what a body's walk may lean on -/
structure Fine (X : Cx) (W : WX) (k : Nat) : Prop where
  hr : Room k X.A
  hg : X.A.guards = some []
  tw : Takes X W
  hp : PassesOwn (model X.prog X.w) X.A X.env X.xe
  nd : X.N.Nodup
  rm : Rm X.prog X.w X.base X.A
/-- the walk of a body -/
def Walk (P : Program) (w : World) (K : PySem.W.Frag) (mg : Str → Option Value) (base : Heap) (x : Str) (st : Stmt) (k : Nat) (N : List Str) (fx : List Nat) (f : M Fl) : Prop :=
  ∀ (fa : Addr) (cdv : Value) (A : Around) (outer : List PySem.Env) (s : Shared) (H : Hp) (E : XK),
    Fine (cxOf (L2.CX P w) P w K mg base N x (defScope st) fa cdv A outer s H E) (fun cl d _ H' => E cl d H') k →
    BV (cxOf (L2.CX P w) P w K mg base N x (defScope st) fa cdv A outer s H E) (fun cl d _ H' => E cl d H') fx (defBody st) f
theorem defV_mk {x : Str} {st : Stmt} {f : Addr} {N ps : List Str} {k m : Nat} {fx : List Nat} {mir : M Fl} (sr : Sr P base) (hm : mg x = some (.ref f)) (F : ∃ fd, FunD K x x (defArgs st) (defBody st) (defScope st) [] [] f fd) (S : FnScope N ps (defScope st))
    (hb : ∀ (kV doc pm : Value) (an : Option Addr) (cdv ct : Value) (us : List Value), us.length = ps.length → bindArgs (PySem.W.fnOf x x (defArgs st) (defBody st) (defScope st) .none kV doc pm an cdv ct) ⟨us, []⟩ = pure (ps.zip us)) (hN : N.length = ps.length + m)
    (body : Walk P w K mg base x st k N fx mir) (h34 : 34 ≤ k := by omega) : DefV P w K mg base x st (k + 1) ps (fnB fx ps.length m (asRet mir)) := by
  obtain ⟨fd, F⟩ := F
  refine ⟨f, fd, hm, F, F.bindsN hb, FunD.okR sr h34 F S (fun vs H Q E h => h.1) fun cdv A outer s H vs Q E hr hg rm h => ⟨_, body f cdv A outer s H E ⟨hr, hg, takes_of rfl rfl rfl rfl, passes_of rfl, S.nd, rm⟩, ?_⟩⟩
  exact fn_core hN h
theorem defL_mk {x : Str} {st : Stmt} {f : Addr} {N ps : List Str} {k m : Nat} {fx : List Nat} {mir : M Fl} (sr : Sr P base) (hm : mg x = some (.ref f)) (F : ∃ fd, FunD K x x (defArgs st) (defBody st) (defScope st) [] [] f fd) (S : FnScope N ps (defScope st))
    (hb : ∀ (kV doc pm : Value) (an : Option Addr) (cdv ct : Value) (us : List Value), us.length = ps.length → bindArgs (PySem.W.fnOf x x (defArgs st) (defBody st) (defScope st) .none kV doc pm an cdv ct) ⟨us, []⟩ = pure (ps.zip us)) (hN : N.length = ps.length + m)
    (body : Walk P w K mg base x st k N fx mir) (h34 : 34 ≤ k := by omega) : DefL P w K mg base x st (k + 1) ps (fnB fx ps.length m (asRetO mir)) := by
  obtain ⟨fd, F⟩ := F
  refine ⟨f, fd, hm, F, F.bindsN hb, FunD.okR sr h34 F S (fun vs H Q E h => h.1) fun cdv A outer s H vs Q E hr hg rm h => ⟨_, body f cdv A outer s H E ⟨hr, hg, takes_of rfl rfl rfl rfl, passes_of rfl, S.nd, rm⟩, ?_⟩⟩
  exact fn_coreN hN h
end
/-! ### facts of the top -/
mutual
/-- the value stands for the datum, all of it written -/
def conB (K : PySem.W.Frag) : D → Value → Bool
  | .non, .none => true
  | .bl b, .bool c => decide (b = c)
  | .int i, .int j _ => decide (i = j)
  | .str x, .str y _ => decide (x = y)
  | .tup ds, .ref a => (match K.lookup a with
    | some ⟨.type c, _, .seq its _, _⟩ => decide (c = "tuple") && (decide (its.size ≤ sizeLine) && conA K ds its.toList)
    | _ => false)
  | _, _ => false
def conA (K : PySem.W.Frag) : List D → List Value → Bool
  | [], [] => true
  | d :: ds, u :: us => conB K d u && conA K ds us
  | _, _ => false
end
mutual
theorem conB_ok {K : PySem.W.Frag} : ∀ (d : D) (u : Value), conB K d u = true → ∃ v, RelV v u ∧ ∀ m g H, Rp m K g H v d
  | .non, u, h => by
    cases u <;> simp [conB] at h
    exact ⟨.non, rfl, fun _ _ _ => .non⟩
  | .bl b, u, h => by
    cases u <;> simp [conB] at h
    exact ⟨.bl b, by rw [h]; rfl, fun _ _ _ => .bl b⟩
  | .int i, u, h => by
    cases u <;> simp [conB] at h
    exact ⟨.int i, by rw [h]; exact ⟨_, rfl⟩, fun _ _ _ => .int i⟩
  | .str x, u, h => by
    cases u <;> simp [conB] at h
    exact ⟨.str x, by rw [h]; exact ⟨_, rfl⟩, fun _ _ _ => .str x⟩
  | .tup ds, u, h => by
    cases u with
    | ref a =>
      simp only [conB] at h
      cases q : K.lookup a with
      | none => rw [q] at h; cases h
      | some o =>
        obtain ⟨oc, od, dt, osl⟩ := o
        rw [q] at h
        cases oc with
        | type c =>
          cases dt with
          | seq its n =>
            obtain ⟨h1, h2⟩ := He.ba (show (decide (c = "tuple") && (decide (its.size ≤ sizeLine) && conA K ds its.toList)) = true from h)
            obtain ⟨h3, h4⟩ := He.ba h2
            obtain ⟨vs, a1, a2⟩ := conA_ok ds _ h4
            exact ⟨.ref a, rfl, fun m g H => .tup (.inr ⟨_, its, n, q, congrArg Value.type (of_decide_eq_true h1), rfl, of_decide_eq_true h3, a1⟩) (a2 m g H)⟩
          | _ => cases h
        | _ => cases dt <;> cases h
    | _ => simp [conB] at h
  | .lst _, u, h => by cases u <;> simp [conB] at h
  | .dic _ _, u, h => by cases u <;> simp [conB] at h
  | .fz _, u, h => by cases u <;> simp [conB] at h
  | .ins _ _ _, u, h => by cases u <;> simp [conB] at h
  | .err _ _ _, u, h => by cases u <;> simp [conB] at h
  | .fn _ _, u, h => by cases u <;> simp [conB] at h
  | .reg _, u, h => by cases u <;> simp [conB] at h
theorem conA_ok {K : PySem.W.Frag} : ∀ (ds : List D) (us : List Value), conA K ds us = true → ∃ vs, Vals vs us ∧ ∀ m g H, RpA m K g H vs ds
  | [], [], _ => ⟨[], .nil, fun _ _ _ => .nil⟩
  | d :: ds, u :: us, h => by
    simp only [conA] at h
    obtain ⟨h1, h2⟩ := He.ba h
    obtain ⟨v, a1, a2⟩ := conB_ok d u h1
    obtain ⟨vs, b1, b2⟩ := conA_ok ds us h2
    exact ⟨v :: vs, .cons a1 b1, fun m g H => .cons (a2 m g H) (b2 m g H)⟩
  | [], _ :: _, h => by simp [conA] at h
  | _ :: _, [], h => by simp [conA] at h
end
inductive Fp where
  | fn (x : Str)
  | free (x : Str)
  | bi (x : Str) (n : String)
  | con (x : Str) (d : D)
  | fa (f : He.Fa)
  | isE (x y : Str) (b : Bool)
  | isT (x : Str) (T : String) (b : Bool)
  | isA (y : Str) (tbl : List (Str × Bool))
  | isAT (T : String) (tbl : List (Str × Bool))
/-- what isinstance asks of an error's class -/
def excB (K : PySem.W.Frag) (D : Addr) : Bool :=
  decide (PySem.W.findIn K (.ref D) "__getattribute__" = some (some (.builtin "BaseException.__getattribute__"))) && (decide (PySem.W.findIn K (.ref D) "__getattr__" = some none) &&
  (decide (PySem.W.subIn K (.ref D) (.type "BaseException") = some true) && (PySem.W.hasDictIn K D && (decide (PySem.W.findIn K (.ref D) "__class__" = some (some (.builtin "object.__class__"))) &&
  (decide (PySem.W.specialIn K (.builtin "object.__class__") "__get__" = some (some (.builtin "getset_descriptor.__get__"))) && (decide (PySem.W.takesIn K (.builtin "object.__class__") = some true) && decide (PySem.W.mroIn K D (.type "object") = some true)))))))
def Fp.ok (K : PySem.W.Frag) : Fp → Bool
  | .fa f => f.ok K
  | .isE x y b => excB K (He.ga K x) && decide (PySem.W.kitOne K (.ref (He.ga K x)) (.ref (He.ga K y)) = some b)
  | .isT x T b => excB K (He.ga K x) && decide (PySem.W.kitOne K (.ref (He.ga K x)) (.type T) = some b)
  | .isA y tbl => tbl.all fun p => excB K (He.ga K p.1) && decide (PySem.W.kitOne K (.ref (He.ga K p.1)) (.ref (He.ga K y)) = some p.2)
  | .isAT T tbl => tbl.all fun p => excB K (He.ga K p.1) && decide (PySem.W.kitOne K (.ref (He.ga K p.1)) (.type T) = some p.2)
  | .fn x => (He.Fa.glo x).ok K
  | .free x => (He.Fa.free x).ok K
  | .bi x n => He.eqO (PySem.W.nsIn K mainGlobals x) (some (some (.builtin n)))
  | .con x d => (match PySem.W.nsIn K mainGlobals x with
    | some (some u) => conB K d u
    | _ => false)
section
variable {K : PySem.W.Frag} {h : Heap} {mg : Str → Option Value}
theorem bi_ok (X : K.In h) (G : h.Ns mainGlobals mg) {x : Str} {n : String} (c : (Fp.bi x n).ok K = true) : mg x = some (.builtin n) := PySem.W.mg_of X G (He.eqO_ok c)
theorem con_ok (X : K.In h) (G : h.Ns mainGlobals mg) {x : Str} {d : D} (c : (Fp.con x d).ok K = true) : ∃ v u, mg x = some u ∧ RelV v u ∧ ∀ m g H, Rp m K g H v d := by
  have c2 : (match PySem.W.nsIn K mainGlobals x with
    | some (some u) => conB K d u
    | _ => false) = true := c
  cases e : PySem.W.nsIn K mainGlobals x with
  | none => rw [e] at c2; cases c2
  | some o =>
    rw [e] at c2
    cases o with
    | none => cases c2
    | some u =>
      obtain ⟨v, a1, a2⟩ := conB_ok d u c2
      exact ⟨v, u, PySem.W.mg_of X G e, a1, a2⟩
end
abbrev AlP : Type := Bool × List He.FnW
def obsP (fa : List Fp) (fn : List He.DefD) (K : PySem.W.Frag) : AlP := ((fa.all fun f => f.ok K) && fn.all fun d => d.ok K, fn.map fun d => He.fnW K d.at_)
def valP (fn : List He.DefD) : AlP := (true, fn.map He.DefD.val)
def SaysP (fa : List Fp) (fn : List He.DefD) (K : PySem.W.Frag) : Prop := obsP fa fn K = valP fn
section
variable {fa : List Fp} {fn : List He.DefD} {K : PySem.W.Frag}
theorem SaysP.fact (c : SaysP fa fn K) (i : Nat) {f : Fp} (h : fa[i]? = some f := by rfl) : f.ok K = true := by
  have c1 := (He.ba (show ((fa.all fun f => f.ok K) && fn.all fun d => d.ok K) = true from congrArg (fun z : AlP => z.1) c)).1
  exact List.all_eq_true.mp c1 f (List.mem_of_getElem? h)
theorem SaysP.def_ (c : SaysP fa fn K) (i : Nat) {d : He.DefD} (h : fn[i]? = some d := by rfl) : ∃ fd, FunD K d.name d.qual d.params d.body d.scope (d.dvs K) (d.kws K) (He.fAd K d.at_) fd := by
  have c2 := (He.ba (show ((fa.all fun f => f.ok K) && fn.all fun d => d.ok K) = true from congrArg (fun z : AlP => z.1) c)).2
  have e : fn.map (fun d => He.fnW K d.at_) = fn.map He.DefD.val := congrArg (fun z : AlP => z.2) c
  have e2 : (fn.map fun d => He.fnW K d.at_)[i]? = (fn.map He.DefD.val)[i]? := by rw [e]
  rw [List.getElem?_map, List.getElem?_map, h] at e2
  exact He.DefD.funD (Option.some.inj e2) (List.all_eq_true.mp c2 d (List.mem_of_getElem? h))
end
/-! ### the law's end -/
/-- the law's mirror, at the script's numbers -/
def Good (n : Nat) (F : M D) : Prop := ∀ ns : List Int, ns.length ≤ n → ∃ ρ', F [.val (.fz ns)] = .ok (.bl true) ρ'
section
variable {P : Program} {w : World} {K : PySem.W.Frag} {mg mb : Str → Option Value} {k : Nat} {fa a : Addr} {fd : FuncData} {x : Str} {F : M D} {s₁ : Shared} {vs : List Value} {ns : List Int}
/-- one call, in a heap where at most the script is known -/
theorem end_one {Hb : Heap} {H : Hp} (hG : FnG P w K mg Hb k fa fd [x] (spD K mg 1 F)) (e0 : Env0 P w K mg Hb callerA [] s₁ H) (hb : BindsTo s₁ fd ⟨[Value.ref a], []⟩ [(x, Value.ref a)]) (hr : Room k callerA) (hT : LamX.Tabs (Tb.T K) H) (hS : RF (fun _ => False) K H a (ns.map V.int)) (hF : ∃ ρ', F [.val (.fz ns)] = .ok (.bl true) ρ') :
    codeAny (model P w) callerA (.call (.ref fa) ⟨[Value.ref a], []⟩) (CR (L2.CX P w) [] P w H s₁ (fun v _ => v = .bl true) fun _ _ _ => False) s₁ := by
  refine hG.run callerA [] s₁ H ⟨[.ref a], []⟩ [.ref a] [.ref a] _ _ hr rfl e0 hb (.cons rfl .nil) ⟨rfl, fun _ => False, [.val (.fz ns)], ?_, ?_⟩
  · have r0 : Rel (fun _ => False) K mg H [] [] := ⟨rfl, fun _ z => z.elim, fun i d e => by simp at e, fun i d e => by simp at e, fun i j _ _ _ e _ _ _ => by simp at e, hT⟩
    have no : ∀ a, ¬ mm (fun _ => False) ([] : L2.St) [] a := fun a z => z.elim id fun ⟨i, _, e, _⟩ => by simp at e
    have em : mm (fun _ => False) ([] : L2.St) [] = fun _ => False := funext fun a => propext ⟨fun z => no a z, False.elim⟩
    have r1 := r0.args (vs := [.ref a]) (ds := [.fz ns]) (by rw [em]; exact .cons (.fz hS) .nil)
    rw [em] at r1
    exact r1
  · obtain ⟨ρ', e⟩ := hF
    show OkD _ _ _ _ _ _ _ _ (F [.val (.fz ns)])
    rw [e]
    intro v H' _ hv _
    exact hv.bl_inv
end
end PV
namespace PV
open PySem PySem.Spec PyProof.Rows L2
variable [Tb]
section
variable {P : Program} {w : World} {K : PySem.W.Frag} {mg mb : Str → Option Value} {k : Nat} {fa a : Addr} {fd : FuncData} {x : Str} {F : M D} {s₁ : Shared} {vs : List Value} {ns : List Int} {h : Heap} {H : Hp}
/-- the script alone may be known -/
structure Lone (K : PySem.W.Frag) (h : Heap) (H : Hp) (a : Addr) (ns : List Int) : Prop where
  rf : RF (fun _ => False) K H a (ns.map V.int)
  one : ∀ b, H b ≠ none → b = a ∧ K.lookup b = none
  only : Only H
theorem lone_none (hl : (∃ o, K.lookup a = some o)) (KX : K.In h) (ha : h.get? a = some { cls := .type "list", data := .seq vs.toArray }) (hi : IntsAre vs ns) (hn : ns.length ≤ sizeLine) : Lone K h (fun _ => none) a ns ∧ HOk P w (fun _ => none) h := by
  obtain ⟨o, hk⟩ := hl
  have eo : o = { cls := .type "list", data := .seq vs.toArray } := by
    have := KX a o hk
    rw [ha] at this
    exact (Option.some.inj this).symm
  subst eo
  have sz : vs.toArray.size ≤ sizeLine := by
    have := hi.length
    simp only [List.size_toArray]; omega
  refine ⟨⟨.inr ⟨_, vs.toArray, _, hk, rfl, rfl, rfl, sz, ?_⟩, fun b z => absurd rfl z, fun b => .inl rfl⟩, fun b u z => nomatch z⟩
  have := vals_ints hi
  simpa using this
theorem lone_one (hl : K.lookup a = none) (ha : h.get? a = some { cls := .type "list", data := .seq vs.toArray }) (hi : IntsAre vs ns) (hn : ns.length ≤ sizeLine) :
    ∃ H, Lone K h H a ns ∧ HOk P w H h := by
  let o : Obj := { cls := .type "list", data := .seq vs.toArray }
  let H : Hp := fun b => if b = a then some (.frz o (.lst (ns.map V.int))) else none
  have at_a : H a = some (.frz o (.lst (ns.map V.int))) := if_pos rfl
  have off : ∀ b, b ≠ a → H b = none := fun b q => if_neg q
  have is_a : ∀ b, H b ≠ none → b = a := fun b z => Classical.byContradiction fun q => z (off b q)
  refine ⟨H, ⟨.inl ⟨id, o, at_a⟩, fun b z => ⟨is_a b z, by rw [is_a b z]; exact hl⟩, fun b => ?_⟩, fun b u z => ?_⟩
  · by_cases q : b = a
    · exact .inr ⟨o, _, by rw [q]; exact at_a⟩
    · exact .inl (off b q)
  · have q := is_a b (by rw [z]; simp)
    subst q
    rw [at_a] at z; cases z
    exact ⟨ha, by simpa using hn, vs, _, vals_ints hi, ha⟩
end
end PV
namespace PV
open PySem PySem.Spec PyProof.Rows L2
variable [Tb]
theorem takes0 {X : Cx} : Takes X W0 := fun u s' ⟨a, B, sI, pins, σ, H, cls, d, e, I, nb, up, sky, na, os, ag, w⟩ => w.elim
theorem set_selfE {ρ : En} {i : Nat} {x : Sl} (h : ρ[i]? = some x) : ρ.set i x = ρ := by
  obtain ⟨hl, e⟩ := List.getElem?_eq_some_iff.mp h
  rw [← e, List.set_getElem_self]
theorem dIx_lst {ds : List D} {k d : D} (h : dIx (.lst ds) k = some d) : ∃ i, k = .int i ∧ atI ds i = some d := by
  cases k <;> simp only [dIx] at h
  · cases h
  · cases h
  · exact ⟨_, rfl, h⟩
  all_goals cases h
theorem Fine.un {X : Cx} {W : WX} {k : Nat} (F : Fine X W k) : X.A.units + 64 < cLine := by have := F.hr.un; omega
theorem gSub_noer (j : Nat) (i : Int) : ∀ d ρ x ρ', gSub1 j (M.ret (.int i)) d ρ ≠ .er x ρ' := fun d ρ x ρ' h => by
  unfold gSub1 mOwned at h
  split at h
  · have h' : (mAt j (setAt (.int i) d) ρ).andThen (fun _ => M.ret ()) = .er x ρ' := h
    unfold mAt at h'
    split at h'
    · split at h' <;> cases h'
    · cases h'
  · cases h
section
variable {X : Cx} {W : WX} {fx : List Nat} {a b c e o : Expr} {fa fb fc fi fe : M D} {pos p : Pos} {j : Nat}
/-- o[i], o owned -/
theorem e_ixO (j : Nat) (ho : PE X o (tVar j)) (hi : EV X W fx e fi) (hs : PlainIx e) : EV X W fx (.Subscript o e pos) (mIxO j fi) := by
  refine PE.imp (pe_ix ix_A ho hi hs) fun σ H Q ⟨m₀, ρ, rr, w⟩ => ?_
  unfold mIxO mOwned at w
  by_cases ho : isOwn ρ j = true
  · rw [if_pos ho] at w
    obtain ⟨ds0, eo⟩ := isOwn_ok ho
    obtain ⟨p0, _, ep, _, _, _⟩ := rr.own j ds0 eo
    refine ⟨.ref p0, ep, ?_⟩
    refine tE.first rr w fun k ρ1 iv H1 r1 h1 s1 w2 => ?_
    unfold mAt at w2
    split at w2
    · rename_i ds eo1
      split at w2
      · rename_i d es e2
        obtain ⟨d', e3, e4⟩ := Option.map_eq_some_iff.mp e2
        cases e4
        obtain ⟨p, vs, ep1, eH, hA, hw⟩ := r1.write eo1
        rw [ep] at ep1; cases ep1
        rw [set_selfE eo1] at w2
        obtain ⟨i, rfl, e4⟩ := dIx_lst e3
        cases h1
        obtain ⟨v, e5, h5⟩ := atI_rp hA e4
        exact .inl ⟨_, _, _, _, rfl, rfl, .inl (.inl eH), e5, w2 v H1 r1 h5 s1⟩
      · exact w2.elim
    · exact w2.elim
  · rw [if_neg ho] at w; exact w.elim
/-! chains of comparisons -/
def mChain (f g : D → D → Option D) (fa fb fc : M D) : M D := M.bind fa fun x => M.bind fb fun y => M.bind (lift (f x y)) fun z => M.bind (lift (asB z)) fun k => if k = true then M.bind fc fun w => lift (g y w) else M.ret (.bl false)
/-! x, y = a, b -/
def mPar (i j : Nat) (fl : M (List D)) : M Fl := M.bind fl fun ds => match ds with
  | [x, y] => M.bind (put i (.val x)) fun _ => M.bind (put j (.val y)) fun _ => M.ret .nx
  | _ => fun _ => .no
def mPar3 (i j l : Nat) (fl : M (List D)) : M Fl := M.bind fl fun ds => match ds with
  | [x, y, z] => M.bind (put i (.val x)) fun _ => M.bind (put j (.val y)) fun _ => M.bind (put l (.val z)) fun _ => M.ret .nx
  | _ => fun _ => .no
variable {fl : M (List D)}
theorem put_ok2 {c : Ct} {m₀ : Addr → Prop} {σ : L2.St} {ρ ρ1 : En} {H : Hp} {β : Type} {S : β → En → Prop} {i : Nat} {sl : Sl} {k : Unit → M β} (w : Want c m₀ σ ρ H S (M.bind (put i sl) k ρ1)) : i < ρ1.length ∧ Want c m₀ σ ρ H S (k () (ρ1.set i sl)) := by
  have w' : Want c m₀ σ ρ H S ((if i < ρ1.length then R.ok () (ρ1.set i sl) else R.no).andThen k) := w
  by_cases h : i < ρ1.length
  · rw [if_pos h] at w'; exact ⟨h, w'⟩
  · rw [if_neg h] at w'; exact w'.elim
theorem s_par (i j : Nat) {x y : Str} {px py pt pt2 : Pos} {kt k2} (hc : X.calm = true) (hN : X.N.Nodup) (ha : LV X W fx [a, b] fl) (hi : X.N[i]? = some x := by rfl) (hj : X.N[j]? = some y := by rfl) (hij : i ≠ j := by decide)
    (hx : X.env.scope.names.lookup x = some .local := by rfl) (hy : X.env.scope.names.lookup y = some .local := by rfl) (hfi : i ∉ fx := by decide) (hfj : j ∉ fx := by decide)
    (hw : swappedStores [.Tuple [.Name x px, .Name y py] kt pt] (.Tuple [a, b] k2 pt2) X.env = pure (some [x, y]) := by rfl)
    (hs : swapsWithSole [.Tuple [.Name x px, .Name y py] kt pt] (.Tuple [a, b] k2 pt2) pos.line X.env = pure false := by rfl) :
    SV X W fx (.Assign [.Tuple [.Name x px, .Name y py] kt pt] (.Tuple [a, b] k2 pt2) pos) (mPar i j fl) := by
  refine PS.imp (ps_par hc hN hi hj hij hx hy ha hw hs) fun E σ H ⟨m₀, ρ, rr, w⟩ => ?_
  refine tL.first rr w fun ds ρ1 vs H1 _ r1 h1 s1 w1 => ?_
  split at w1
  · obtain ⟨v, w', rfl, h2, h3⟩ := rp2 h1
    obtain ⟨hi1, w2⟩ := put_ok2 w1
    obtain ⟨hj1, w3⟩ := put_ok2 w2
    refine ⟨v, w', rfl, w3 _ H1 ?_ ((s1.trans .set).trans .set) ((fx_set hfi).trans (fx_set hfj))⟩
    exact (r1.put hi1 h2).put hj1 (Stp.set.rp r1 h3)
  · exact w1.elim
/-! several, some of them new lists -/
inductive It where
  | d (x : D) | n (xs : List D)
inductive ItA (m : Addr → Prop) (K : PySem.W.Frag) (g : Str → Option Value) (H : Hp) : List V → List It → List Addr → Prop
  | nil : ItA m K g H [] [] []
  | d {v : V} {x : D} {vs : List V} {is : List It} {ps : List Addr} : Rp m K g H v x → ItA m K g H vs is ps → ItA m K g H (v :: vs) (.d x :: is) ps
  | n {p : Addr} {us vs : List V} {xs : List D} {is : List It} {ps : List Addr} : H p = some (.lst us) → RpA m K g H us xs → p ∉ ps → ItA m K g H vs is ps → ItA m K g H (.ref p :: vs) (.n xs :: is) (p :: ps)
theorem ItA.mono {m m' : Addr → Prop} {K : PySem.W.Frag} {g : Str → Option Value} {H H' : Hp} {vs : List V} {is : List It} {ps : List Addr} (h : ItA m K g H vs is ps) (s : Sub' m' m H) (k : Kp m H H') (kp : ∀ p ∈ ps, ∀ o, H p = some o → H' p = some o) : ItA m' K g H' vs is ps := by
  induction h with
  | nil => exact .nil
  | d h1 h2 ih => exact .d (Rp.mono s k _ _ h1) (ih kp)
  | n h1 h2 h3 h4 ih => exact .n (kp _ (by simp) _ h1) (RpA.mono s k _ _ h2) h3 (ih fun p hp => kp p (List.mem_cons_of_mem _ hp))
def iNil : M (List It) := M.ret []
def iD (fa : M D) (fl : M (List It)) : M (List It) := M.bind fa fun x => M.bind fl fun xs => M.ret (.d x :: xs)
def iN (fn : M (List D)) (fl : M (List It)) : M (List It) := M.bind fn fun x => M.bind fl fun xs => M.ret (.n x :: xs)
variable {es : List Expr} {fj : M (List It)} {fn : M (List D)}
def It.sl : It → Sl
  | .d x => .val x
  | .n xs => .own xs
def mJ2 (i j : Nat) (fl : M (List It)) : M Fl := M.bind fl fun ds => match ds with
  | [x, y] => M.bind (put i x.sl) fun _ => M.bind (put j y.sl) fun _ => M.ret .nx
  | _ => fun _ => .no
def mJ3 (i j l : Nat) (fl : M (List It)) : M Fl := M.bind fl fun ds => match ds with
  | [x, y, z] => M.bind (put i x.sl) fun _ => M.bind (put j y.sl) fun _ => M.bind (put l z.sl) fun _ => M.ret .nx
  | _ => fun _ => .no
/-! list(x) as a new list -/
def mListN (fa : M D) : M (List D) := M.bind fa fun d => lift d.items?
/-! numbers: bits, roots -/
def dBits : D → Option D
  | .int i => some (.int (Builtin.Int.intBits i : Nat))
  | _ => none
/-! constants of the top -/
def ConOk (K : PySem.W.Frag) (mg : Str → Option Value) (x : Str) (d : D) : Prop := ∃ v u, mg x = some u ∧ RelV v u ∧ ∀ m g H, Rp m K g H v d
end
/-! ### what is known of the top -/
structure TopOk (fs : List Fp) (fn : List He.DefD) (K : PySem.W.Frag) (mg : Str → Option Value) : Prop where
  ex : ∃ h : Heap, K.In h ∧ h.Ns mainGlobals mg ∧ SaysP fs fn K
/-- and room for divisions of great numbers -/
structure TopSr (P : Program) (base : Heap) (fs : List Fp) (fn : List He.DefD) (K : PySem.W.Frag) (mg : Str → Option Value) : Prop extends TopOk fs fn K mg where
  sr : Sr P base
section
variable {fs : List Fp} {fn : List He.DefD} {K : PySem.W.Frag} {mg : Str → Option Value}
theorem TopOk.con (T : TopOk fs fn K mg) (i : Nat) {x : Str} {d : D} (h : fs[i]? = some (.con x d) := by rfl) : ConOk K mg x d := by
  obtain ⟨hp, a, b, c⟩ := T.ex
  exact con_ok a b (c.fact i h)
theorem TopOk.bi (T : TopOk fs fn K mg) (i : Nat) {x : Str} {n : String} (h : fs[i]? = some (.bi x n) := by rfl) : mg x = some (.builtin n) := by
  obtain ⟨hp, a, b, c⟩ := T.ex
  exact bi_ok a b (c.fact i h)
theorem TopOk.free (T : TopOk fs fn K mg) (i : Nat) {x : Str} (h : fs[i]? = some (.free x) := by rfl) : mg x = none := by
  obtain ⟨hp, a, b, c⟩ := T.ex
  exact He.free_ok a b (c.fact i h)
theorem TopOk.glo (T : TopOk fs fn K mg) (i : Nat) {x : Str} (h : fs[i]? = some (.fn x) := by rfl) : mg x = some (.ref (He.fAd K (x, none))) := by
  obtain ⟨hp, a, b, c⟩ := T.ex
  exact He.glo_ok a b (c.fact i h)
theorem TopOk.fa (T : TopOk fs fn K mg) (i : Nat) {f : He.Fa} (h : fs[i]? = some (.fa f) := by rfl) : f.ok K = true := by
  obtain ⟨hp, a, b, c⟩ := T.ex
  exact c.fact i h
theorem TopOk.isE (T : TopOk fs fn K mg) (i : Nat) {x y : Str} {b : Bool} (h : fs[i]? = some (.isE x y b) := by rfl) : excB K (He.fAd K (x, none)) = true ∧ PySem.W.kitOne K (.ref (He.fAd K (x, none))) (.ref (He.fAd K (y, none))) = some b := by
  obtain ⟨hp, a, b, c⟩ := T.ex
  obtain ⟨h1, h2⟩ := He.ba (c.fact i h)
  exact ⟨h1, of_decide_eq_true h2⟩
theorem TopOk.isT (T : TopOk fs fn K mg) (i : Nat) {x : Str} {t : String} {b : Bool} (h : fs[i]? = some (.isT x t b) := by rfl) : excB K (He.fAd K (x, none)) = true ∧ PySem.W.kitOne K (.ref (He.fAd K (x, none))) (.type t) = some b := by
  obtain ⟨hp, a, b, c⟩ := T.ex
  obtain ⟨h1, h2⟩ := He.ba (c.fact i h)
  exact ⟨h1, of_decide_eq_true h2⟩
theorem TopOk.isA (T : TopOk fs fn K mg) (i : Nat) {y : Str} {tbl : List (Str × Bool)} (h : fs[i]? = some (.isA y tbl) := by rfl) : ∀ p ∈ tbl, excB K (He.fAd K (p.1, none)) = true ∧ PySem.W.kitOne K (.ref (He.fAd K (p.1, none))) (.ref (He.fAd K (y, none))) = some p.2 := fun p hp => by
  obtain ⟨_, a, b, c⟩ := T.ex
  have h2 := List.all_eq_true.mp (show tbl.all _ = true from c.fact i h) p hp
  obtain ⟨h3, h4⟩ := He.ba h2
  exact ⟨h3, of_decide_eq_true h4⟩
theorem TopOk.isAT (T : TopOk fs fn K mg) (i : Nat) {t : String} {tbl : List (Str × Bool)} (h : fs[i]? = some (.isAT t tbl) := by rfl) : ∀ p ∈ tbl, excB K (He.fAd K (p.1, none)) = true ∧ PySem.W.kitOne K (.ref (He.fAd K (p.1, none))) (.type t) = some p.2 := fun p hp => by
  obtain ⟨_, a, b, c⟩ := T.ex
  have h2 := List.all_eq_true.mp (show tbl.all _ = true from c.fact i h) p hp
  obtain ⟨h3, h4⟩ := He.ba h2
  exact ⟨h3, of_decide_eq_true h4⟩
theorem TopOk.fd (T : TopOk fs fn K mg) (i : Nat) {d : He.DefD} (h : fn[i]? = some d := by rfl) : ∃ fd, FunD K d.name d.qual d.params d.body d.scope (d.dvs K) (d.kws K) (He.fAd K d.at_) fd := by
  obtain ⟨hp, a, b, c⟩ := T.ex
  exact c.def_ i h
end
end PV
namespace PV
open PySem PySem.Spec PyProof.Rows L2
/-! ### what a mirror does, by wishes -/
def wp {α : Type} (x : M α) (ρ : En) (Q : α → En → Prop) : Prop := ∃ a ρ', x ρ = .ok a ρ' ∧ Q a ρ'
def ow {α : Type} (o : Option α) (Q : α → Prop) : Prop := ∃ a, o = some a ∧ Q a
section
variable {α β : Type} {ρ ρ' : En} {Q Q' : α → En → Prop} {x : M α}
theorem wp_of {a : α} (h : x ρ = .ok a ρ') : wp x ρ Q ↔ Q a ρ' := ⟨fun ⟨b, r, e, q⟩ => by rw [h] at e; cases e; exact q, fun q => ⟨a, ρ', h, q⟩⟩
theorem wp_mono (h : wp x ρ Q) (i : ∀ a r, Q a r → Q' a r) : wp x ρ Q' := by
  obtain ⟨a, r, e, q⟩ := h
  exact ⟨a, r, e, i a r q⟩
theorem ow_some {a : α} {P : α → Prop} : ow (some a) P ↔ P a := ⟨fun ⟨b, e, q⟩ => by cases e; exact q, fun q => ⟨a, rfl, q⟩⟩
theorem ow_of {o : Option α} {a : α} {P : α → Prop} (h : o = some a) : ow o P ↔ P a := by rw [h]; exact ow_some
theorem wp_ret {a : α} : wp (M.ret a) ρ Q ↔ Q a ρ := wp_of rfl
theorem wp_bind {x : M β} {f : β → M α} : wp (M.bind x f) ρ Q ↔ wp x ρ fun a r => wp (f a) r Q := by
  constructor
  · rintro ⟨a, r, e, q⟩
    obtain ⟨b, r1, e1, e2⟩ := bind_inv e
    exact ⟨b, r1, e1, a, r, e2, q⟩
  · rintro ⟨b, r1, e1, a, r, e2, q⟩
    exact ⟨a, r, by rw [bind_ok e1]; exact e2, q⟩
theorem wp_lift {o : Option α} : wp (lift o) ρ Q ↔ ow o fun a => Q a ρ := by
  cases o with
  | none => exact ⟨fun ⟨_, _, e, _⟩ => (nomatch e), fun ⟨_, e, _⟩ => nomatch e⟩
  | some a => exact (wp_of (ρ' := ρ) (a := a) rfl).trans (ow_some (P := fun a => Q a ρ)).symm
end
def slw (s : Option Sl) (ρ : En) (i : Nat) (Q : D → En → Prop) : Prop := match s with
  | some (.val d) => Q d ρ
  | some (.own ds) => Q (.lst ds) (ρ.set i (.val (.lst ds)))
  | _ => False
section
variable {ρ ρ1 : En} {Q : D → En → Prop} {QU : Unit → En → Prop} {QF : Fl → En → Prop} {QB : Bool → En → Prop} {QL : List D → En → Prop} {QO : Option Int → En → Prop} {i j l n : Nat} {fa fb fc f : M D} {fl : M (List D)} {t : M Bool} {fi : M (List D)}
theorem wp_var : wp (dVar i) ρ Q ↔ slw ρ[i]? ρ i Q := by
  cases h : ρ[i]? with
  | none => exact ⟨fun ⟨_, _, e, _⟩ => (by unfold dVar at e; rw [h] at e; cases e), False.elim⟩
  | some s =>
    cases s with
    | no => exact ⟨fun ⟨_, _, e, _⟩ => (by unfold dVar at e; rw [h] at e; cases e), False.elim⟩
    | val d => exact wp_of (by unfold dVar; rw [h])
    | own ds => exact wp_of (by unfold dVar; rw [h])
theorem slw_val {d : D} : slw (some (.val d)) ρ i Q ↔ Q d ρ := Iff.rfl
theorem slw_own {ds : List D} : slw (some (.own ds)) ρ i Q ↔ Q (.lst ds) (ρ.set i (.val (.lst ds))) := Iff.rfl
theorem wp_put {s : Sl} : wp (put i s) ρ QU ↔ i < ρ.length ∧ QU () (ρ.set i s) := by
  dsimp only [put, wp]
  split
  · rename_i h
    constructor
    · rintro ⟨a, r, e, q⟩; cases e; exact ⟨h, q⟩
    · rintro ⟨_, q⟩; exact ⟨_, _, rfl, q⟩
  · rename_i h
    exact ⟨fun ⟨_, _, e, _⟩ => (nomatch e), fun ⟨z, _⟩ => absurd z h⟩
theorem wp_op {g : D → D → Option D} : wp (mOp g fa fb) ρ Q ↔ wp fa ρ fun x r => wp fb r fun y r2 => ow (g x y) fun z => Q z r2 := by
  unfold mOp; simp only [wp_bind, wp_lift]
theorem wp_un {g : D → Option D} : wp (mUn g fa) ρ Q ↔ wp fa ρ fun x r => ow (g x) fun z => Q z r := by
  unfold mUn; simp only [wp_bind, wp_lift]
theorem wp_cb {g : List D → Option D} : wp (mCB g fl) ρ Q ↔ wp fl ρ fun x r => ow (g x) fun z => Q z r := by
  unfold mCB; simp only [wp_bind, wp_lift]
theorem wp_test : wp (mTest fa) ρ QB ↔ wp fa ρ fun x r => ow (asB x) fun z => QB z r := by
  unfold mTest; simp only [wp_bind, wp_lift]
theorem ow_asB {b : Bool} {P : Bool → Prop} : ow (asB (.bl b)) P ↔ P b := ow_some
theorem wp_iteM {α : Type} {c : Prop} [Decidable c] {x y : M α} {Q : α → En → Prop} : wp (if c then x else y) ρ Q ↔ if c then wp x ρ Q else wp y ρ Q := by split <;> rfl
theorem wp_if : wp (mIf t fa fb) ρ Q ↔ wp t ρ fun c r => if c = true then wp fa r Q else wp fb r Q := by
  unfold mIf; simp only [wp_bind, wp_iteM]
theorem wp_and : wp (mAnd fa fb) ρ Q ↔ wp fa ρ fun x r => ow (asB x) fun c => if c = true then wp fb r Q else Q (.bl false) r := by
  unfold mAnd; simp only [wp_bind, wp_iteM, wp_lift, wp_ret]
theorem wp_or : wp (mOr fa fb) ρ Q ↔ wp fa ρ fun x r => ow (asB x) fun c => if c = true then Q (.bl true) r else wp fb r Q := by
  unfold mOr; simp only [wp_bind, wp_iteM, wp_lift, wp_ret]
theorem wp_not : wp (mNot fa) ρ Q ↔ wp fa ρ fun x r => ow (asB x) fun c => Q (.bl (!c)) r := by
  unfold mNot; simp only [wp_bind, wp_lift, wp_ret]
variable {ta tb : M Bool}
theorem wp_andT : wp (mAndT ta tb) ρ QB ↔ wp ta ρ fun c r => if c = true then wp tb r QB else QB false r := by
  unfold mAndT; simp only [wp_bind, wp_iteM, wp_ret]
theorem wp_orT : wp (mOrT ta tb) ρ QB ↔ wp ta ρ fun c r => if c = true then QB true r else wp tb r QB := by
  unfold mOrT; simp only [wp_bind, wp_iteM, wp_ret]
theorem wp_notT : wp (mNotT ta) ρ QB ↔ wp ta ρ fun c r => QB (!c) r := by
  unfold mNotT; simp only [wp_bind, wp_ret]
theorem wp_chain {g g' : D → D → Option D} : wp (mChain g g' fa fb fc) ρ Q ↔ wp fa ρ fun x r => wp fb r fun y r2 => ow (g x y) fun z => ow (asB z) fun k => if k = true then wp fc r2 fun w r3 => ow (g' y w) fun v => Q v r3 else Q (.bl false) r2 := by
  unfold mChain; simp only [wp_bind, wp_iteM, wp_lift, wp_ret]
theorem wp_nil : wp dNil ρ QL ↔ QL [] ρ := wp_ret
theorem wp_cons : wp (dCons fa fl) ρ QL ↔ wp fa ρ fun x r => wp fl r fun xs r2 => QL (x :: xs) r2 := by
  unfold dCons; simp only [wp_bind, wp_ret]
theorem wp_tup : wp (mTup fl) ρ Q ↔ wp fl ρ fun xs r => Q (.tup xs) r := by
  unfold mTup; simp only [wp_bind, wp_ret]
theorem wp_lst : wp (mLst fl) ρ Q ↔ wp fl ρ fun xs r => Q (.lst xs) r := by
  unfold mLst; simp only [wp_bind, wp_ret]
theorem wp_oNone : wp oNone ρ QO ↔ QO none ρ := wp_ret
theorem wp_oSome : wp (oSome fa) ρ QO ↔ wp fa ρ fun d r => ∃ k, d = .int k ∧ QO (some k) r := by
  unfold oSome
  simp only [wp_bind, wp_lift]
  constructor
  · intro h
    refine wp_mono h fun d r ⟨a, e, q⟩ => ?_
    split at e
    · cases e; exact ⟨_, rfl, q⟩
    · cases e
  · intro h
    refine wp_mono h fun d r ⟨k, e, q⟩ => ?_
    subst e
    exact ⟨_, rfl, q⟩
theorem wp_sl {lo hi : M (Option Int)} : wp (mSl fa lo hi) ρ Q ↔ wp fa ρ fun d r => wp lo r fun a r2 => wp hi r2 fun b r3 => ow (dSl a b d) fun z => Q z r3 := by
  unfold mSl; simp only [wp_bind, wp_lift]
/-! statements -/
def flw (fl : Fl) (ρ : En) (K : En → Prop) (Q : Fl → En → Prop) : Prop := match fl with
  | .nx => K ρ
  | .bk => Q .bk ρ
  | .ct => Q .ct ρ
  | .rt d => Q (.rt d) ρ
  | .ro ds => Q (.ro ds) ρ
variable {F G : M Fl}
theorem wp_seq : wp (mSeq F G) ρ QF ↔ wp F ρ fun fl r => flw fl r (fun r2 => wp G r2 QF) QF := by
  unfold mSeq
  simp only [wp_bind]
  constructor
  · intro h
    refine wp_mono h fun fl r q => ?_
    cases fl <;> first | exact q | exact wp_ret.mp q
  · intro h
    refine wp_mono h fun fl r q => ?_
    cases fl <;> first | exact q | exact wp_ret.mpr q
theorem flw_nx {K : En → Prop} : flw .nx ρ K QF ↔ K ρ := Iff.rfl
theorem flw_bk {K : En → Prop} : flw .bk ρ K QF ↔ QF .bk ρ := Iff.rfl
theorem flw_ct {K : En → Prop} : flw .ct ρ K QF ↔ QF .ct ρ := Iff.rfl
theorem flw_rt {K : En → Prop} {d : D} : flw (.rt d) ρ K QF ↔ QF (.rt d) ρ := Iff.rfl
theorem flw_ro {K : En → Prop} {d : List D} : flw (.ro d) ρ K QF ↔ QF (.ro d) ρ := Iff.rfl
theorem wp_set : wp (mSet i fa) ρ QF ↔ wp fa ρ fun d r => i < r.length ∧ QF .nx (r.set i (.val d)) := by
  unfold mSet; simp only [wp_bind, wp_put, wp_ret]
theorem wp_own : wp (mOwn i fl) ρ QF ↔ wp fl ρ fun d r => i < r.length ∧ QF .nx (r.set i (.own d)) := by
  unfold mOwn; simp only [wp_bind, wp_put, wp_ret]
theorem wp_rett : wp (mRet fa) ρ QF ↔ wp fa ρ fun d r => QF (.rt d) r := by
  unfold mRet; simp only [wp_bind, wp_ret]
theorem wp_retO : wp (mRetO fl) ρ QF ↔ wp fl ρ fun d r => QF (.ro d) r := by
  unfold mRetO; simp only [wp_bind, wp_ret]
theorem wp_expr : wp (mExpr fa) ρ QF ↔ wp fa ρ fun d r => QF .nx r := by
  unfold mExpr; simp only [wp_bind, wp_ret]
theorem wp_ifS : wp (mIfS t F G) ρ QF ↔ wp t ρ fun c r => if c = true then wp F r QF else wp G r QF := by
  unfold mIfS; simp only [wp_bind, wp_iteM]
theorem wp_asg {g : D → M Unit} : wp (mAsg fa g) ρ QF ↔ wp fa ρ fun d r => wp (g d) r fun _ r2 => QF .nx r2 := by
  unfold mAsg; simp only [wp_bind, wp_ret]
def l2w (ds : List D) (P : D → D → Prop) : Prop := match ds with
  | [x, y] => P x y
  | _ => False
def l3w (ds : List D) (P : D → D → D → Prop) : Prop := match ds with
  | [x, y, z] => P x y z
  | _ => False
theorem l2w_mk {x y : D} {P : D → D → Prop} : l2w [x, y] P ↔ P x y := Iff.rfl
theorem l3w_mk {x y z : D} {P : D → D → D → Prop} : l3w [x, y, z] P ↔ P x y z := Iff.rfl
theorem wp_no {α : Type} {Q : α → En → Prop} : wp (fun _ => .no) ρ Q ↔ False := ⟨fun ⟨_, _, e, _⟩ => (nomatch e), False.elim⟩
theorem wp_par : wp (mPar i j fl) ρ QF ↔ wp fl ρ fun ds r => l2w ds fun x y => i < r.length ∧ j < (r.set i (.val x)).length ∧ QF .nx ((r.set i (.val x)).set j (.val y)) := by
  unfold mPar
  simp only [wp_bind]
  constructor
  · intro h
    refine wp_mono h fun ds r q => ?_
    split at q
    · simp only [wp_bind, wp_put, wp_ret] at q; exact q
    · exact (wp_no.mp q).elim
  · intro h
    refine wp_mono h fun ds r q => ?_
    unfold l2w at q
    split at q
    · simp only [wp_bind, wp_put, wp_ret]; exact q
    · exact q.elim
theorem wp_par3 : wp (mPar3 i j l fl) ρ QF ↔ wp fl ρ fun ds r => l3w ds fun x y z => i < r.length ∧ j < (r.set i (.val x)).length ∧ l < ((r.set i (.val x)).set j (.val y)).length ∧ QF .nx (((r.set i (.val x)).set j (.val y)).set l (.val z)) := by
  unfold mPar3
  simp only [wp_bind]
  constructor
  · intro h
    refine wp_mono h fun ds r q => ?_
    split at q
    · simp only [wp_bind, wp_put, wp_ret] at q; exact q
    · exact (wp_no.mp q).elim
  · intro h
    refine wp_mono h fun ds r q => ?_
    unfold l3w at q
    split at q
    · simp only [wp_bind, wp_put, wp_ret]; exact q
    · exact q.elim
/-! targets -/
theorem wp_gN {d : D} : wp (gN i d) ρ QU ↔ i < ρ.length ∧ QU () (ρ.set i (.val d)) := wp_put
theorem wp_gsNil : wp (gsNil []) ρ QU ↔ QU () ρ := wp_ret
theorem wp_gsCons {g : D → M Unit} {h : List D → M Unit} {d : D} {ds : List D} : wp (gsCons g h (d :: ds)) ρ QU ↔ wp (g d) ρ fun _ r => wp (h ds) r QU := by
  unfold gsCons; simp only [wp_bind]
theorem wp_gT {h : List D → M Unit} {ds : List D} : wp (gT h (.tup ds)) ρ QU ↔ wp (h ds) ρ QU := Iff.rfl
theorem wp_gTl {h : List D → M Unit} {ds : List D} : wp (gT h (.lst ds)) ρ QU ↔ wp (h ds) ρ QU := Iff.rfl
/-! owned lists -/
def ownw (s : Option Sl) (P : List D → Prop) : Prop := match s with
  | some (.own ds) => P ds
  | _ => False
theorem ownw_mk {ds : List D} {P : List D → Prop} : ownw (some (.own ds)) P ↔ P ds := Iff.rfl
theorem ownw_iff {s : Option Sl} {P : List D → Prop} : ownw s P ↔ ∃ ds, s = some (.own ds) ∧ P ds := by
  unfold ownw
  constructor
  · intro h; split at h
    · exact ⟨_, rfl, h⟩
    · exact h.elim
  · rintro ⟨ds, rfl, h⟩; exact h
theorem isOwn_iff : isOwn ρ j = true ↔ ownw ρ[j]? fun _ => True := by
  rw [ownw_iff]
  exact ⟨fun h => (isOwn_ok h).imp fun _ e => ⟨e, trivial⟩, fun ⟨ds, e, _⟩ => by unfold isOwn; rw [e]⟩
theorem wp_owned {α : Type} {x : M α} {Q : α → En → Prop} : wp (mOwned j x) ρ Q ↔ (ownw ρ[j]? fun _ => True) ∧ wp x ρ Q := by
  rw [← isOwn_iff]
  dsimp only [mOwned, wp]
  constructor
  · rintro ⟨a, r, e, q⟩
    by_cases h : isOwn ρ j = true
    · rw [if_pos h] at e; exact ⟨h, a, r, e, q⟩
    · rw [if_neg h] at e; cases e
  · rintro ⟨h, a, r, e, q⟩
    exact ⟨a, r, by rw [if_pos h]; exact e, q⟩
theorem wp_at {α : Type} {g : List D → Option (α × List D)} {Q : α → En → Prop} : wp (mAt j g) ρ Q ↔ ownw ρ[j]? fun ds => ow (g ds) fun z => Q z.1 (ρ.set j (.own z.2)) := by
  rw [ownw_iff]
  dsimp only [mAt, wp]
  constructor
  · rintro ⟨a, r, e, q⟩
    split at e
    · rename_i ds eo
      split at e
      · rename_i a' es e2
        cases e
        exact ⟨ds, eo, (a, es), e2, q⟩
      · cases e
    · cases e
  · rintro ⟨ds, eo, ⟨a, es⟩, e2, q⟩
    exact ⟨a, ρ.set j (.own es), by simp only [eo, e2], q⟩
theorem wp_ixO : wp (mIxO j fi_) ρ Q ↔ (ownw ρ[j]? fun _ => True) ∧ wp fi_ ρ fun k r => ownw r[j]? fun ds => ow (dIx (.lst ds) k) fun d => Q d r := by
  unfold mIxO
  simp only [wp_owned, wp_bind, wp_at, ownw_iff]
  refine and_congr_right fun _ => ?_
  constructor
  · intro h
    refine wp_mono h fun k r ⟨ds, e, ⟨d, es⟩, e2, q⟩ => ?_
    obtain ⟨d', e3, e4⟩ := Option.map_eq_some_iff.mp e2
    cases e4
    rw [set_selfE e] at q
    exact ⟨_, e, d, e3, q⟩
  · intro h
    refine wp_mono h fun k r ⟨ds, e, d, e2, q⟩ => ?_
    refine ⟨ds, e, (d, ds), by rw [e2]; rfl, ?_⟩
    simp only [set_selfE e]
    exact q
theorem wp_lenO : wp (mLenO j) ρ Q ↔ ownw ρ[j]? fun ds => Q (.int ds.length) ρ := by
  unfold mLenO
  simp only [wp_at, ownw_iff]
  constructor
  · rintro ⟨ds, e, z, e2, q⟩
    cases e2
    rw [set_selfE e] at q
    exact ⟨ds, e, q⟩
  · rintro ⟨ds, e, q⟩
    refine ⟨ds, e, _, rfl, ?_⟩
    simp only [set_selfE e]; exact q
theorem wp_gSub {d : D} : wp (gSub1 j fa d) ρ QU ↔ (ownw ρ[j]? fun _ => True) ∧ wp fa ρ fun k r => ownw r[j]? fun ds => ow (setAt k d ds) fun z => QU () (r.set j (.own z.2)) := by
  unfold gSub1
  simp only [wp_owned, wp_bind, wp_at, wp_ret]
theorem wp_app : wp (mApp j fa) ρ Q ↔ (ownw ρ[j]? fun _ => True) ∧ wp fa ρ fun d r => ownw r[j]? fun ds => ds.length < 1000000 ∧ Q .non (r.set j (.own (ds ++ [d]))) := by
  unfold mApp
  simp only [wp_owned, wp_bind, wp_at, wp_ret, ownw_iff]
  refine and_congr_right fun _ => ?_
  constructor
  · intro h
    refine wp_mono h fun k r ⟨ds, e, z, e2, q⟩ => ?_
    unfold appAt at e2
    split at e2
    · rename_i hl
      cases e2
      exact ⟨ds, e, hl, q⟩
    · cases e2
  · intro h
    refine wp_mono h fun k r ⟨ds, e, hl, q⟩ => ?_
    exact ⟨ds, e, ((), ds ++ [k]), by unfold appAt; rw [if_pos hl], q⟩
/-! what is walked -/
theorem wp_iter : wp (mIter fa) ρ QL ↔ wp fa ρ fun d r => ow d.items? fun ds => QL ds r := by
  unfold mIter; simp only [wp_bind, wp_lift]
theorem wp_iter' {g : List D → Option (List D)} : wp (mIter' g fl) ρ QL ↔ wp fl ρ fun d r => ow (g d) fun ds => QL ds r := by
  unfold mIter'; simp only [wp_bind, wp_lift]
theorem wp_for {g : D → M Unit} : wp (mFor fi g F) ρ QF ↔ wp fi ρ fun ds r => wp (loopL g F ds) r QF := by
  unfold mFor; simp only [wp_bind]
/-- behind a loop's turn -/
def turnw (fl : Fl) (ρ : En) (K : En → Prop) (Q : Fl → En → Prop) : Prop := match fl with
  | .nx => K ρ
  | .ct => K ρ
  | .bk => Q .nx ρ
  | .rt d => Q (.rt d) ρ
  | .ro ds => Q (.ro ds) ρ
theorem turnw_nx {K : En → Prop} : turnw .nx ρ K QF ↔ K ρ := Iff.rfl
theorem turnw_ct {K : En → Prop} : turnw .ct ρ K QF ↔ K ρ := Iff.rfl
theorem turnw_bk {K : En → Prop} : turnw .bk ρ K QF ↔ QF .nx ρ := Iff.rfl
theorem turnw_rt {K : En → Prop} {d : D} : turnw (.rt d) ρ K QF ↔ QF (.rt d) ρ := Iff.rfl
theorem turnw_ro {K : En → Prop} {d : List D} : turnw (.ro d) ρ K QF ↔ QF (.ro d) ρ := Iff.rfl
theorem wp_loop0 {g : D → M Unit} : wp (loopL g F []) ρ QF ↔ QF .nx ρ := wp_ret
theorem wp_loop1 {g : D → M Unit} {d : D} {ds : List D} : wp (loopL g F (d :: ds)) ρ QF ↔ wp (g d) ρ fun _ r => wp F r fun fl r2 => turnw fl r2 (fun r3 => wp (loopL g F ds) r3 QF) QF := by
  show wp (M.bind (g d) _) ρ QF ↔ _
  simp only [wp_bind]
  constructor
  · intro h
    refine wp_mono h fun _ r h2 => wp_mono h2 fun fl r2 q => ?_
    cases fl <;> first | exact q | exact wp_ret.mp q
  · intro h
    refine wp_mono h fun _ r h2 => wp_mono h2 fun fl r2 q => ?_
    cases fl <;> first | exact q | exact wp_ret.mpr q
theorem wp_loop {g : D → M Unit} (I : List D → En → Prop) : ∀ {ds : List D} {ρ : En}, I ds ρ → (∀ d ds r, I (d :: ds) r → wp (g d) r fun _ r1 => wp F r1 fun fl r2 => turnw fl r2 (fun r3 => I ds r3) QF) → (∀ r, I [] r → QF .nx r) → wp (loopL g F ds) ρ QF
  | [], ρ, h, _, hd => wp_loop0.mpr (hd ρ h)
  | d :: ds, ρ, h, st, hd => by
    rw [wp_loop1]
    refine wp_mono (st d ds ρ h) fun _ r h2 => wp_mono h2 fun fl r2 q => ?_
    cases fl <;> first | exact q | exact wp_loop I q st hd
/-! comprehensions -/
theorem wp_lenM : wp (lenM n) ρ QU ↔ ρ.length = n ∧ QU () ρ := by
  dsimp only [lenM, wp]
  split
  · rename_i h; exact ⟨fun ⟨_, _, e, q⟩ => by cases e; exact ⟨h, q⟩, fun ⟨_, q⟩ => ⟨_, _, rfl, q⟩⟩
  · rename_i h; exact ⟨fun ⟨_, _, e, _⟩ => (nomatch e), fun ⟨z, _⟩ => absurd z h⟩
theorem wp_wipeM {vs : List Nat} : wp (wipeM vs) ρ QU ↔ (vs.all fun i => !isOwn ρ i) = true ∧ QU () (wipeE ρ vs) := by
  dsimp only [wipeM, wp]
  split
  · rename_i h; exact ⟨fun ⟨_, _, e, q⟩ => by cases e; exact ⟨h, q⟩, fun ⟨_, q⟩ => ⟨_, _, rfl, q⟩⟩
  · rename_i h; exact ⟨fun ⟨_, _, e, _⟩ => (nomatch e), fun ⟨z, _⟩ => absurd z h⟩
theorem wp_noEr {α : Type} {x : M α} {Q : α → En → Prop} : wp (noEr x) ρ Q ↔ wp x ρ Q := by
  dsimp only [noEr, wp]
  constructor
  · rintro ⟨a, r, e, q⟩
    split at e
    · rename_i e2; cases e; exact ⟨_, _, e2, q⟩
    · cases e
  · rintro ⟨a, r, e, q⟩
    exact ⟨a, r, by rw [e], q⟩
variable {vs : List Nat} {g : D → M Unit}
theorem wp_lc : wp (mLc n vs fi g t f) ρ QL ↔ wp fi ρ fun ds r => r.length = n ∧ ds.length ≤ 100000 ∧ wp (lcL n vs g t f ds) r fun ys r2 => r2.length = n ∧ (vs.all fun i => !isOwn r2 i) = true ∧ QL ys (wipeE r2 vs) := by
  unfold mLc
  simp only [wp_bind, wp_noEr, wp_lenM]
  constructor
  · intro h
    refine wp_mono h fun ds r ⟨h1, h2⟩ => ⟨h1, ?_⟩
    by_cases hl : ds.length ≤ 100000
    · rw [if_pos hl] at h2
      simp only [wp_bind, wp_lenM, wp_wipeM, wp_ret] at h2
      exact ⟨hl, h2⟩
    · rw [if_neg hl] at h2; exact (wp_no.mp h2).elim
  · intro h
    refine wp_mono h fun ds r ⟨h1, hl, h2⟩ => ⟨h1, ?_⟩
    rw [if_pos hl]
    simp only [wp_bind, wp_lenM, wp_wipeM, wp_ret]
    exact h2
theorem wp_lc0 : wp (lcL n vs g t f []) ρ QL ↔ QL [] ρ := wp_ret
theorem wp_lc1 {d : D} {ds : List D} : wp (lcL n vs g t f (d :: ds)) ρ QL ↔ ρ.length = n ∧ (vs.all fun i => !isOwn ρ i) = true ∧ wp (g d) (wipeE ρ vs) fun _ r => r.length = n ∧ wp t r fun b r1 =>
    if b = true then wp f r1 fun y r2 => wp (lcL n vs g t f ds) r2 fun zs r3 => QL (y :: zs) r3 else wp (lcL n vs g t f ds) r1 fun zs r3 => QL zs r3 := by
  show wp (M.bind (lcTurn n vs g t f d) _) ρ QL ↔ _
  unfold lcTurn
  simp only [wp_bind, wp_lenM, wp_wipeM, wp_iteM, wp_ret]
  constructor
  · rintro ⟨h1, h2, h3⟩
    refine ⟨h1, h2, wp_mono h3 fun _ r ⟨h4, h5⟩ => ⟨h4, wp_mono h5 fun b r1 h6 => ?_⟩⟩
    cases b with
    | true => exact h6
    | false => exact h6
  · rintro ⟨h1, h2, h3⟩
    refine ⟨h1, h2, wp_mono h3 fun _ r ⟨h4, h5⟩ => ⟨h4, wp_mono h5 fun b r1 h6 => ?_⟩⟩
    cases b with
    | true => exact h6
    | false => exact h6
inductive All2 {α β : Type} (P : α → β → Prop) : List α → List β → Prop
  | nil : All2 P [] []
  | cons {a : α} {b : β} {as : List α} {bs : List β} : P a b → All2 P as bs → All2 P (a :: as) (b :: bs)
/-- a comprehension, each turn by itself: what is kept of the slots is I, what is told of an item is P -/
theorem wp_lcs (I : En → Prop) (P : D → List D → Prop) : ∀ {ds : List D} {ρ : En}, I ρ → (∀ d, d ∈ ds → ∀ r, I r → r.length = n ∧ (vs.all fun i => !isOwn r i) = true ∧ wp (g d) (wipeE r vs) fun _ r1 => r1.length = n ∧ wp t r1 fun b r2 =>
    if b = true then wp f r2 fun y r3 => I r3 ∧ P d [y] else I r2 ∧ P d []) → wp (lcL n vs g t f ds) ρ fun ys r => I r ∧ ∃ yss, ys = List.flatten yss ∧ All2 P ds yss
  | [], ρ, h, _ => wp_lc0.mpr ⟨h, [], rfl, .nil⟩
  | d :: ds, ρ, h, st => by
    rw [wp_lc1]
    obtain ⟨h1, h2, h3⟩ := st d List.mem_cons_self ρ h
    refine ⟨h1, h2, wp_mono h3 fun _ r ⟨h4, h5⟩ => ⟨h4, wp_mono h5 fun b r1 h6 => ?_⟩⟩
    have rec' : ∀ {r : En}, I r → wp (lcL n vs g t f ds) r fun ys r => I r ∧ ∃ yss, ys = List.flatten yss ∧ All2 P ds yss := fun hr => wp_lcs I P hr fun d' hd' => st d' (List.mem_cons_of_mem _ hd')
    cases b with
    | true =>
      rw [if_pos rfl] at h6 ⊢
      refine wp_mono h6 fun y r2 ⟨h7, h8⟩ => wp_mono (rec' h7) fun zs r3 ⟨h9, yss, e, q⟩ => ⟨h9, [y] :: yss, by rw [e]; rfl, .cons h8 q⟩
    | false =>
      rw [if_neg Bool.false_ne_true] at h6 ⊢
      exact wp_mono (rec' h6.1) fun zs r3 ⟨h9, yss, e, q⟩ => ⟨h9, [] :: yss, by rw [e]; rfl, .cons h6.2 q⟩
/-! calls -/
theorem wp_callV {α : Type} {H : M α} {ds : List D} {Q : α → En → Prop} : wp (callV n H ds) ρ Q ↔ ds.length = n ∧ wp H (ds.map .val) fun d _ => Q d ρ := by
  dsimp only [callV, wp]
  by_cases hl : ds.length = n
  · simp only [if_pos hl]
    constructor
    · rintro ⟨a, r, e, q⟩
      refine ⟨hl, ?_⟩
      split at e
      · cases e
      · cases e
      · rename_i d ρ' e2; cases e; exact ⟨_, _, e2, q⟩
    · rintro ⟨_, a, r, e, q⟩
      exact ⟨a, ρ, by rw [e], q⟩
  · simp only [if_neg hl]
    exact ⟨fun ⟨_, _, e, _⟩ => (nomatch e), fun ⟨z, _⟩ => absurd z hl⟩
theorem wp_callL {H : M (List D)} {ds : List D} : wp (callL n H ds) ρ QL ↔ ds.length = n ∧ wp H (ds.map .val) fun d _ => QL d ρ := by
  dsimp only [callL, wp]
  by_cases hl : ds.length = n
  · simp only [if_pos hl]
    constructor
    · rintro ⟨a, r, e, q⟩
      refine ⟨hl, ?_⟩
      split at e
      · rename_i d ρ' e2; cases e; exact ⟨_, _, e2, q⟩
      · cases e
    · rintro ⟨_, a, r, e, q⟩
      exact ⟨a, ρ, by rw [e], q⟩
  · simp only [if_neg hl]
    exact ⟨fun ⟨_, _, e, _⟩ => (nomatch e), fun ⟨z, _⟩ => absurd z hl⟩
def ohw (r : En) (P : List D → Prop) : Prop := match r with
  | .own L :: _ => P L
  | _ => False
theorem wp_callO {H : M D} {ds : List D} : wp (callO n H i ds) ρ Q ↔ ownw ρ[i]? fun L => ds.length + 1 = n ∧ wp H (.own L :: ds.map .val) fun d r => ohw r fun L' => Q d (ρ.set i (.own L')) := by
  dsimp only [callO, wp]
  rw [ownw_iff]
  constructor
  · rintro ⟨a, r, e, q⟩
    split at e
    · rename_i L eo
      refine ⟨L, eo, ?_⟩
      split at e
      · rename_i hl
        refine ⟨hl, ?_⟩
        split at e
        · cases e
        · cases e
        · cases e
        · rename_i d L' τ e2; cases e; exact ⟨_, _, e2, q⟩
        · cases e
      · cases e
    · cases e
  · rintro ⟨L, eo, hl, a, r, e, q⟩
    unfold ohw at q
    split at q
    · rename_i L' τ
      exact ⟨a, ρ.set i (.own L'), by rw [eo]; simp only [if_pos hl]; rw [e], q⟩
    · exact q.elim
theorem wp_callN {H : M D} {L : List D} : wp (callN n H L) ρ Q ↔ n = 1 ∧ wp H [.own L] fun d _ => Q d ρ := by
  dsimp only [callN, wp]
  by_cases hl : n = 1
  · simp only [if_pos hl]
    constructor
    · rintro ⟨a, r, e, q⟩
      refine ⟨hl, ?_⟩
      split at e
      · cases e
      · cases e
      · rename_i d ρ' e2; cases e; exact ⟨_, _, e2, q⟩
    · rintro ⟨_, a, r, e, q⟩
      exact ⟨a, ρ, by rw [e], q⟩
  · simp only [if_neg hl]
    exact ⟨fun ⟨_, _, e, _⟩ => (nomatch e), fun ⟨z, _⟩ => absurd z hl⟩
theorem wp_callK {H : M D} {ds es : List D} {a b : Nat} {ix : List Nat} : wp (callK n a b ix H ds es) ρ Q ↔ wp (callV n H (kwOf a b ix ds es)) ρ Q := Iff.rfl
theorem wp_fnB {α : Type} {fx : List Nat} {m : Nat} {H : M α} {Q : α → En → Prop} : wp (fnB fx n m H) ρ Q ↔ (ρ.length = n ∧ ownsIn fx ρ = true) ∧ wp H (ρ ++ List.replicate m .no) fun d r => ow (finE ρ r) fun q => Q d q := by
  dsimp only [fnB, wp, fnEnd]
  by_cases hc : ρ.length = n ∧ ownsIn fx ρ = true
  · simp only [if_pos hc]
    constructor
    · rintro ⟨a, r, e, q⟩
      refine ⟨hc, ?_⟩
      split at e
      · cases e
      · split at e <;> cases e
      · rename_i d ρ' e2
        split at e
        · rename_i z e3
          cases e
          exact ⟨_, _, e2, _, e3, q⟩
        · cases e
    · rintro ⟨_, a, r, e, z, e3, q⟩
      exact ⟨a, z, by rw [e]; simp only [e3], q⟩
  · simp only [if_neg hc]
    exact ⟨fun ⟨_, _, e, _⟩ => (nomatch e), fun ⟨z, _⟩ => absurd z hc⟩
def retw (fl : Fl) (P : D → Prop) : Prop := match fl with
  | .rt d => P d
  | .nx => P .non
  | _ => False
def retOw (fl : Fl) (P : List D → Prop) : Prop := match fl with
  | .ro d => P d
  | _ => False
theorem retw_rt {d : D} {P : D → Prop} : retw (.rt d) P ↔ P d := Iff.rfl
theorem retw_nx {P : D → Prop} : retw .nx P ↔ P .non := Iff.rfl
theorem retOw_ro {d : List D} {P : List D → Prop} : retOw (.ro d) P ↔ P d := Iff.rfl
theorem wp_asRet : wp (asRet F) ρ Q ↔ wp F ρ fun fl r => retw fl fun d => Q d r := by
  unfold asRet
  simp only [wp_bind]
  constructor
  · intro h
    refine wp_mono h fun fl r q => ?_
    cases fl <;> first | exact wp_ret.mp q | exact (wp_no.mp q).elim
  · intro h
    refine wp_mono h fun fl r q => ?_
    cases fl <;> first | exact wp_ret.mpr q | exact q.elim
theorem wp_asRetO : wp (asRetO F) ρ QL ↔ wp F ρ fun fl r => retOw fl fun d => QL d r := by
  unfold asRetO
  simp only [wp_bind]
  constructor
  · intro h
    refine wp_mono h fun fl r q => ?_
    cases fl <;> first | exact wp_ret.mp q | exact (wp_no.mp q).elim
  · intro h
    refine wp_mono h fun fl r q => ?_
    cases fl <;> first | exact wp_ret.mpr q | exact q.elim
end
end PV
namespace PV
open PySem PySem.Spec PyProof.Rows L2
/-! ### operators, by wishes -/
section
variable {P : D → Prop} {a b : Int} {x y z : D} {xs ys : List D} {p q : Bool} {s u : Str}
theorem ow_add : ow (dAdd (.int a) (.int b)) P ↔ P (.int (a + b)) := ow_some
theorem ow_sub : ow (dSub (.int a) (.int b)) P ↔ P (.int (a - b)) := ow_some
theorem ow_neg : ow (dNeg (.int a)) P ↔ P (.int (-a)) := ow_some
theorem ow_ite {α : Type} {c : Prop} [Decidable c] {o : Option α} {P : α → Prop} : ow (if c then o else none) P ↔ c ∧ ow o P := by
  by_cases h : c
  · rw [if_pos h]; exact ⟨fun q => ⟨h, q⟩, fun q => q.2⟩
  · rw [if_neg h]; exact ⟨fun ⟨_, e, _⟩ => (nomatch e), fun q => absurd q.1 h⟩
theorem ow_mul : ow (dMul (.int a) (.int b)) P ↔ mulOk a b = true ∧ P (.int (a * b)) := by
  unfold dMul; rw [ow_ite, ow_some]
theorem ow_div : ow (dDiv (.int a) (.int b)) P ↔ divOk b = true ∧ P (.int (a.fdiv b)) := by
  unfold dDiv; rw [ow_ite, ow_some]
theorem ow_mod : ow (dMod (.int a) (.int b)) P ↔ b ≠ 0 ∧ P (.int (a.fmod b)) := by
  unfold dMod; rw [ow_ite, ow_some]
theorem ow_pow : ow (dPow (.int a) (.int b)) P ↔ (0 ≤ b ∧ b ≤ 100000 ∧ a.natAbs < 2 ^ 64) ∧ P (.int (a ^ b.toNat)) := by
  unfold dPow; rw [ow_ite, ow_some]
theorem ow_lt : ow (dLt (.int a) (.int b)) P ↔ P (.bl (decide (a < b))) := ow_some
theorem ow_le : ow (dLe (.int a) (.int b)) P ↔ P (.bl (decide (a ≤ b))) := ow_some
theorem ow_gt : ow (dGt (.int a) (.int b)) P ↔ P (.bl (decide (b < a))) := ow_some
theorem ow_ge : ow (dGe (.int a) (.int b)) P ↔ P (.bl (decide (b ≤ a))) := ow_some
theorem ow_isNon : ow (dIs x .non) P ↔ P (.bl (isNon x)) := by cases x <;> exact ow_some
theorem ow_isNotNon : ow (dIsNot x .non) P ↔ P (.bl (!isNon x)) := by cases x <;> exact ow_some
theorem ow_isBl : ow (dIs (.bl p) (.bl q)) P ↔ P (.bl (decide (p = q))) := ow_some
theorem ow_isNotBl : ow (dIsNot (.bl p) (.bl q)) P ↔ P (.bl (!decide (p = q))) := ow_some
theorem isNon_non : isNon .non = true := rfl
theorem isNon_int : isNon (.int a) = false := rfl
theorem isNon_bl : isNon (.bl p) = false := rfl
theorem isNon_tup : isNon (.tup xs) = false := rfl
theorem isNon_lst : isNon (.lst xs) = false := rfl
theorem isNon_str : isNon (.str s) = false := rfl
theorem ow_items_tup {P : List D → Prop} : ow (D.items? (.tup xs)) P ↔ P xs := ow_some
theorem ow_items_lst {P : List D → Prop} : ow (D.items? (.lst xs)) P ↔ P xs := ow_some
theorem ow_len_tup : ow (dLen [.tup xs]) P ↔ P (.int xs.length) := ow_some
theorem ow_len_lst : ow (dLen [.lst xs]) P ↔ P (.int xs.length) := ow_some
theorem ow_len_fz {ns : List Int} : ow (dLen [.fz ns]) P ↔ P (.int ns.length) := ow_some
theorem ow_abs : ow (dAbs [.int a]) P ↔ P (.int (a.natAbs : Int)) := by
  refine ow_some.trans ?_
  have e : (if a < 0 then -a else a) = (a.natAbs : Int) := by split <;> omega
  rw [e]
theorem ow_min : ow (dMin [.int a, .int b]) P ↔ P (.int (min a b)) := by
  refine ow_some.trans ?_
  have e : (if b < a then b else a) = min a b := by split <;> omega
  rw [e]
theorem ow_max : ow (dMax [.int a, .int b]) P ↔ P (.int (max a b)) := by
  refine ow_some.trans ?_
  have e : (if b > a then b else a) = max a b := by split <;> omega
  rw [e]
theorem ow_int : ow (dInt [.int a]) P ↔ P (.int a) := ow_some
theorem ow_divmod : ow (dDivmod [.int a, .int b]) P ↔ (0 < b ∧ b.natAbs.log2 < 9000) ∧ P (.tup [.int (a / b), .int (a % b)]) := by
  unfold dDivmod; rw [ow_ite, ow_some]
theorem ow_gcd : ow (dGcd [.int a, .int b]) P ↔ P (.int (Nat.gcd a.natAbs b.natAbs : Nat)) := ow_some
theorem ow_tuple_lst : ow (dTuple [.lst xs]) P ↔ P (.tup xs) := ow_some
theorem ow_tuple_tup : ow (dTuple [.tup xs]) P ↔ P (.tup xs) := ow_some
theorem ow_list_lst : ow (dList [.lst xs]) P ↔ P (.lst xs) := ow_some
theorem ow_list_tup : ow (dList [.tup xs]) P ↔ P (.lst xs) := ow_some
theorem ow_sum {ns : List Int} : ow (dSum [.lst (ns.map .int)]) P ↔ P (.int ns.sum) := by
  exact ow_of (show (ints? (ns.map D.int)).map (fun ns => D.int ns.sum) = _ by rw [ints?_map]; rfl)
theorem ow_all {ns : List Bool} : ow (dAll [.lst (ns.map .bl)]) P ↔ P (.bl (ns.all id)) := by
  exact ow_of (show (bls? (ns.map D.bl)).map (fun bs => D.bl (bs.all id)) = _ by rw [bls?_map]; rfl)
theorem ow_any {ns : List Bool} : ow (dAny [.lst (ns.map .bl)]) P ↔ P (.bl (ns.any id)) := by
  exact ow_of (show (bls? (ns.map D.bl)).map (fun bs => D.bl (bs.any id)) = _ by rw [bls?_map]; rfl)
theorem ow_all0 : ow (dAll [.lst []]) P ↔ P (.bl true) := ow_some
theorem ow_all1 : ow (dAll [.lst [.bl p]]) P ↔ P (.bl p) := by
  have := ow_all (P := P) (ns := [p]); simpa using this
theorem ow_all2 : ow (dAll [.lst [.bl p, .bl q]]) P ↔ P (.bl (p && q)) := by
  have := ow_all (P := P) (ns := [p, q]); simpa using this
theorem ow_all3 {r : Bool} : ow (dAll [.lst [.bl p, .bl q, .bl r]]) P ↔ P (.bl (p && (q && r))) := by
  have := ow_all (P := P) (ns := [p, q, r]); simpa using this
theorem ow_all4 {r s : Bool} : ow (dAll [.lst [.bl p, .bl q, .bl r, .bl s]]) P ↔ P (.bl (p && (q && (r && s)))) := by
  have := ow_all (P := P) (ns := [p, q, r, s]); simpa using this
theorem ow_all5 {r s u : Bool} : ow (dAll [.lst [.bl p, .bl q, .bl r, .bl s, .bl u]]) P ↔ P (.bl (p && (q && (r && (s && u))))) := by
  have := ow_all (P := P) (ns := [p, q, r, s, u]); simpa using this
theorem ow_any0 : ow (dAny [.lst []]) P ↔ P (.bl false) := ow_some
theorem ow_any1 : ow (dAny [.lst [.bl p]]) P ↔ P (.bl p) := by
  have := ow_any (P := P) (ns := [p]); simpa using this
theorem ow_any2 : ow (dAny [.lst [.bl p, .bl q]]) P ↔ P (.bl (p || q)) := by
  have := ow_any (P := P) (ns := [p, q]); simpa using this
theorem ow_any3 {r : Bool} : ow (dAny [.lst [.bl p, .bl q, .bl r]]) P ↔ P (.bl (p || (q || r))) := by
  have := ow_any (P := P) (ns := [p, q, r]); simpa using this
theorem ow_eq_str : ow (dEq (.str s) (.str u)) P ↔ P (.bl (decide (s = u))) := ow_some
theorem ow_ne_str : ow (dNe (.str s) (.str u)) P ↔ P (.bl (!decide (s = u))) := ow_some
theorem eqD_str : eqD (.str s) (.str u) = decide (s = u) := by
  show (s == u) = decide (s = u)
  rw [Bool.eq_iff_iff]; simp
end
/-! ### depth, show: told by instances -/
mutual
theorem okq_mono : ∀ (d : D) {n m : Nat}, okq n d = true → n ≤ m → okq m d = true
  | .non, n, m, _, _ => by cases m <;> rfl
  | .bl b, n, m, _, _ => by cases m <;> rfl
  | .int i, n, m, _, _ => by cases m <;> rfl
  | .str x, n, m, h, _ => by cases n <;> cases m <;> exact h
  | .lst ds, 0, _, h, _ => by cases h
  | .lst ds, n + 1, 0, _, l => by omega
  | .lst ds, n + 1, m + 1, h, l => by
    have h' : okqA n ds = true := h
    exact okqA_mono ds h' (by omega)
  | .tup ds, 0, _, h, _ => by cases h
  | .tup ds, n + 1, 0, _, l => by omega
  | .tup ds, n + 1, m + 1, h, l => by
    have h' : okqA n ds = true := h
    exact okqA_mono ds h' (by omega)
  | .dic ks ds, n, _, h, _ => by cases n <;> cases h
  | .fz ns, n, _, h, _ => by cases n <;> cases h
  | .ins c ns ds, n, _, h, _ => by cases n <;> cases h
  | .err c ns ds, n, _, h, _ => by cases n <;> cases h
  | .fn j ds, n, _, h, _ => by cases n <;> cases h
  | .reg j, n, _, h, _ => by cases n <;> cases h
theorem okqA_mono : ∀ (ds : List D) {n m : Nat}, okqA n ds = true → n ≤ m → okqA m ds = true
  | [], _, _, _, _ => rfl
  | d :: ds, n, m, h, l => by
    unfold okqA at h ⊢
    rw [Bool.and_eq_true] at h ⊢
    exact ⟨okq_mono d h.1 l, okqA_mono ds h.2 l⟩
end
class Eqb (n : outParam Nat) (d : D) : Prop where
  ok : okq n d = true
class EqA (n : outParam Nat) (ds : List D) : Prop where
  ok : okqA n ds = true
instance : Eqb 0 .non := ⟨rfl⟩
instance {b : Bool} : Eqb 0 (.bl b) := ⟨rfl⟩
instance {i : Int} : Eqb 0 (.int i) := ⟨rfl⟩
instance : EqA 0 [] := ⟨rfl⟩
instance {n m : Nat} {d : D} {ds : List D} [h : Eqb n d] [h2 : EqA m ds] : EqA (n + m) (d :: ds) := ⟨by
  unfold okqA
  rw [okq_mono d h.ok (Nat.le_add_right n m), okqA_mono ds h2.ok (Nat.le_add_left m n)]; rfl⟩
instance {n : Nat} {ds : List D} [h : EqA n ds] : Eqb (n + 1) (.tup ds) := ⟨h.ok⟩
instance {n : Nat} {ds : List D} [h : EqA n ds] : Eqb (n + 1) (.lst ds) := ⟨h.ok⟩
/-- of a small bulk, its numbers short, if the bulk is told as small -/
class Shw (k : outParam Nat) (d : D) : Prop where
  ok : k ≤ 8000 → d.py.showable = true ∧ d.py.bulk ≤ k
class ShA (k : outParam Nat) (ds : List D) : Prop where
  ok : k ≤ 8000 → PyData.showableAll (D.pyA ds) = true ∧ PyData.bulkAll (D.pyA ds) ≤ k
instance : Shw 0 .non := ⟨fun _ => ⟨rfl, Nat.le_refl _⟩⟩
instance {b : Bool} : Shw 0 (.bl b) := ⟨fun _ => ⟨rfl, Nat.le_refl _⟩⟩
instance : ShA 0 [] := ⟨fun _ => ⟨rfl, Nat.le_refl _⟩⟩
instance {n m : Nat} {d : D} {ds : List D} [h : Shw n d] [h2 : ShA m ds] : ShA (n + 1 + m) (d :: ds) := ⟨fun l => by
  obtain ⟨a, b⟩ := h.ok (by omega)
  obtain ⟨a', b'⟩ := h2.ok (by omega)
  refine ⟨?_, ?_⟩
  · show (d.py.showable && PyData.showableAll (D.pyA ds)) = true
    rw [a, a']; rfl
  · show d.py.bulk + 1 + PyData.bulkAll (D.pyA ds) ≤ _
    omega⟩
instance {n : Nat} {ds : List D} [h : ShA n ds] : Shw n (.tup ds) := ⟨h.ok⟩
instance {n : Nat} {ds : List D} [h : ShA n ds] : Shw n (.lst ds) := ⟨h.ok⟩
/-! ### equality of data -/
section
variable {x y : D} {xs ys : List D} {a b : Int} {p q : Bool}
theorem eqD_int : eqD (.int a) (.int b) = decide (a = b) := by
  show (a == b) = decide (a = b)
  rw [Bool.eq_iff_iff]; simp
theorem eqD_bl : eqD (.bl p) (.bl q) = decide (p = q) := by
  show (p == q) = decide (p = q)
  rw [Bool.eq_iff_iff]; simp
theorem eqD_non : eqD .non .non = true := rfl
theorem eqD_non_tup : eqD .non (.tup xs) = false := rfl
theorem eqD_tup_non : eqD (.tup xs) .non = false := rfl
theorem eqD_non_int : eqD .non (.int a) = false := rfl
theorem eqD_int_non : eqD (.int a) .non = false := rfl
theorem eqD_int_tup : eqD (.int a) (.tup xs) = false := rfl
theorem eqD_tup_int : eqD (.tup xs) (.int a) = false := rfl
theorem eqD_tup0 : eqD (.tup []) (.tup []) = true := rfl
theorem eqD_tup01 : eqD (.tup []) (.tup (y :: ys)) = false := rfl
theorem eqD_tup10 : eqD (.tup (x :: xs)) (.tup []) = false := rfl
theorem eqD_tup1 : eqD (.tup (x :: xs)) (.tup (y :: ys)) = (eqD x y && eqD (.tup xs) (.tup ys)) := rfl
theorem eqD_lst0 : eqD (.lst []) (.lst []) = true := rfl
theorem eqD_lst01 : eqD (.lst []) (.lst (y :: ys)) = false := rfl
theorem eqD_lst10 : eqD (.lst (x :: xs)) (.lst []) = false := rfl
theorem eqD_lst1 : eqD (.lst (x :: xs)) (.lst (y :: ys)) = (eqD x y && eqD (.lst xs) (.lst ys)) := rfl
end
/-! ### places -/
theorem atI_nat {α : Type} {xs : List α} {n : Nat} {x : α} (h : xs[n]? = some x) : atI xs (n : Int) = some x := by
  obtain ⟨hl, _⟩ := List.getElem?_eq_some_iff.mp h
  unfold atI ixN
  rw [if_pos (by omega), if_pos (by omega)]
  simpa using h
theorem ix_tup0 {x0 : D} {xs : List D} : dIx (.tup (x0 :: xs)) (.int 0) = some x0 := atI_nat rfl
theorem ix_lst0 {x0 : D} {xs : List D} : dIx (.lst (x0 :: xs)) (.int 0) = some x0 := atI_nat rfl
theorem ix_tup1 {x0 x1 : D} {xs : List D} : dIx (.tup (x0 :: x1 :: xs)) (.int 1) = some x1 := atI_nat rfl
theorem ix_lst1 {x0 x1 : D} {xs : List D} : dIx (.lst (x0 :: x1 :: xs)) (.int 1) = some x1 := atI_nat rfl
theorem ix_tup2 {x0 x1 x2 : D} {xs : List D} : dIx (.tup (x0 :: x1 :: x2 :: xs)) (.int 2) = some x2 := atI_nat rfl
theorem ix_lst2 {x0 x1 x2 : D} {xs : List D} : dIx (.lst (x0 :: x1 :: x2 :: xs)) (.int 2) = some x2 := atI_nat rfl
theorem ix_tup3 {x0 x1 x2 x3 : D} {xs : List D} : dIx (.tup (x0 :: x1 :: x2 :: x3 :: xs)) (.int 3) = some x3 := atI_nat rfl
theorem ix_lst3 {x0 x1 x2 x3 : D} {xs : List D} : dIx (.lst (x0 :: x1 :: x2 :: x3 :: xs)) (.int 3) = some x3 := atI_nat rfl
theorem ix_tup4 {x0 x1 x2 x3 x4 : D} {xs : List D} : dIx (.tup (x0 :: x1 :: x2 :: x3 :: x4 :: xs)) (.int 4) = some x4 := atI_nat rfl
theorem ix_lst4 {x0 x1 x2 x3 x4 : D} {xs : List D} : dIx (.lst (x0 :: x1 :: x2 :: x3 :: x4 :: xs)) (.int 4) = some x4 := atI_nat rfl
theorem ix_tup5 {x0 x1 x2 x3 x4 x5 : D} {xs : List D} : dIx (.tup (x0 :: x1 :: x2 :: x3 :: x4 :: x5 :: xs)) (.int 5) = some x5 := atI_nat rfl
theorem ix_lst5 {x0 x1 x2 x3 x4 x5 : D} {xs : List D} : dIx (.lst (x0 :: x1 :: x2 :: x3 :: x4 :: x5 :: xs)) (.int 5) = some x5 := atI_nat rfl
theorem ow_ix_tup0 {x0 : D} {xs : List D} {P : D → Prop} : ow (dIx (.tup (x0 :: xs)) (.int 0)) P ↔ P x0 := ow_of ix_tup0
theorem ow_ix_lst0 {x0 : D} {xs : List D} {P : D → Prop} : ow (dIx (.lst (x0 :: xs)) (.int 0)) P ↔ P x0 := ow_of ix_lst0
theorem ow_ix_tup1 {x0 x1 : D} {xs : List D} {P : D → Prop} : ow (dIx (.tup (x0 :: x1 :: xs)) (.int 1)) P ↔ P x1 := ow_of ix_tup1
theorem ow_ix_lst1 {x0 x1 : D} {xs : List D} {P : D → Prop} : ow (dIx (.lst (x0 :: x1 :: xs)) (.int 1)) P ↔ P x1 := ow_of ix_lst1
theorem ow_ix_tup2 {x0 x1 x2 : D} {xs : List D} {P : D → Prop} : ow (dIx (.tup (x0 :: x1 :: x2 :: xs)) (.int 2)) P ↔ P x2 := ow_of ix_tup2
theorem ow_ix_lst2 {x0 x1 x2 : D} {xs : List D} {P : D → Prop} : ow (dIx (.lst (x0 :: x1 :: x2 :: xs)) (.int 2)) P ↔ P x2 := ow_of ix_lst2
theorem ow_ix_tup3 {x0 x1 x2 x3 : D} {xs : List D} {P : D → Prop} : ow (dIx (.tup (x0 :: x1 :: x2 :: x3 :: xs)) (.int 3)) P ↔ P x3 := ow_of ix_tup3
theorem ow_ix_lst3 {x0 x1 x2 x3 : D} {xs : List D} {P : D → Prop} : ow (dIx (.lst (x0 :: x1 :: x2 :: x3 :: xs)) (.int 3)) P ↔ P x3 := ow_of ix_lst3
theorem ow_ix_tup4 {x0 x1 x2 x3 x4 : D} {xs : List D} {P : D → Prop} : ow (dIx (.tup (x0 :: x1 :: x2 :: x3 :: x4 :: xs)) (.int 4)) P ↔ P x4 := ow_of ix_tup4
theorem ow_ix_lst4 {x0 x1 x2 x3 x4 : D} {xs : List D} {P : D → Prop} : ow (dIx (.lst (x0 :: x1 :: x2 :: x3 :: x4 :: xs)) (.int 4)) P ↔ P x4 := ow_of ix_lst4
theorem ow_ix_tup5 {x0 x1 x2 x3 x4 x5 : D} {xs : List D} {P : D → Prop} : ow (dIx (.tup (x0 :: x1 :: x2 :: x3 :: x4 :: x5 :: xs)) (.int 5)) P ↔ P x5 := ow_of ix_tup5
theorem ow_ix_lst5 {x0 x1 x2 x3 x4 x5 : D} {xs : List D} {P : D → Prop} : ow (dIx (.lst (x0 :: x1 :: x2 :: x3 :: x4 :: x5 :: xs)) (.int 5)) P ↔ P x5 := ow_of ix_lst5
/-! ### what sort of value -/
section
variable {P : D → Prop} {xs : List D} {a : Int} {b : Bool} {s : Str}
theorem isi_tt : ow (dIsi "tuple" (.tup xs)) P ↔ P (.bl true) := ow_of (by rfl)
theorem isi_it : ow (dIsi "int" (.tup xs)) P ↔ P (.bl false) := ow_of (by rfl)
theorem isi_bt : ow (dIsi "bool" (.tup xs)) P ↔ P (.bl false) := ow_of (by rfl)
theorem isi_ti : ow (dIsi "tuple" (.int a)) P ↔ P (.bl false) := ow_of (by rfl)
theorem isi_ii : ow (dIsi "int" (.int a)) P ↔ P (.bl true) := ow_of (by rfl)
theorem isi_bi : ow (dIsi "bool" (.int a)) P ↔ P (.bl false) := ow_of (by rfl)
theorem isi_tn : ow (dIsi "tuple" .non) P ↔ P (.bl false) := ow_of (by rfl)
theorem isi_in : ow (dIsi "int" .non) P ↔ P (.bl false) := ow_of (by rfl)
theorem isi_bn : ow (dIsi "bool" .non) P ↔ P (.bl false) := ow_of (by rfl)
theorem isi_tl : ow (dIsi "tuple" (.lst xs)) P ↔ P (.bl false) := ow_of (by rfl)
theorem isi_il : ow (dIsi "int" (.lst xs)) P ↔ P (.bl false) := ow_of (by rfl)
theorem isi_bl : ow (dIsi "bool" (.lst xs)) P ↔ P (.bl false) := ow_of (by rfl)
theorem isi_tb : ow (dIsi "tuple" (.bl b)) P ↔ P (.bl false) := ow_of (by rfl)
theorem isi_ib : ow (dIsi "int" (.bl b)) P ↔ P (.bl true) := ow_of (by rfl)
theorem isi_bb : ow (dIsi "bool" (.bl b)) P ↔ P (.bl true) := ow_of (by rfl)
theorem isi_ts : ow (dIsi "tuple" (.str s)) P ↔ P (.bl false) := ow_of (by rfl)
theorem isi_is : ow (dIsi "int" (.str s)) P ↔ P (.bl false) := ow_of (by rfl)
theorem isi_bs : ow (dIsi "bool" (.str s)) P ↔ P (.bl false) := ow_of (by rfl)
end
end PV
namespace PV
open PySem PySem.Spec PyProof.Rows L2
/-! ### fractions -/
def Fr (q : Rat) : D := .tup [.int q.num, .int (q.den : Int)]
/-- numerator and denominator below 2 ^ b -/
class Bd (b : outParam Nat) (q : Rat) : Prop where
  n : q.num.natAbs < 2 ^ b
  d : q.den < 2 ^ b
theorem Bd.pos {b : Nat} {q : Rat} (h : Bd b q) : 1 ≤ b := by
  have h1 := h.d
  have h2 := q.den_pos
  rcases b with _ | b
  · simp at h1; omega
  · omega
theorem Bd.mono {a b : Nat} {q : Rat} (h : Bd a q) (l : a ≤ b) : Bd b q :=
  ⟨Nat.lt_of_lt_of_le h.n (Nat.pow_le_pow_right (by decide) l), Nat.lt_of_lt_of_le h.d (Nat.pow_le_pow_right (by decide) l)⟩
theorem natAbs_ediv_le (a : Int) (b : Nat) : (a / (b : Int)).natAbs ≤ a.natAbs := Int.natAbs_ediv_le_natAbs a b
theorem pow_add2 (a b : Nat) : 2 ^ (a + b) = 2 ^ a * 2 ^ b := Nat.pow_add 2 a b
theorem mul_lt2 {x y a b : Nat} (h1 : x < 2 ^ a) (h2 : y < 2 ^ b) : x * y < 2 ^ (a + b) := by
  rw [pow_add2]
  exact Nat.mul_lt_mul'' h1 h2
instance Bd.mul {a b : Nat} {p q : Rat} [h : Bd a p] [h2 : Bd b q] : Bd (a + b) (p * q) := by
  refine ⟨?_, ?_⟩
  · rw [Rat.num_mul]
    refine Nat.lt_of_le_of_lt (natAbs_ediv_le _ _) ?_
    rw [Int.natAbs_mul]
    exact mul_lt2 h.n h2.n
  · rw [Rat.den_mul]
    exact Nat.lt_of_le_of_lt (Nat.div_le_self _ _) (mul_lt2 h.d h2.d)
instance Bd.add {a b : Nat} {p q : Rat} [h : Bd a p] [h2 : Bd b q] : Bd (a + b + 1) (p + q) := by
  have e : 2 ^ (a + b + 1) = 2 ^ (a + b) + 2 ^ (a + b) := by rw [Nat.pow_succ]; omega
  refine ⟨?_, ?_⟩
  · rw [Rat.num_add]
    refine Nat.lt_of_le_of_lt (natAbs_ediv_le _ _) ?_
    have h3 := Int.natAbs_add_le (p.num * q.den) (q.num * p.den)
    rw [Int.natAbs_mul, Int.natAbs_mul, Int.natAbs_natCast, Int.natAbs_natCast] at h3
    have h4 := mul_lt2 h.n h2.d
    have h5 := mul_lt2 h2.n h.d
    rw [Nat.add_comm b a] at h5
    omega
  · rw [Rat.den_add]
    exact Nat.lt_of_lt_of_le (Nat.lt_of_le_of_lt (Nat.div_le_self (p.den * q.den) ((p.num * q.den + q.num * p.den).natAbs.gcd (p.den * q.den))) (mul_lt2 h.d h2.d)) (by rw [e]; exact Nat.le_add_left _ _)
instance Bd.neg {a : Nat} {p : Rat} [h : Bd a p] : Bd a (-p) := ⟨by rw [Rat.neg_num, Int.natAbs_neg]; exact h.n, by rw [Rat.neg_den]; exact h.d⟩
instance Bd.sub {a b : Nat} {p q : Rat} [h : Bd a p] [h2 : Bd b q] : Bd (a + b + 1) (p - q) := by
  rw [Rat.sub_eq_add_neg]; exact Bd.add
instance Bd.inv {a : Nat} {p : Rat} [h : Bd a p] : Bd a p⁻¹ := by
  have h1 := h.pos
  refine ⟨?_, ?_⟩
  · rw [Rat.num_inv]
    rw [Int.natAbs_mul, Int.natAbs_natCast]
    have h3 : p.num.sign.natAbs ≤ 1 := by
      rcases Int.lt_trichotomy p.num 0 with z | z | z
      · rw [Int.sign_eq_neg_one_of_neg z]; decide
      · rw [z]; decide
      · rw [Int.sign_eq_one_of_pos z]; decide
    have h4 := Nat.mul_le_mul_right p.den h3
    have h5 := h.d
    omega
  · rw [Rat.den_inv]
    split
    · exact Nat.one_lt_two_pow (by omega)
    · exact h.n
instance Bd.div {a b : Nat} {p q : Rat} [h : Bd a p] [h2 : Bd b q] : Bd (a + b) (p / q) := by
  rw [Rat.div_def]; exact Bd.mul
instance Bd.lit {n : Nat} : Bd (n.log2 + 1) (no_index (OfNat.ofNat n : Rat)) := ⟨by
  show (n : Int).natAbs < _
  rw [Int.natAbs_natCast]
  exact Nat.lt_log2_self, by
  show 1 < _
  exact Nat.one_lt_two_pow (by omega)⟩
instance (priority := high) : Bd 1 (0 : Rat) := ⟨by decide, by decide⟩
instance (priority := high) : Bd 1 (1 : Rat) := ⟨by decide, by decide⟩
instance (priority := high) : Bd 2 (2 : Rat) := ⟨by decide, by decide⟩
instance (priority := high) : Bd 2 (3 : Rat) := ⟨by decide, by decide⟩
instance (priority := high) : Bd 3 (4 : Rat) := ⟨by decide, by decide⟩
instance (priority := high) : Bd 3 (5 : Rat) := ⟨by decide, by decide⟩
instance (priority := high) : Bd 3 (6 : Rat) := ⟨by decide, by decide⟩
instance (priority := high) : Bd 3 (7 : Rat) := ⟨by decide, by decide⟩
instance (priority := high) : Bd 4 (8 : Rat) := ⟨by decide, by decide⟩
instance (priority := high) : Bd 4 (9 : Rat) := ⟨by decide, by decide⟩
instance (priority := high) : Bd 4 (10 : Rat) := ⟨by decide, by decide⟩
instance (priority := high) : Bd 4 (12 : Rat) := ⟨by decide, by decide⟩
instance (priority := high) : Bd 5 (16 : Rat) := ⟨by decide, by decide⟩
theorem Bd.int {n : Int} {b : Nat} (h : n.natAbs < 2 ^ b) (hb : 1 ≤ b) : Bd b (n : Rat) := ⟨h, Nat.one_lt_two_pow (by omega)⟩
instance {q : Rat} : Eqb 1 (Fr q) := ⟨rfl⟩
instance {b : Nat} {q : Rat} [h : Bd b q] : Shw (2 + 8000 * (b / 1901)) (Fr q) := ⟨fun l => by
  have hb : b ≤ 1900 := by omega
  have h1 : ∀ {x : Int}, x.natAbs < 2 ^ b → PyData.showable (.int x) = true := fun {x} hx => by
    show decide (x.natAbs.log2 < 1920) = true
    rw [decide_eq_true_eq]
    by_cases h0 : x.natAbs = 0
    · rw [h0]; decide
    · have := (Nat.log2_lt h0).mpr hx
      omega
  refine ⟨?_, Nat.le_add_right 2 _⟩
  show (PyData.showable (.int q.num) && (PyData.showable (.int (q.den : Int)) && true)) = true
  rw [h1 h.n, h1 (by rw [Int.natAbs_natCast]; exact h.d)]; rfl⟩
theorem eqD_R {p q : Rat} : eqD (Fr p) (Fr q) = decide (p = q) := by
  show (p.num == q.num && ((p.den : Int) == (q.den : Int) && true)) = _
  rw [Bool.eq_iff_iff]
  simp only [Bool.and_eq_true, beq_iff_eq, Bool.and_true, decide_eq_true_eq]
  exact ⟨fun ⟨a, b⟩ => Rat.ext a (by omega), fun e => by rw [e]; exact ⟨rfl, rfl⟩⟩
theorem eqD_R_non {p : Rat} : eqD (Fr p) .non = false := rfl
theorem eqD_non_R {p : Rat} : eqD .non (Fr p) = false := rfl
theorem isNon_R {p : Rat} : isNon (Fr p) = false := rfl
section
variable {P : D → Prop} {q : Rat}
theorem ow_R0 : ow (dIx (Fr q) (.int 0)) P ↔ P (.int q.num) := ow_of ix_tup0
theorem ow_R1 : ow (dIx (Fr q) (.int 1)) P ↔ P (.int (q.den : Int)) := ow_of ix_tup1
theorem ow_len_R : ow (dLen [Fr q]) P ↔ P (.int 2) := ow_some
theorem isi_tR : ow (dIsi "tuple" (Fr q)) P ↔ P (.bl true) := isi_tt
theorem isi_iR : ow (dIsi "int" (Fr q)) P ↔ P (.bl false) := isi_it
theorem isi_bR : ow (dIsi "bool" (Fr q)) P ↔ P (.bl false) := isi_bt
theorem ow_items_R {P : List D → Prop} : ow (D.items? (Fr q)) P ↔ P [.int q.num, .int (q.den : Int)] := ow_some
end
theorem setAt_nat {d : D} {ds : List D} {n : Nat} (h : n < ds.length) : setAt (.int (n : Int)) d ds = some ((), ds.set n d) := by
  unfold setAt ixN
  show (if (0 : Int) ≤ (n : Int) then (if (n : Int) < (ds.length : Int) then some (n : Int).toNat else none) else _).map _ = _
  rw [if_pos (by omega), if_pos (by omega)]
  rfl
theorem ow_setAt0 {x0 d : D} {xs : List D} {P : Unit × List D → Prop} : ow (setAt (.int 0) d (x0 :: xs)) P ↔ P ((), d :: xs) := ow_of (setAt_nat (n := 0) (by simp only [List.length_cons]; omega))
theorem ow_setAt1 {x0 x1 d : D} {xs : List D} {P : Unit × List D → Prop} : ow (setAt (.int 1) d (x0 :: x1 :: xs)) P ↔ P ((), x0 :: d :: xs) := ow_of (setAt_nat (n := 1) (by simp only [List.length_cons]; omega))
theorem ow_setAt2 {x0 x1 x2 d : D} {xs : List D} {P : Unit × List D → Prop} : ow (setAt (.int 2) d (x0 :: x1 :: x2 :: xs)) P ↔ P ((), x0 :: x1 :: d :: xs) := ow_of (setAt_nat (n := 2) (by simp only [List.length_cons]; omega))
theorem ow_setAt3 {x0 x1 x2 x3 d : D} {xs : List D} {P : Unit × List D → Prop} : ow (setAt (.int 3) d (x0 :: x1 :: x2 :: x3 :: xs)) P ↔ P ((), x0 :: x1 :: x2 :: d :: xs) := ow_of (setAt_nat (n := 3) (by simp only [List.length_cons]; omega))
theorem ow_setAt4 {x0 x1 x2 x3 x4 d : D} {xs : List D} {P : Unit × List D → Prop} : ow (setAt (.int 4) d (x0 :: x1 :: x2 :: x3 :: x4 :: xs)) P ↔ P ((), x0 :: x1 :: x2 :: x3 :: d :: xs) := ow_of (setAt_nat (n := 4) (by simp only [List.length_cons]; omega))
theorem ow_setAt5 {x0 x1 x2 x3 x4 x5 d : D} {xs : List D} {P : Unit × List D → Prop} : ow (setAt (.int 5) d (x0 :: x1 :: x2 :: x3 :: x4 :: x5 :: xs)) P ↔ P ((), x0 :: x1 :: x2 :: x3 :: x4 :: d :: xs) := ow_of (setAt_nat (n := 5) (by simp only [List.length_cons]; omega))
theorem ex_int {a : Int} {P : Int → Prop} : (∃ k, D.int a = D.int k ∧ P k) ↔ P a := ⟨fun ⟨k, e, q⟩ => by cases e; exact q, fun q => ⟨a, rfl, q⟩⟩
theorem seq_cut {F G : M Fl} {ρ : En} {Q : Fl → En → Prop} (I : En → Prop) (h1 : wp F ρ fun fl r => fl = .nx ∧ I r) (h2 : ∀ r, I r → wp G r Q) : wp (mSeq F G) ρ Q := by
  rw [wp_seq]
  refine wp_mono h1 fun fl r q => ?_
  obtain ⟨rfl, q⟩ := q
  exact h2 r q
def pk (o : Option D) (xs : List D) : List D := match o with
  | some d => d :: xs
  | none => xs
theorem pk_some {d : D} {xs : List D} : pk (some d) xs = d :: xs := rfl
theorem pick_nil {xs : List D} : pick [] xs = [] := rfl
theorem pick_cons {i : Nat} {ix : List Nat} {xs : List D} : pick (i :: ix) xs = pk xs[i]? (pick ix xs) := by
  show (i :: ix).filterMap (xs[·]?) = _
  cases h : xs[i]? with
  | none => exact List.filterMap_cons_none h
  | some d => exact List.filterMap_cons_some h
theorem kwOf_eq {a b : Nat} {ix : List Nat} {us ws : List D} : kwOf a b ix us ws = if us.length = a ∧ ws.length = b then pick ix (us ++ ws) else [] := rfl
/-! ### room for products -/
theorem mulOk_of {i j : Int} {a b : Nat} (h1 : i.natAbs < 2 ^ a) (h2 : j.natAbs < 2 ^ b) (h : a + b < 1000000) : mulOk i j = true := by
  unfold mulOk
  rw [decide_eq_true_eq]
  have k : ∀ {n c : Nat}, n < 2 ^ c → n.log2 ≤ c := fun {n c} z => by
    by_cases h0 : n = 0
    · rw [h0]; exact Nat.zero_le _
    · exact Nat.le_of_lt ((Nat.log2_lt h0).mpr z)
  have := k h1
  have := k h2
  omega
theorem divOk_ne {j : Int} (h0 : j ≠ 0) : divOk j = true := decide_eq_true h0
theorem divOk_of {j : Int} {a : Nat} (h0 : j ≠ 0) (_ : j.natAbs < 2 ^ a) (_ : a ≤ 9000) : divOk j = true := divOk_ne h0
end PV
namespace PV
open PySem PySem.Spec PyProof.Rows L2
/-! ### calls of defs, whole -/
theorem finE_vals : ∀ {ds : List D} {r : En}, finE (ds.map .val) r = if ds.length ≤ r.length then some (ds.map .val) else none
  | [], r => by simp [finE]
  | d :: ds, [] => rfl
  | d :: ds, s :: r => by
    show (finE (ds.map .val) r).map (Sl.val d :: ·) = _
    rw [finE_vals]
    by_cases h : ds.length ≤ r.length
    · rw [if_pos h, if_pos (by simp only [List.length_cons]; omega)]; rfl
    · rw [if_neg h, if_neg (by simp only [List.length_cons]; omega)]; rfl
theorem ownsIn_vals {fx : List Nat} {ds : List D} : ownsIn fx (ds.map .val) = true := by
  unfold ownsIn
  rw [List.all_eq_true]
  intro i hi
  have : isOwn (ds.map .val) i = false := by
    unfold isOwn
    rw [List.getElem?_map]
    cases ds[i]? <;> rfl
  rw [this]; rfl
theorem ownsIn_own {L : List D} {ds : List D} : ownsIn [0] (.own L :: ds.map .val) = true := by
  unfold ownsIn
  rw [List.all_eq_true]
  intro i hi
  cases i with
  | zero => rw [Bool.or_eq_true]; exact .inr rfl
  | succ i =>
    have : isOwn (.own L :: ds.map .val) (i + 1) = false := by
      unfold isOwn
      rw [List.getElem?_cons_succ, List.getElem?_map]
      cases ds[i]? <;> rfl
    rw [this]; rfl
theorem ow_ite2 {α : Type} {c : Prop} [Decidable c] {a : α} {P : α → Prop} : ow (if c then some a else none) P ↔ c ∧ P a := by
  rw [ow_ite, ow_some]
section
variable {n m i : Nat} {fx : List Nat} {F : M Fl} {ds : List D} {ρ : En} {Q : D → En → Prop} {QL : List D → En → Prop}
theorem wp_V : wp (callV n (fnB fx n m (asRet F)) ds) ρ Q ↔ ds.length = n ∧ wp F (ds.map .val ++ List.replicate m .no) fun fl r => retw fl fun d => n ≤ r.length ∧ Q d ρ := by
  rw [wp_callV]
  refine and_congr_right fun hl => ?_
  rw [wp_fnB, wp_asRet]
  constructor
  · rintro ⟨_, h⟩
    refine wp_mono h fun fl r q => ?_
    cases fl <;> first | exact q | (have q' := q; unfold retw at q' ⊢; dsimp only at q' ⊢; rw [finE_vals, ow_ite2, hl] at q'; exact q')
  · intro h
    refine ⟨⟨by rw [List.length_map]; exact hl, ownsIn_vals⟩, wp_mono h fun fl r q => ?_⟩
    cases fl <;> first | exact q | (have q' := q; unfold retw at q' ⊢; dsimp only at q' ⊢; rw [finE_vals, ow_ite2, hl]; exact q')
theorem wp_L : wp (callL n (fnB fx n m (asRetO F)) ds) ρ QL ↔ ds.length = n ∧ wp F (ds.map .val ++ List.replicate m .no) fun fl r => retOw fl fun d => n ≤ r.length ∧ QL d ρ := by
  rw [wp_callL]
  refine and_congr_right fun hl => ?_
  rw [wp_fnB, wp_asRetO]
  constructor
  · rintro ⟨_, h⟩
    refine wp_mono h fun fl r q => ?_
    cases fl <;> first | exact q | (have q' := q; unfold retOw at q' ⊢; dsimp only at q' ⊢; rw [finE_vals, ow_ite2, hl] at q'; exact q')
  · intro h
    refine ⟨⟨by rw [List.length_map]; exact hl, ownsIn_vals⟩, wp_mono h fun fl r q => ?_⟩
    cases fl <;> first | exact q | (have q' := q; unfold retOw at q' ⊢; dsimp only at q' ⊢; rw [finE_vals, ow_ite2, hl]; exact q')
/-- what is owned at the head, and what stands behind it -/
def ohn (n : Nat) (r : En) (P : List D → Prop) : Prop := match r with
  | .own L :: τ => n ≤ τ.length + 1 ∧ P L
  | _ => False
theorem ohn_mk {L : List D} {r : En} {P : List D → Prop} : ohn n (.own L :: r) P ↔ n ≤ r.length + 1 ∧ P L := Iff.rfl
theorem fin_own {L : List D} {r : En} {P : List D → Prop} (hl : ds.length + 1 = n) : (ow (finE (.own L :: ds.map .val) r) fun q => ohw q P) ↔ ohn n r P := by
  cases r with
  | nil => exact ⟨fun ⟨_, e, _⟩ => (nomatch e), False.elim⟩
  | cons s r =>
    cases s with
    | no => exact ⟨fun ⟨_, e, _⟩ => (nomatch e), False.elim⟩
    | val d => exact ⟨fun ⟨_, e, _⟩ => (nomatch e), False.elim⟩
    | own L' =>
      show (ow ((finE (ds.map .val) r).map (Sl.own L' :: ·)) fun q => ohw q P) ↔ _
      rw [finE_vals, ohn_mk]
      by_cases h : ds.length ≤ r.length
      · rw [if_pos h]
        exact ow_some.trans ⟨fun q => ⟨by omega, q⟩, fun q => q.2⟩
      · rw [if_neg h]
        exact ⟨fun ⟨_, e, _⟩ => (nomatch e), fun q => absurd q.1 (by omega)⟩
theorem wp_O : wp (callO n (fnB [0] n m (asRet F)) i ds) ρ Q ↔ ownw ρ[i]? fun L => ds.length + 1 = n ∧ wp F (.own L :: (ds.map .val ++ List.replicate m .no)) fun fl r => retw fl fun d => ohn n r fun L' => Q d (ρ.set i (.own L')) := by
  rw [wp_callO]
  simp only [ownw_iff]
  refine exists_congr fun L => and_congr_right fun _ => and_congr_right fun hl => ?_
  rw [wp_fnB, wp_asRet]
  constructor
  · rintro ⟨_, h⟩
    refine wp_mono h fun fl r q => ?_
    cases fl <;> first | exact q | exact (fin_own hl).mp q
  · intro h
    refine ⟨⟨by rw [List.length_cons, List.length_map]; exact hl, ownsIn_own⟩, wp_mono h fun fl r q => ?_⟩
    cases fl <;> first | exact q | exact (fin_own hl).mpr q
theorem wp_N {L : List D} : wp (callN 1 (fnB [0] 1 m (asRet F)) L) ρ Q ↔ wp F (.own L :: List.replicate m .no) fun fl r => retw fl fun d => ohn 1 r fun _ => Q d ρ := by
  have e := fun (P : List D → Prop) (r : En) => fin_own (n := 1) (ds := []) (L := L) (r := r) (P := P) rfl
  rw [wp_callN, wp_fnB, wp_asRet]
  constructor
  · rintro ⟨_, _, h⟩
    refine wp_mono h fun fl r q => ?_
    have k : ∀ d, (ow (finE [.own L] r) fun _ => Q d ρ) → ohn 1 r fun _ => Q d ρ := fun d ⟨z, e1, q⟩ => (e (fun _ => Q d ρ) r).mp ⟨z, e1, by
      cases r with
      | nil => cases e1
      | cons s r =>
        cases s with
        | no => cases e1
        | val d => cases e1
        | own L' => cases e1; exact q⟩
    cases fl <;> first | exact q | exact k _ q
  · intro h
    refine ⟨rfl, ⟨rfl, rfl⟩, wp_mono h fun fl r q => ?_⟩
    have k : ∀ d, (ohn 1 r fun _ => Q d ρ) → ow (finE [.own L] r) fun _ => Q d ρ := fun d q => by
      obtain ⟨z, e1, q⟩ := (e (fun _ => Q d ρ) r).mpr q
      refine ⟨z, e1, ?_⟩
      cases r with
      | nil => cases e1
      | cons s r =>
        cases s with
        | no => cases e1
        | val d => cases e1
        | own L' => cases e1; exact q
    cases fl <;> first | exact q | exact k _ q
end
end PV
namespace PV
open PySem PySem.Spec PyProof.Rows L2
/-! ### what waits: its wish is not looked into -/
structure Bx {α : Type} (Q : α → En → Prop) : Type where
  mk ::
def stk {α : Type} (x : M α) (ρ : En) (Q : α → En → Prop) (b : Bx Q) : Prop := wp x ρ Q
theorem stuck_O {n i : Nat} {F : M D} {ds : List D} {ρ : En} {Q : D → En → Prop} : wp (callO n F i ds) ρ Q ↔ stk (callO n F i ds) ρ Q ⟨⟩ := Iff.rfl
theorem stuck_W {t : M Bool} {b : M Fl} {ρ : En} {Q : Fl → En → Prop} : wp (mWhile t b) ρ Q ↔ stk (mWhile t b) ρ Q ⟨⟩ := Iff.rfl
/-! ### the same by places: rewriting at the head alone -/
def setw (r : En) (i : Nat) (s : Sl) (K : En → Prop) : Prop := i < r.length ∧ K (r.set i s)
def ownr (r : En) (i : Nat) (P : List D → Prop) : Prop := ownw r[i]? P
section
variable {ρ r : En} {Q : D → En → Prop} {QU : Unit → En → Prop} {QF : Fl → En → Prop} {QL : List D → En → Prop} {P : List D → Prop} {K : En → Prop} {i j l n m : Nat} {fa f : M D} {fl fi : M (List D)} {d : D} {s : Sl} {ds L es : List D} {t : M Bool} {F : M Fl}
theorem hp_set : wp (mSet i fa) ρ QF ↔ wp fa ρ fun d r => setw r i (.val d) fun r2 => QF .nx r2 := wp_set
theorem hp_own : wp (mOwn i fl) ρ QF ↔ wp fl ρ fun d r => setw r i (.own d) fun r2 => QF .nx r2 := wp_own
theorem hp_gN : wp (gN i d) ρ QU ↔ setw ρ i (.val d) fun r2 => QU () r2 := wp_gN
theorem hp_par : wp (mPar i j fl) ρ QF ↔ wp fl ρ fun ds r => l2w ds fun x y => setw r i (.val x) fun r2 => setw r2 j (.val y) fun r3 => QF .nx r3 := wp_par
theorem hp_par3 : wp (mPar3 i j l fl) ρ QF ↔ wp fl ρ fun ds r => l3w ds fun x y z => setw r i (.val x) fun r2 => setw r2 j (.val y) fun r3 => setw r3 l (.val z) fun r4 => QF .nx r4 := wp_par3
theorem hp_owned {α : Type} {x : M α} {Q : α → En → Prop} : wp (mOwned j x) ρ Q ↔ ownr ρ j fun _ => wp x ρ Q := by
  rw [wp_owned, ownr, ownw_iff, ownw_iff]
  exact ⟨fun ⟨⟨ds, e, _⟩, q⟩ => ⟨ds, e, q⟩, fun ⟨ds, e, q⟩ => ⟨⟨ds, e, trivial⟩, q⟩⟩
theorem hp_at {α : Type} {g : List D → Option (α × List D)} {Q : α → En → Prop} : wp (mAt j g) ρ Q ↔ ownr ρ j fun ds => ow (g ds) fun z => setw ρ j (.own z.2) fun r => Q z.1 r := by
  rw [wp_at, ownr, ownw_iff, ownw_iff]
  refine exists_congr fun ds => and_congr_right fun e => ?_
  have hl := (List.getElem?_eq_some_iff.mp e).1
  exact ⟨fun ⟨z, a, q⟩ => ⟨z, a, hl, q⟩, fun ⟨z, a, _, q⟩ => ⟨z, a, q⟩⟩
theorem hp_ixO : wp (mIxO j fa) ρ Q ↔ ownr ρ j fun _ => wp fa ρ fun k r => ownr r j fun ds => ow (dIx (.lst ds) k) fun d => Q d r := by
  rw [wp_ixO, ownr, ownw_iff, ownw_iff]
  exact ⟨fun ⟨⟨ds, e, _⟩, q⟩ => ⟨ds, e, q⟩, fun ⟨ds, e, q⟩ => ⟨⟨ds, e, trivial⟩, q⟩⟩
theorem hp_lenO : wp (mLenO j) ρ Q ↔ ownr ρ j fun ds => Q (.int ds.length) ρ := wp_lenO
theorem hp_gSub : wp (gSub1 j fa d) ρ QU ↔ ownr ρ j fun _ => wp fa ρ fun k r => ownr r j fun ds => ow (setAt k d ds) fun z => setw r j (.own z.2) fun r2 => QU () r2 := by
  rw [wp_gSub, ownr, ownw_iff, ownw_iff]
  have key : (wp fa ρ fun k r => ownw r[j]? fun ds => ow (setAt k d ds) fun z => QU () (r.set j (.own z.2))) ↔ wp fa ρ fun k r => ownr r j fun ds => ow (setAt k d ds) fun z => setw r j (.own z.2) fun r2 => QU () r2 := by
    have h : ∀ k r, (ownw r[j]? fun ds => ow (setAt k d ds) fun z => QU () (r.set j (.own z.2))) ↔ ownr r j fun ds => ow (setAt k d ds) fun z => setw r j (.own z.2) fun r2 => QU () r2 := fun k r => by
      rw [ownr, ownw_iff, ownw_iff]
      refine exists_congr fun ds => and_congr_right fun e => ?_
      have hl := (List.getElem?_eq_some_iff.mp e).1
      exact ⟨fun ⟨z, a, q⟩ => ⟨z, a, hl, q⟩, fun ⟨z, a, _, q⟩ => ⟨z, a, q⟩⟩
    exact ⟨fun q => wp_mono q fun k r => (h k r).mp, fun q => wp_mono q fun k r => (h k r).mpr⟩
  rw [key]
  exact ⟨fun ⟨⟨ds, e, _⟩, q⟩ => ⟨ds, e, q⟩, fun ⟨ds, e, q⟩ => ⟨⟨ds, e, trivial⟩, q⟩⟩
theorem hp_app : wp (mApp j fa) ρ Q ↔ ownr ρ j fun _ => wp fa ρ fun d r => ownr r j fun ds => ds.length < 1000000 ∧ setw r j (.own (ds ++ [d])) fun r2 => Q .non r2 := by
  rw [wp_app, ownr, ownw_iff, ownw_iff]
  have h : ∀ d r, (ownw r[j]? fun ds => ds.length < 1000000 ∧ Q .non (r.set j (.own (ds ++ [d])))) ↔ ownr r j fun ds => ds.length < 1000000 ∧ setw r j (.own (ds ++ [d])) fun r2 => Q .non r2 := fun d r => by
    rw [ownr, ownw_iff, ownw_iff]
    refine exists_congr fun ds => and_congr_right fun e => ?_
    have hl := (List.getElem?_eq_some_iff.mp e).1
    exact ⟨fun ⟨a, q⟩ => ⟨a, hl, q⟩, fun ⟨a, _, q⟩ => ⟨a, q⟩⟩
  have key : (wp fa ρ fun d r => ownw r[j]? fun ds => ds.length < 1000000 ∧ Q .non (r.set j (.own (ds ++ [d])))) ↔ wp fa ρ fun d r => ownr r j fun ds => ds.length < 1000000 ∧ setw r j (.own (ds ++ [d])) fun r2 => Q .non r2 := ⟨fun q => wp_mono q fun k r => (h k r).mp, fun q => wp_mono q fun k r => (h k r).mpr⟩
  rw [key]
  exact ⟨fun ⟨⟨ds, e, _⟩, q⟩ => ⟨ds, e, q⟩, fun ⟨ds, e, q⟩ => ⟨⟨ds, e, trivial⟩, q⟩⟩
theorem hv0 : wp (dVar 0) (.val d :: r) Q ↔ Q d (.val d :: r) := wp_of rfl
theorem ho0 : wp (dVar 0) (.own ds :: r) Q ↔ Q (.lst ds) (.val (.lst ds) :: r) := wp_of rfl
theorem hs0 {x : Sl} : setw (x :: r) 0 s K ↔ K (s :: r) := ⟨fun q => q.2, fun q => ⟨by simp only [List.length_cons]; omega, q⟩⟩
theorem hr0 : ownr (.own L :: r) 0 P ↔ P L := Iff.rfl
theorem hv1 {x0 : Sl} : wp (dVar 1) (x0 :: .val d :: r) Q ↔ Q d (x0 :: .val d :: r) := wp_of rfl
theorem ho1 {x0 : Sl} : wp (dVar 1) (x0 :: .own ds :: r) Q ↔ Q (.lst ds) (x0 :: .val (.lst ds) :: r) := wp_of rfl
theorem hs1 {x0 x : Sl} : setw (x0 :: x :: r) 1 s K ↔ K (x0 :: s :: r) := ⟨fun q => q.2, fun q => ⟨by simp only [List.length_cons]; omega, q⟩⟩
theorem hr1 {x0 : Sl} : ownr (x0 :: .own L :: r) 1 P ↔ P L := Iff.rfl
theorem hv2 {x0 x1 : Sl} : wp (dVar 2) (x0 :: x1 :: .val d :: r) Q ↔ Q d (x0 :: x1 :: .val d :: r) := wp_of rfl
theorem ho2 {x0 x1 : Sl} : wp (dVar 2) (x0 :: x1 :: .own ds :: r) Q ↔ Q (.lst ds) (x0 :: x1 :: .val (.lst ds) :: r) := wp_of rfl
theorem hs2 {x0 x1 x : Sl} : setw (x0 :: x1 :: x :: r) 2 s K ↔ K (x0 :: x1 :: s :: r) := ⟨fun q => q.2, fun q => ⟨by simp only [List.length_cons]; omega, q⟩⟩
theorem hr2 {x0 x1 : Sl} : ownr (x0 :: x1 :: .own L :: r) 2 P ↔ P L := Iff.rfl
theorem hv3 {x0 x1 x2 : Sl} : wp (dVar 3) (x0 :: x1 :: x2 :: .val d :: r) Q ↔ Q d (x0 :: x1 :: x2 :: .val d :: r) := wp_of rfl
theorem ho3 {x0 x1 x2 : Sl} : wp (dVar 3) (x0 :: x1 :: x2 :: .own ds :: r) Q ↔ Q (.lst ds) (x0 :: x1 :: x2 :: .val (.lst ds) :: r) := wp_of rfl
theorem hs3 {x0 x1 x2 x : Sl} : setw (x0 :: x1 :: x2 :: x :: r) 3 s K ↔ K (x0 :: x1 :: x2 :: s :: r) := ⟨fun q => q.2, fun q => ⟨by simp only [List.length_cons]; omega, q⟩⟩
theorem hr3 {x0 x1 x2 : Sl} : ownr (x0 :: x1 :: x2 :: .own L :: r) 3 P ↔ P L := Iff.rfl
theorem hv4 {x0 x1 x2 x3 : Sl} : wp (dVar 4) (x0 :: x1 :: x2 :: x3 :: .val d :: r) Q ↔ Q d (x0 :: x1 :: x2 :: x3 :: .val d :: r) := wp_of rfl
theorem ho4 {x0 x1 x2 x3 : Sl} : wp (dVar 4) (x0 :: x1 :: x2 :: x3 :: .own ds :: r) Q ↔ Q (.lst ds) (x0 :: x1 :: x2 :: x3 :: .val (.lst ds) :: r) := wp_of rfl
theorem hs4 {x0 x1 x2 x3 x : Sl} : setw (x0 :: x1 :: x2 :: x3 :: x :: r) 4 s K ↔ K (x0 :: x1 :: x2 :: x3 :: s :: r) := ⟨fun q => q.2, fun q => ⟨by simp only [List.length_cons]; omega, q⟩⟩
theorem hr4 {x0 x1 x2 x3 : Sl} : ownr (x0 :: x1 :: x2 :: x3 :: .own L :: r) 4 P ↔ P L := Iff.rfl
theorem hv5 {x0 x1 x2 x3 x4 : Sl} : wp (dVar 5) (x0 :: x1 :: x2 :: x3 :: x4 :: .val d :: r) Q ↔ Q d (x0 :: x1 :: x2 :: x3 :: x4 :: .val d :: r) := wp_of rfl
theorem ho5 {x0 x1 x2 x3 x4 : Sl} : wp (dVar 5) (x0 :: x1 :: x2 :: x3 :: x4 :: .own ds :: r) Q ↔ Q (.lst ds) (x0 :: x1 :: x2 :: x3 :: x4 :: .val (.lst ds) :: r) := wp_of rfl
theorem hs5 {x0 x1 x2 x3 x4 x : Sl} : setw (x0 :: x1 :: x2 :: x3 :: x4 :: x :: r) 5 s K ↔ K (x0 :: x1 :: x2 :: x3 :: x4 :: s :: r) := ⟨fun q => q.2, fun q => ⟨by simp only [List.length_cons]; omega, q⟩⟩
theorem hr5 {x0 x1 x2 x3 x4 : Sl} : ownr (x0 :: x1 :: x2 :: x3 :: x4 :: .own L :: r) 5 P ↔ P L := Iff.rfl
theorem hv6 {x0 x1 x2 x3 x4 x5 : Sl} : wp (dVar 6) (x0 :: x1 :: x2 :: x3 :: x4 :: x5 :: .val d :: r) Q ↔ Q d (x0 :: x1 :: x2 :: x3 :: x4 :: x5 :: .val d :: r) := wp_of rfl
theorem ho6 {x0 x1 x2 x3 x4 x5 : Sl} : wp (dVar 6) (x0 :: x1 :: x2 :: x3 :: x4 :: x5 :: .own ds :: r) Q ↔ Q (.lst ds) (x0 :: x1 :: x2 :: x3 :: x4 :: x5 :: .val (.lst ds) :: r) := wp_of rfl
theorem hs6 {x0 x1 x2 x3 x4 x5 x : Sl} : setw (x0 :: x1 :: x2 :: x3 :: x4 :: x5 :: x :: r) 6 s K ↔ K (x0 :: x1 :: x2 :: x3 :: x4 :: x5 :: s :: r) := ⟨fun q => q.2, fun q => ⟨by simp only [List.length_cons]; omega, q⟩⟩
theorem hr6 {x0 x1 x2 x3 x4 x5 : Sl} : ownr (x0 :: x1 :: x2 :: x3 :: x4 :: x5 :: .own L :: r) 6 P ↔ P L := Iff.rfl
theorem hv7 {x0 x1 x2 x3 x4 x5 x6 : Sl} : wp (dVar 7) (x0 :: x1 :: x2 :: x3 :: x4 :: x5 :: x6 :: .val d :: r) Q ↔ Q d (x0 :: x1 :: x2 :: x3 :: x4 :: x5 :: x6 :: .val d :: r) := wp_of rfl
theorem ho7 {x0 x1 x2 x3 x4 x5 x6 : Sl} : wp (dVar 7) (x0 :: x1 :: x2 :: x3 :: x4 :: x5 :: x6 :: .own ds :: r) Q ↔ Q (.lst ds) (x0 :: x1 :: x2 :: x3 :: x4 :: x5 :: x6 :: .val (.lst ds) :: r) := wp_of rfl
theorem hs7 {x0 x1 x2 x3 x4 x5 x6 x : Sl} : setw (x0 :: x1 :: x2 :: x3 :: x4 :: x5 :: x6 :: x :: r) 7 s K ↔ K (x0 :: x1 :: x2 :: x3 :: x4 :: x5 :: x6 :: s :: r) := ⟨fun q => q.2, fun q => ⟨by simp only [List.length_cons]; omega, q⟩⟩
theorem hr7 {x0 x1 x2 x3 x4 x5 x6 : Sl} : ownr (x0 :: x1 :: x2 :: x3 :: x4 :: x5 :: x6 :: .own L :: r) 7 P ↔ P L := Iff.rfl
theorem hv8 {x0 x1 x2 x3 x4 x5 x6 x7 : Sl} : wp (dVar 8) (x0 :: x1 :: x2 :: x3 :: x4 :: x5 :: x6 :: x7 :: .val d :: r) Q ↔ Q d (x0 :: x1 :: x2 :: x3 :: x4 :: x5 :: x6 :: x7 :: .val d :: r) := wp_of rfl
theorem ho8 {x0 x1 x2 x3 x4 x5 x6 x7 : Sl} : wp (dVar 8) (x0 :: x1 :: x2 :: x3 :: x4 :: x5 :: x6 :: x7 :: .own ds :: r) Q ↔ Q (.lst ds) (x0 :: x1 :: x2 :: x3 :: x4 :: x5 :: x6 :: x7 :: .val (.lst ds) :: r) := wp_of rfl
theorem hs8 {x0 x1 x2 x3 x4 x5 x6 x7 x : Sl} : setw (x0 :: x1 :: x2 :: x3 :: x4 :: x5 :: x6 :: x7 :: x :: r) 8 s K ↔ K (x0 :: x1 :: x2 :: x3 :: x4 :: x5 :: x6 :: x7 :: s :: r) := ⟨fun q => q.2, fun q => ⟨by simp only [List.length_cons]; omega, q⟩⟩
theorem hr8 {x0 x1 x2 x3 x4 x5 x6 x7 : Sl} : ownr (x0 :: x1 :: x2 :: x3 :: x4 :: x5 :: x6 :: x7 :: .own L :: r) 8 P ↔ P L := Iff.rfl
theorem hv9 {x0 x1 x2 x3 x4 x5 x6 x7 x8 : Sl} : wp (dVar 9) (x0 :: x1 :: x2 :: x3 :: x4 :: x5 :: x6 :: x7 :: x8 :: .val d :: r) Q ↔ Q d (x0 :: x1 :: x2 :: x3 :: x4 :: x5 :: x6 :: x7 :: x8 :: .val d :: r) := wp_of rfl
theorem ho9 {x0 x1 x2 x3 x4 x5 x6 x7 x8 : Sl} : wp (dVar 9) (x0 :: x1 :: x2 :: x3 :: x4 :: x5 :: x6 :: x7 :: x8 :: .own ds :: r) Q ↔ Q (.lst ds) (x0 :: x1 :: x2 :: x3 :: x4 :: x5 :: x6 :: x7 :: x8 :: .val (.lst ds) :: r) := wp_of rfl
theorem hs9 {x0 x1 x2 x3 x4 x5 x6 x7 x8 x : Sl} : setw (x0 :: x1 :: x2 :: x3 :: x4 :: x5 :: x6 :: x7 :: x8 :: x :: r) 9 s K ↔ K (x0 :: x1 :: x2 :: x3 :: x4 :: x5 :: x6 :: x7 :: x8 :: s :: r) := ⟨fun q => q.2, fun q => ⟨by simp only [List.length_cons]; omega, q⟩⟩
theorem hr9 {x0 x1 x2 x3 x4 x5 x6 x7 x8 : Sl} : ownr (x0 :: x1 :: x2 :: x3 :: x4 :: x5 :: x6 :: x7 :: x8 :: .own L :: r) 9 P ↔ P L := Iff.rfl
theorem hv10 {x0 x1 x2 x3 x4 x5 x6 x7 x8 x9 : Sl} : wp (dVar 10) (x0 :: x1 :: x2 :: x3 :: x4 :: x5 :: x6 :: x7 :: x8 :: x9 :: .val d :: r) Q ↔ Q d (x0 :: x1 :: x2 :: x3 :: x4 :: x5 :: x6 :: x7 :: x8 :: x9 :: .val d :: r) := wp_of rfl
theorem ho10 {x0 x1 x2 x3 x4 x5 x6 x7 x8 x9 : Sl} : wp (dVar 10) (x0 :: x1 :: x2 :: x3 :: x4 :: x5 :: x6 :: x7 :: x8 :: x9 :: .own ds :: r) Q ↔ Q (.lst ds) (x0 :: x1 :: x2 :: x3 :: x4 :: x5 :: x6 :: x7 :: x8 :: x9 :: .val (.lst ds) :: r) := wp_of rfl
theorem hs10 {x0 x1 x2 x3 x4 x5 x6 x7 x8 x9 x : Sl} : setw (x0 :: x1 :: x2 :: x3 :: x4 :: x5 :: x6 :: x7 :: x8 :: x9 :: x :: r) 10 s K ↔ K (x0 :: x1 :: x2 :: x3 :: x4 :: x5 :: x6 :: x7 :: x8 :: x9 :: s :: r) := ⟨fun q => q.2, fun q => ⟨by simp only [List.length_cons]; omega, q⟩⟩
theorem hr10 {x0 x1 x2 x3 x4 x5 x6 x7 x8 x9 : Sl} : ownr (x0 :: x1 :: x2 :: x3 :: x4 :: x5 :: x6 :: x7 :: x8 :: x9 :: .own L :: r) 10 P ↔ P L := Iff.rfl
theorem hv11 {x0 x1 x2 x3 x4 x5 x6 x7 x8 x9 x10 : Sl} : wp (dVar 11) (x0 :: x1 :: x2 :: x3 :: x4 :: x5 :: x6 :: x7 :: x8 :: x9 :: x10 :: .val d :: r) Q ↔ Q d (x0 :: x1 :: x2 :: x3 :: x4 :: x5 :: x6 :: x7 :: x8 :: x9 :: x10 :: .val d :: r) := wp_of rfl
theorem ho11 {x0 x1 x2 x3 x4 x5 x6 x7 x8 x9 x10 : Sl} : wp (dVar 11) (x0 :: x1 :: x2 :: x3 :: x4 :: x5 :: x6 :: x7 :: x8 :: x9 :: x10 :: .own ds :: r) Q ↔ Q (.lst ds) (x0 :: x1 :: x2 :: x3 :: x4 :: x5 :: x6 :: x7 :: x8 :: x9 :: x10 :: .val (.lst ds) :: r) := wp_of rfl
theorem hs11 {x0 x1 x2 x3 x4 x5 x6 x7 x8 x9 x10 x : Sl} : setw (x0 :: x1 :: x2 :: x3 :: x4 :: x5 :: x6 :: x7 :: x8 :: x9 :: x10 :: x :: r) 11 s K ↔ K (x0 :: x1 :: x2 :: x3 :: x4 :: x5 :: x6 :: x7 :: x8 :: x9 :: x10 :: s :: r) := ⟨fun q => q.2, fun q => ⟨by simp only [List.length_cons]; omega, q⟩⟩
theorem hr11 {x0 x1 x2 x3 x4 x5 x6 x7 x8 x9 x10 : Sl} : ownr (x0 :: x1 :: x2 :: x3 :: x4 :: x5 :: x6 :: x7 :: x8 :: x9 :: x10 :: .own L :: r) 11 P ↔ P L := Iff.rfl
theorem hv12 {x0 x1 x2 x3 x4 x5 x6 x7 x8 x9 x10 x11 : Sl} : wp (dVar 12) (x0 :: x1 :: x2 :: x3 :: x4 :: x5 :: x6 :: x7 :: x8 :: x9 :: x10 :: x11 :: .val d :: r) Q ↔ Q d (x0 :: x1 :: x2 :: x3 :: x4 :: x5 :: x6 :: x7 :: x8 :: x9 :: x10 :: x11 :: .val d :: r) := wp_of rfl
theorem ho12 {x0 x1 x2 x3 x4 x5 x6 x7 x8 x9 x10 x11 : Sl} : wp (dVar 12) (x0 :: x1 :: x2 :: x3 :: x4 :: x5 :: x6 :: x7 :: x8 :: x9 :: x10 :: x11 :: .own ds :: r) Q ↔ Q (.lst ds) (x0 :: x1 :: x2 :: x3 :: x4 :: x5 :: x6 :: x7 :: x8 :: x9 :: x10 :: x11 :: .val (.lst ds) :: r) := wp_of rfl
theorem hs12 {x0 x1 x2 x3 x4 x5 x6 x7 x8 x9 x10 x11 x : Sl} : setw (x0 :: x1 :: x2 :: x3 :: x4 :: x5 :: x6 :: x7 :: x8 :: x9 :: x10 :: x11 :: x :: r) 12 s K ↔ K (x0 :: x1 :: x2 :: x3 :: x4 :: x5 :: x6 :: x7 :: x8 :: x9 :: x10 :: x11 :: s :: r) := ⟨fun q => q.2, fun q => ⟨by simp only [List.length_cons]; omega, q⟩⟩
theorem hr12 {x0 x1 x2 x3 x4 x5 x6 x7 x8 x9 x10 x11 : Sl} : ownr (x0 :: x1 :: x2 :: x3 :: x4 :: x5 :: x6 :: x7 :: x8 :: x9 :: x10 :: x11 :: .own L :: r) 12 P ↔ P L := Iff.rfl
theorem hv13 {x0 x1 x2 x3 x4 x5 x6 x7 x8 x9 x10 x11 x12 : Sl} : wp (dVar 13) (x0 :: x1 :: x2 :: x3 :: x4 :: x5 :: x6 :: x7 :: x8 :: x9 :: x10 :: x11 :: x12 :: .val d :: r) Q ↔ Q d (x0 :: x1 :: x2 :: x3 :: x4 :: x5 :: x6 :: x7 :: x8 :: x9 :: x10 :: x11 :: x12 :: .val d :: r) := wp_of rfl
theorem ho13 {x0 x1 x2 x3 x4 x5 x6 x7 x8 x9 x10 x11 x12 : Sl} : wp (dVar 13) (x0 :: x1 :: x2 :: x3 :: x4 :: x5 :: x6 :: x7 :: x8 :: x9 :: x10 :: x11 :: x12 :: .own ds :: r) Q ↔ Q (.lst ds) (x0 :: x1 :: x2 :: x3 :: x4 :: x5 :: x6 :: x7 :: x8 :: x9 :: x10 :: x11 :: x12 :: .val (.lst ds) :: r) := wp_of rfl
theorem hs13 {x0 x1 x2 x3 x4 x5 x6 x7 x8 x9 x10 x11 x12 x : Sl} : setw (x0 :: x1 :: x2 :: x3 :: x4 :: x5 :: x6 :: x7 :: x8 :: x9 :: x10 :: x11 :: x12 :: x :: r) 13 s K ↔ K (x0 :: x1 :: x2 :: x3 :: x4 :: x5 :: x6 :: x7 :: x8 :: x9 :: x10 :: x11 :: x12 :: s :: r) := ⟨fun q => q.2, fun q => ⟨by simp only [List.length_cons]; omega, q⟩⟩
theorem hr13 {x0 x1 x2 x3 x4 x5 x6 x7 x8 x9 x10 x11 x12 : Sl} : ownr (x0 :: x1 :: x2 :: x3 :: x4 :: x5 :: x6 :: x7 :: x8 :: x9 :: x10 :: x11 :: x12 :: .own L :: r) 13 P ↔ P L := Iff.rfl
theorem hv14 {x0 x1 x2 x3 x4 x5 x6 x7 x8 x9 x10 x11 x12 x13 : Sl} : wp (dVar 14) (x0 :: x1 :: x2 :: x3 :: x4 :: x5 :: x6 :: x7 :: x8 :: x9 :: x10 :: x11 :: x12 :: x13 :: .val d :: r) Q ↔ Q d (x0 :: x1 :: x2 :: x3 :: x4 :: x5 :: x6 :: x7 :: x8 :: x9 :: x10 :: x11 :: x12 :: x13 :: .val d :: r) := wp_of rfl
theorem ho14 {x0 x1 x2 x3 x4 x5 x6 x7 x8 x9 x10 x11 x12 x13 : Sl} : wp (dVar 14) (x0 :: x1 :: x2 :: x3 :: x4 :: x5 :: x6 :: x7 :: x8 :: x9 :: x10 :: x11 :: x12 :: x13 :: .own ds :: r) Q ↔ Q (.lst ds) (x0 :: x1 :: x2 :: x3 :: x4 :: x5 :: x6 :: x7 :: x8 :: x9 :: x10 :: x11 :: x12 :: x13 :: .val (.lst ds) :: r) := wp_of rfl
theorem hs14 {x0 x1 x2 x3 x4 x5 x6 x7 x8 x9 x10 x11 x12 x13 x : Sl} : setw (x0 :: x1 :: x2 :: x3 :: x4 :: x5 :: x6 :: x7 :: x8 :: x9 :: x10 :: x11 :: x12 :: x13 :: x :: r) 14 s K ↔ K (x0 :: x1 :: x2 :: x3 :: x4 :: x5 :: x6 :: x7 :: x8 :: x9 :: x10 :: x11 :: x12 :: x13 :: s :: r) := ⟨fun q => q.2, fun q => ⟨by simp only [List.length_cons]; omega, q⟩⟩
theorem hr14 {x0 x1 x2 x3 x4 x5 x6 x7 x8 x9 x10 x11 x12 x13 : Sl} : ownr (x0 :: x1 :: x2 :: x3 :: x4 :: x5 :: x6 :: x7 :: x8 :: x9 :: x10 :: x11 :: x12 :: x13 :: .own L :: r) 14 P ↔ P L := Iff.rfl
theorem hv15 {x0 x1 x2 x3 x4 x5 x6 x7 x8 x9 x10 x11 x12 x13 x14 : Sl} : wp (dVar 15) (x0 :: x1 :: x2 :: x3 :: x4 :: x5 :: x6 :: x7 :: x8 :: x9 :: x10 :: x11 :: x12 :: x13 :: x14 :: .val d :: r) Q ↔ Q d (x0 :: x1 :: x2 :: x3 :: x4 :: x5 :: x6 :: x7 :: x8 :: x9 :: x10 :: x11 :: x12 :: x13 :: x14 :: .val d :: r) := wp_of rfl
theorem ho15 {x0 x1 x2 x3 x4 x5 x6 x7 x8 x9 x10 x11 x12 x13 x14 : Sl} : wp (dVar 15) (x0 :: x1 :: x2 :: x3 :: x4 :: x5 :: x6 :: x7 :: x8 :: x9 :: x10 :: x11 :: x12 :: x13 :: x14 :: .own ds :: r) Q ↔ Q (.lst ds) (x0 :: x1 :: x2 :: x3 :: x4 :: x5 :: x6 :: x7 :: x8 :: x9 :: x10 :: x11 :: x12 :: x13 :: x14 :: .val (.lst ds) :: r) := wp_of rfl
theorem hs15 {x0 x1 x2 x3 x4 x5 x6 x7 x8 x9 x10 x11 x12 x13 x14 x : Sl} : setw (x0 :: x1 :: x2 :: x3 :: x4 :: x5 :: x6 :: x7 :: x8 :: x9 :: x10 :: x11 :: x12 :: x13 :: x14 :: x :: r) 15 s K ↔ K (x0 :: x1 :: x2 :: x3 :: x4 :: x5 :: x6 :: x7 :: x8 :: x9 :: x10 :: x11 :: x12 :: x13 :: x14 :: s :: r) := ⟨fun q => q.2, fun q => ⟨by simp only [List.length_cons]; omega, q⟩⟩
theorem hr15 {x0 x1 x2 x3 x4 x5 x6 x7 x8 x9 x10 x11 x12 x13 x14 : Sl} : ownr (x0 :: x1 :: x2 :: x3 :: x4 :: x5 :: x6 :: x7 :: x8 :: x9 :: x10 :: x11 :: x12 :: x13 :: x14 :: .own L :: r) 15 P ↔ P L := Iff.rfl
theorem hv16 {x0 x1 x2 x3 x4 x5 x6 x7 x8 x9 x10 x11 x12 x13 x14 x15 : Sl} : wp (dVar 16) (x0 :: x1 :: x2 :: x3 :: x4 :: x5 :: x6 :: x7 :: x8 :: x9 :: x10 :: x11 :: x12 :: x13 :: x14 :: x15 :: .val d :: r) Q ↔ Q d (x0 :: x1 :: x2 :: x3 :: x4 :: x5 :: x6 :: x7 :: x8 :: x9 :: x10 :: x11 :: x12 :: x13 :: x14 :: x15 :: .val d :: r) := wp_of rfl
theorem ho16 {x0 x1 x2 x3 x4 x5 x6 x7 x8 x9 x10 x11 x12 x13 x14 x15 : Sl} : wp (dVar 16) (x0 :: x1 :: x2 :: x3 :: x4 :: x5 :: x6 :: x7 :: x8 :: x9 :: x10 :: x11 :: x12 :: x13 :: x14 :: x15 :: .own ds :: r) Q ↔ Q (.lst ds) (x0 :: x1 :: x2 :: x3 :: x4 :: x5 :: x6 :: x7 :: x8 :: x9 :: x10 :: x11 :: x12 :: x13 :: x14 :: x15 :: .val (.lst ds) :: r) := wp_of rfl
theorem hs16 {x0 x1 x2 x3 x4 x5 x6 x7 x8 x9 x10 x11 x12 x13 x14 x15 x : Sl} : setw (x0 :: x1 :: x2 :: x3 :: x4 :: x5 :: x6 :: x7 :: x8 :: x9 :: x10 :: x11 :: x12 :: x13 :: x14 :: x15 :: x :: r) 16 s K ↔ K (x0 :: x1 :: x2 :: x3 :: x4 :: x5 :: x6 :: x7 :: x8 :: x9 :: x10 :: x11 :: x12 :: x13 :: x14 :: x15 :: s :: r) := ⟨fun q => q.2, fun q => ⟨by simp only [List.length_cons]; omega, q⟩⟩
theorem hr16 {x0 x1 x2 x3 x4 x5 x6 x7 x8 x9 x10 x11 x12 x13 x14 x15 : Sl} : ownr (x0 :: x1 :: x2 :: x3 :: x4 :: x5 :: x6 :: x7 :: x8 :: x9 :: x10 :: x11 :: x12 :: x13 :: x14 :: x15 :: .own L :: r) 16 P ↔ P L := Iff.rfl
theorem hv17 {x0 x1 x2 x3 x4 x5 x6 x7 x8 x9 x10 x11 x12 x13 x14 x15 x16 : Sl} : wp (dVar 17) (x0 :: x1 :: x2 :: x3 :: x4 :: x5 :: x6 :: x7 :: x8 :: x9 :: x10 :: x11 :: x12 :: x13 :: x14 :: x15 :: x16 :: .val d :: r) Q ↔ Q d (x0 :: x1 :: x2 :: x3 :: x4 :: x5 :: x6 :: x7 :: x8 :: x9 :: x10 :: x11 :: x12 :: x13 :: x14 :: x15 :: x16 :: .val d :: r) := wp_of rfl
theorem ho17 {x0 x1 x2 x3 x4 x5 x6 x7 x8 x9 x10 x11 x12 x13 x14 x15 x16 : Sl} : wp (dVar 17) (x0 :: x1 :: x2 :: x3 :: x4 :: x5 :: x6 :: x7 :: x8 :: x9 :: x10 :: x11 :: x12 :: x13 :: x14 :: x15 :: x16 :: .own ds :: r) Q ↔ Q (.lst ds) (x0 :: x1 :: x2 :: x3 :: x4 :: x5 :: x6 :: x7 :: x8 :: x9 :: x10 :: x11 :: x12 :: x13 :: x14 :: x15 :: x16 :: .val (.lst ds) :: r) := wp_of rfl
theorem hs17 {x0 x1 x2 x3 x4 x5 x6 x7 x8 x9 x10 x11 x12 x13 x14 x15 x16 x : Sl} : setw (x0 :: x1 :: x2 :: x3 :: x4 :: x5 :: x6 :: x7 :: x8 :: x9 :: x10 :: x11 :: x12 :: x13 :: x14 :: x15 :: x16 :: x :: r) 17 s K ↔ K (x0 :: x1 :: x2 :: x3 :: x4 :: x5 :: x6 :: x7 :: x8 :: x9 :: x10 :: x11 :: x12 :: x13 :: x14 :: x15 :: x16 :: s :: r) := ⟨fun q => q.2, fun q => ⟨by simp only [List.length_cons]; omega, q⟩⟩
theorem hr17 {x0 x1 x2 x3 x4 x5 x6 x7 x8 x9 x10 x11 x12 x13 x14 x15 x16 : Sl} : ownr (x0 :: x1 :: x2 :: x3 :: x4 :: x5 :: x6 :: x7 :: x8 :: x9 :: x10 :: x11 :: x12 :: x13 :: x14 :: x15 :: x16 :: .own L :: r) 17 P ↔ P L := Iff.rfl
theorem hv18 {x0 x1 x2 x3 x4 x5 x6 x7 x8 x9 x10 x11 x12 x13 x14 x15 x16 x17 : Sl} : wp (dVar 18) (x0 :: x1 :: x2 :: x3 :: x4 :: x5 :: x6 :: x7 :: x8 :: x9 :: x10 :: x11 :: x12 :: x13 :: x14 :: x15 :: x16 :: x17 :: .val d :: r) Q ↔ Q d (x0 :: x1 :: x2 :: x3 :: x4 :: x5 :: x6 :: x7 :: x8 :: x9 :: x10 :: x11 :: x12 :: x13 :: x14 :: x15 :: x16 :: x17 :: .val d :: r) := wp_of rfl
theorem ho18 {x0 x1 x2 x3 x4 x5 x6 x7 x8 x9 x10 x11 x12 x13 x14 x15 x16 x17 : Sl} : wp (dVar 18) (x0 :: x1 :: x2 :: x3 :: x4 :: x5 :: x6 :: x7 :: x8 :: x9 :: x10 :: x11 :: x12 :: x13 :: x14 :: x15 :: x16 :: x17 :: .own ds :: r) Q ↔ Q (.lst ds) (x0 :: x1 :: x2 :: x3 :: x4 :: x5 :: x6 :: x7 :: x8 :: x9 :: x10 :: x11 :: x12 :: x13 :: x14 :: x15 :: x16 :: x17 :: .val (.lst ds) :: r) := wp_of rfl
theorem hs18 {x0 x1 x2 x3 x4 x5 x6 x7 x8 x9 x10 x11 x12 x13 x14 x15 x16 x17 x : Sl} : setw (x0 :: x1 :: x2 :: x3 :: x4 :: x5 :: x6 :: x7 :: x8 :: x9 :: x10 :: x11 :: x12 :: x13 :: x14 :: x15 :: x16 :: x17 :: x :: r) 18 s K ↔ K (x0 :: x1 :: x2 :: x3 :: x4 :: x5 :: x6 :: x7 :: x8 :: x9 :: x10 :: x11 :: x12 :: x13 :: x14 :: x15 :: x16 :: x17 :: s :: r) := ⟨fun q => q.2, fun q => ⟨by simp only [List.length_cons]; omega, q⟩⟩
theorem hr18 {x0 x1 x2 x3 x4 x5 x6 x7 x8 x9 x10 x11 x12 x13 x14 x15 x16 x17 : Sl} : ownr (x0 :: x1 :: x2 :: x3 :: x4 :: x5 :: x6 :: x7 :: x8 :: x9 :: x10 :: x11 :: x12 :: x13 :: x14 :: x15 :: x16 :: x17 :: .own L :: r) 18 P ↔ P L := Iff.rfl
theorem hv19 {x0 x1 x2 x3 x4 x5 x6 x7 x8 x9 x10 x11 x12 x13 x14 x15 x16 x17 x18 : Sl} : wp (dVar 19) (x0 :: x1 :: x2 :: x3 :: x4 :: x5 :: x6 :: x7 :: x8 :: x9 :: x10 :: x11 :: x12 :: x13 :: x14 :: x15 :: x16 :: x17 :: x18 :: .val d :: r) Q ↔ Q d (x0 :: x1 :: x2 :: x3 :: x4 :: x5 :: x6 :: x7 :: x8 :: x9 :: x10 :: x11 :: x12 :: x13 :: x14 :: x15 :: x16 :: x17 :: x18 :: .val d :: r) := wp_of rfl
theorem ho19 {x0 x1 x2 x3 x4 x5 x6 x7 x8 x9 x10 x11 x12 x13 x14 x15 x16 x17 x18 : Sl} : wp (dVar 19) (x0 :: x1 :: x2 :: x3 :: x4 :: x5 :: x6 :: x7 :: x8 :: x9 :: x10 :: x11 :: x12 :: x13 :: x14 :: x15 :: x16 :: x17 :: x18 :: .own ds :: r) Q ↔ Q (.lst ds) (x0 :: x1 :: x2 :: x3 :: x4 :: x5 :: x6 :: x7 :: x8 :: x9 :: x10 :: x11 :: x12 :: x13 :: x14 :: x15 :: x16 :: x17 :: x18 :: .val (.lst ds) :: r) := wp_of rfl
theorem hs19 {x0 x1 x2 x3 x4 x5 x6 x7 x8 x9 x10 x11 x12 x13 x14 x15 x16 x17 x18 x : Sl} : setw (x0 :: x1 :: x2 :: x3 :: x4 :: x5 :: x6 :: x7 :: x8 :: x9 :: x10 :: x11 :: x12 :: x13 :: x14 :: x15 :: x16 :: x17 :: x18 :: x :: r) 19 s K ↔ K (x0 :: x1 :: x2 :: x3 :: x4 :: x5 :: x6 :: x7 :: x8 :: x9 :: x10 :: x11 :: x12 :: x13 :: x14 :: x15 :: x16 :: x17 :: x18 :: s :: r) := ⟨fun q => q.2, fun q => ⟨by simp only [List.length_cons]; omega, q⟩⟩
theorem hr19 {x0 x1 x2 x3 x4 x5 x6 x7 x8 x9 x10 x11 x12 x13 x14 x15 x16 x17 x18 : Sl} : ownr (x0 :: x1 :: x2 :: x3 :: x4 :: x5 :: x6 :: x7 :: x8 :: x9 :: x10 :: x11 :: x12 :: x13 :: x14 :: x15 :: x16 :: x17 :: x18 :: .own L :: r) 19 P ↔ P L := Iff.rfl
theorem hv20 {x0 x1 x2 x3 x4 x5 x6 x7 x8 x9 x10 x11 x12 x13 x14 x15 x16 x17 x18 x19 : Sl} : wp (dVar 20) (x0 :: x1 :: x2 :: x3 :: x4 :: x5 :: x6 :: x7 :: x8 :: x9 :: x10 :: x11 :: x12 :: x13 :: x14 :: x15 :: x16 :: x17 :: x18 :: x19 :: .val d :: r) Q ↔ Q d (x0 :: x1 :: x2 :: x3 :: x4 :: x5 :: x6 :: x7 :: x8 :: x9 :: x10 :: x11 :: x12 :: x13 :: x14 :: x15 :: x16 :: x17 :: x18 :: x19 :: .val d :: r) := wp_of rfl
theorem ho20 {x0 x1 x2 x3 x4 x5 x6 x7 x8 x9 x10 x11 x12 x13 x14 x15 x16 x17 x18 x19 : Sl} : wp (dVar 20) (x0 :: x1 :: x2 :: x3 :: x4 :: x5 :: x6 :: x7 :: x8 :: x9 :: x10 :: x11 :: x12 :: x13 :: x14 :: x15 :: x16 :: x17 :: x18 :: x19 :: .own ds :: r) Q ↔ Q (.lst ds) (x0 :: x1 :: x2 :: x3 :: x4 :: x5 :: x6 :: x7 :: x8 :: x9 :: x10 :: x11 :: x12 :: x13 :: x14 :: x15 :: x16 :: x17 :: x18 :: x19 :: .val (.lst ds) :: r) := wp_of rfl
theorem hs20 {x0 x1 x2 x3 x4 x5 x6 x7 x8 x9 x10 x11 x12 x13 x14 x15 x16 x17 x18 x19 x : Sl} : setw (x0 :: x1 :: x2 :: x3 :: x4 :: x5 :: x6 :: x7 :: x8 :: x9 :: x10 :: x11 :: x12 :: x13 :: x14 :: x15 :: x16 :: x17 :: x18 :: x19 :: x :: r) 20 s K ↔ K (x0 :: x1 :: x2 :: x3 :: x4 :: x5 :: x6 :: x7 :: x8 :: x9 :: x10 :: x11 :: x12 :: x13 :: x14 :: x15 :: x16 :: x17 :: x18 :: x19 :: s :: r) := ⟨fun q => q.2, fun q => ⟨by simp only [List.length_cons]; omega, q⟩⟩
theorem hr20 {x0 x1 x2 x3 x4 x5 x6 x7 x8 x9 x10 x11 x12 x13 x14 x15 x16 x17 x18 x19 : Sl} : ownr (x0 :: x1 :: x2 :: x3 :: x4 :: x5 :: x6 :: x7 :: x8 :: x9 :: x10 :: x11 :: x12 :: x13 :: x14 :: x15 :: x16 :: x17 :: x18 :: x19 :: .own L :: r) 20 P ↔ P L := Iff.rfl
theorem hv21 {x0 x1 x2 x3 x4 x5 x6 x7 x8 x9 x10 x11 x12 x13 x14 x15 x16 x17 x18 x19 x20 : Sl} : wp (dVar 21) (x0 :: x1 :: x2 :: x3 :: x4 :: x5 :: x6 :: x7 :: x8 :: x9 :: x10 :: x11 :: x12 :: x13 :: x14 :: x15 :: x16 :: x17 :: x18 :: x19 :: x20 :: .val d :: r) Q ↔ Q d (x0 :: x1 :: x2 :: x3 :: x4 :: x5 :: x6 :: x7 :: x8 :: x9 :: x10 :: x11 :: x12 :: x13 :: x14 :: x15 :: x16 :: x17 :: x18 :: x19 :: x20 :: .val d :: r) := wp_of rfl
theorem ho21 {x0 x1 x2 x3 x4 x5 x6 x7 x8 x9 x10 x11 x12 x13 x14 x15 x16 x17 x18 x19 x20 : Sl} : wp (dVar 21) (x0 :: x1 :: x2 :: x3 :: x4 :: x5 :: x6 :: x7 :: x8 :: x9 :: x10 :: x11 :: x12 :: x13 :: x14 :: x15 :: x16 :: x17 :: x18 :: x19 :: x20 :: .own ds :: r) Q ↔ Q (.lst ds) (x0 :: x1 :: x2 :: x3 :: x4 :: x5 :: x6 :: x7 :: x8 :: x9 :: x10 :: x11 :: x12 :: x13 :: x14 :: x15 :: x16 :: x17 :: x18 :: x19 :: x20 :: .val (.lst ds) :: r) := wp_of rfl
theorem hs21 {x0 x1 x2 x3 x4 x5 x6 x7 x8 x9 x10 x11 x12 x13 x14 x15 x16 x17 x18 x19 x20 x : Sl} : setw (x0 :: x1 :: x2 :: x3 :: x4 :: x5 :: x6 :: x7 :: x8 :: x9 :: x10 :: x11 :: x12 :: x13 :: x14 :: x15 :: x16 :: x17 :: x18 :: x19 :: x20 :: x :: r) 21 s K ↔ K (x0 :: x1 :: x2 :: x3 :: x4 :: x5 :: x6 :: x7 :: x8 :: x9 :: x10 :: x11 :: x12 :: x13 :: x14 :: x15 :: x16 :: x17 :: x18 :: x19 :: x20 :: s :: r) := ⟨fun q => q.2, fun q => ⟨by simp only [List.length_cons]; omega, q⟩⟩
theorem hr21 {x0 x1 x2 x3 x4 x5 x6 x7 x8 x9 x10 x11 x12 x13 x14 x15 x16 x17 x18 x19 x20 : Sl} : ownr (x0 :: x1 :: x2 :: x3 :: x4 :: x5 :: x6 :: x7 :: x8 :: x9 :: x10 :: x11 :: x12 :: x13 :: x14 :: x15 :: x16 :: x17 :: x18 :: x19 :: x20 :: .own L :: r) 21 P ↔ P L := Iff.rfl
theorem hv22 {x0 x1 x2 x3 x4 x5 x6 x7 x8 x9 x10 x11 x12 x13 x14 x15 x16 x17 x18 x19 x20 x21 : Sl} : wp (dVar 22) (x0 :: x1 :: x2 :: x3 :: x4 :: x5 :: x6 :: x7 :: x8 :: x9 :: x10 :: x11 :: x12 :: x13 :: x14 :: x15 :: x16 :: x17 :: x18 :: x19 :: x20 :: x21 :: .val d :: r) Q ↔ Q d (x0 :: x1 :: x2 :: x3 :: x4 :: x5 :: x6 :: x7 :: x8 :: x9 :: x10 :: x11 :: x12 :: x13 :: x14 :: x15 :: x16 :: x17 :: x18 :: x19 :: x20 :: x21 :: .val d :: r) := wp_of rfl
theorem ho22 {x0 x1 x2 x3 x4 x5 x6 x7 x8 x9 x10 x11 x12 x13 x14 x15 x16 x17 x18 x19 x20 x21 : Sl} : wp (dVar 22) (x0 :: x1 :: x2 :: x3 :: x4 :: x5 :: x6 :: x7 :: x8 :: x9 :: x10 :: x11 :: x12 :: x13 :: x14 :: x15 :: x16 :: x17 :: x18 :: x19 :: x20 :: x21 :: .own ds :: r) Q ↔ Q (.lst ds) (x0 :: x1 :: x2 :: x3 :: x4 :: x5 :: x6 :: x7 :: x8 :: x9 :: x10 :: x11 :: x12 :: x13 :: x14 :: x15 :: x16 :: x17 :: x18 :: x19 :: x20 :: x21 :: .val (.lst ds) :: r) := wp_of rfl
theorem hs22 {x0 x1 x2 x3 x4 x5 x6 x7 x8 x9 x10 x11 x12 x13 x14 x15 x16 x17 x18 x19 x20 x21 x : Sl} : setw (x0 :: x1 :: x2 :: x3 :: x4 :: x5 :: x6 :: x7 :: x8 :: x9 :: x10 :: x11 :: x12 :: x13 :: x14 :: x15 :: x16 :: x17 :: x18 :: x19 :: x20 :: x21 :: x :: r) 22 s K ↔ K (x0 :: x1 :: x2 :: x3 :: x4 :: x5 :: x6 :: x7 :: x8 :: x9 :: x10 :: x11 :: x12 :: x13 :: x14 :: x15 :: x16 :: x17 :: x18 :: x19 :: x20 :: x21 :: s :: r) := ⟨fun q => q.2, fun q => ⟨by simp only [List.length_cons]; omega, q⟩⟩
theorem hr22 {x0 x1 x2 x3 x4 x5 x6 x7 x8 x9 x10 x11 x12 x13 x14 x15 x16 x17 x18 x19 x20 x21 : Sl} : ownr (x0 :: x1 :: x2 :: x3 :: x4 :: x5 :: x6 :: x7 :: x8 :: x9 :: x10 :: x11 :: x12 :: x13 :: x14 :: x15 :: x16 :: x17 :: x18 :: x19 :: x20 :: x21 :: .own L :: r) 22 P ↔ P L := Iff.rfl
theorem hv23 {x0 x1 x2 x3 x4 x5 x6 x7 x8 x9 x10 x11 x12 x13 x14 x15 x16 x17 x18 x19 x20 x21 x22 : Sl} : wp (dVar 23) (x0 :: x1 :: x2 :: x3 :: x4 :: x5 :: x6 :: x7 :: x8 :: x9 :: x10 :: x11 :: x12 :: x13 :: x14 :: x15 :: x16 :: x17 :: x18 :: x19 :: x20 :: x21 :: x22 :: .val d :: r) Q ↔ Q d (x0 :: x1 :: x2 :: x3 :: x4 :: x5 :: x6 :: x7 :: x8 :: x9 :: x10 :: x11 :: x12 :: x13 :: x14 :: x15 :: x16 :: x17 :: x18 :: x19 :: x20 :: x21 :: x22 :: .val d :: r) := wp_of rfl
theorem ho23 {x0 x1 x2 x3 x4 x5 x6 x7 x8 x9 x10 x11 x12 x13 x14 x15 x16 x17 x18 x19 x20 x21 x22 : Sl} : wp (dVar 23) (x0 :: x1 :: x2 :: x3 :: x4 :: x5 :: x6 :: x7 :: x8 :: x9 :: x10 :: x11 :: x12 :: x13 :: x14 :: x15 :: x16 :: x17 :: x18 :: x19 :: x20 :: x21 :: x22 :: .own ds :: r) Q ↔ Q (.lst ds) (x0 :: x1 :: x2 :: x3 :: x4 :: x5 :: x6 :: x7 :: x8 :: x9 :: x10 :: x11 :: x12 :: x13 :: x14 :: x15 :: x16 :: x17 :: x18 :: x19 :: x20 :: x21 :: x22 :: .val (.lst ds) :: r) := wp_of rfl
theorem hs23 {x0 x1 x2 x3 x4 x5 x6 x7 x8 x9 x10 x11 x12 x13 x14 x15 x16 x17 x18 x19 x20 x21 x22 x : Sl} : setw (x0 :: x1 :: x2 :: x3 :: x4 :: x5 :: x6 :: x7 :: x8 :: x9 :: x10 :: x11 :: x12 :: x13 :: x14 :: x15 :: x16 :: x17 :: x18 :: x19 :: x20 :: x21 :: x22 :: x :: r) 23 s K ↔ K (x0 :: x1 :: x2 :: x3 :: x4 :: x5 :: x6 :: x7 :: x8 :: x9 :: x10 :: x11 :: x12 :: x13 :: x14 :: x15 :: x16 :: x17 :: x18 :: x19 :: x20 :: x21 :: x22 :: s :: r) := ⟨fun q => q.2, fun q => ⟨by simp only [List.length_cons]; omega, q⟩⟩
theorem hr23 {x0 x1 x2 x3 x4 x5 x6 x7 x8 x9 x10 x11 x12 x13 x14 x15 x16 x17 x18 x19 x20 x21 x22 : Sl} : ownr (x0 :: x1 :: x2 :: x3 :: x4 :: x5 :: x6 :: x7 :: x8 :: x9 :: x10 :: x11 :: x12 :: x13 :: x14 :: x15 :: x16 :: x17 :: x18 :: x19 :: x20 :: x21 :: x22 :: .own L :: r) 23 P ↔ P L := Iff.rfl
theorem hv24 {x0 x1 x2 x3 x4 x5 x6 x7 x8 x9 x10 x11 x12 x13 x14 x15 x16 x17 x18 x19 x20 x21 x22 x23 : Sl} : wp (dVar 24) (x0 :: x1 :: x2 :: x3 :: x4 :: x5 :: x6 :: x7 :: x8 :: x9 :: x10 :: x11 :: x12 :: x13 :: x14 :: x15 :: x16 :: x17 :: x18 :: x19 :: x20 :: x21 :: x22 :: x23 :: .val d :: r) Q ↔ Q d (x0 :: x1 :: x2 :: x3 :: x4 :: x5 :: x6 :: x7 :: x8 :: x9 :: x10 :: x11 :: x12 :: x13 :: x14 :: x15 :: x16 :: x17 :: x18 :: x19 :: x20 :: x21 :: x22 :: x23 :: .val d :: r) := wp_of rfl
theorem ho24 {x0 x1 x2 x3 x4 x5 x6 x7 x8 x9 x10 x11 x12 x13 x14 x15 x16 x17 x18 x19 x20 x21 x22 x23 : Sl} : wp (dVar 24) (x0 :: x1 :: x2 :: x3 :: x4 :: x5 :: x6 :: x7 :: x8 :: x9 :: x10 :: x11 :: x12 :: x13 :: x14 :: x15 :: x16 :: x17 :: x18 :: x19 :: x20 :: x21 :: x22 :: x23 :: .own ds :: r) Q ↔ Q (.lst ds) (x0 :: x1 :: x2 :: x3 :: x4 :: x5 :: x6 :: x7 :: x8 :: x9 :: x10 :: x11 :: x12 :: x13 :: x14 :: x15 :: x16 :: x17 :: x18 :: x19 :: x20 :: x21 :: x22 :: x23 :: .val (.lst ds) :: r) := wp_of rfl
theorem hs24 {x0 x1 x2 x3 x4 x5 x6 x7 x8 x9 x10 x11 x12 x13 x14 x15 x16 x17 x18 x19 x20 x21 x22 x23 x : Sl} : setw (x0 :: x1 :: x2 :: x3 :: x4 :: x5 :: x6 :: x7 :: x8 :: x9 :: x10 :: x11 :: x12 :: x13 :: x14 :: x15 :: x16 :: x17 :: x18 :: x19 :: x20 :: x21 :: x22 :: x23 :: x :: r) 24 s K ↔ K (x0 :: x1 :: x2 :: x3 :: x4 :: x5 :: x6 :: x7 :: x8 :: x9 :: x10 :: x11 :: x12 :: x13 :: x14 :: x15 :: x16 :: x17 :: x18 :: x19 :: x20 :: x21 :: x22 :: x23 :: s :: r) := ⟨fun q => q.2, fun q => ⟨by simp only [List.length_cons]; omega, q⟩⟩
theorem hr24 {x0 x1 x2 x3 x4 x5 x6 x7 x8 x9 x10 x11 x12 x13 x14 x15 x16 x17 x18 x19 x20 x21 x22 x23 : Sl} : ownr (x0 :: x1 :: x2 :: x3 :: x4 :: x5 :: x6 :: x7 :: x8 :: x9 :: x10 :: x11 :: x12 :: x13 :: x14 :: x15 :: x16 :: x17 :: x18 :: x19 :: x20 :: x21 :: x22 :: x23 :: .own L :: r) 24 P ↔ P L := Iff.rfl
theorem hv25 {x0 x1 x2 x3 x4 x5 x6 x7 x8 x9 x10 x11 x12 x13 x14 x15 x16 x17 x18 x19 x20 x21 x22 x23 x24 : Sl} : wp (dVar 25) (x0 :: x1 :: x2 :: x3 :: x4 :: x5 :: x6 :: x7 :: x8 :: x9 :: x10 :: x11 :: x12 :: x13 :: x14 :: x15 :: x16 :: x17 :: x18 :: x19 :: x20 :: x21 :: x22 :: x23 :: x24 :: .val d :: r) Q ↔ Q d (x0 :: x1 :: x2 :: x3 :: x4 :: x5 :: x6 :: x7 :: x8 :: x9 :: x10 :: x11 :: x12 :: x13 :: x14 :: x15 :: x16 :: x17 :: x18 :: x19 :: x20 :: x21 :: x22 :: x23 :: x24 :: .val d :: r) := wp_of rfl
theorem ho25 {x0 x1 x2 x3 x4 x5 x6 x7 x8 x9 x10 x11 x12 x13 x14 x15 x16 x17 x18 x19 x20 x21 x22 x23 x24 : Sl} : wp (dVar 25) (x0 :: x1 :: x2 :: x3 :: x4 :: x5 :: x6 :: x7 :: x8 :: x9 :: x10 :: x11 :: x12 :: x13 :: x14 :: x15 :: x16 :: x17 :: x18 :: x19 :: x20 :: x21 :: x22 :: x23 :: x24 :: .own ds :: r) Q ↔ Q (.lst ds) (x0 :: x1 :: x2 :: x3 :: x4 :: x5 :: x6 :: x7 :: x8 :: x9 :: x10 :: x11 :: x12 :: x13 :: x14 :: x15 :: x16 :: x17 :: x18 :: x19 :: x20 :: x21 :: x22 :: x23 :: x24 :: .val (.lst ds) :: r) := wp_of rfl
theorem hs25 {x0 x1 x2 x3 x4 x5 x6 x7 x8 x9 x10 x11 x12 x13 x14 x15 x16 x17 x18 x19 x20 x21 x22 x23 x24 x : Sl} : setw (x0 :: x1 :: x2 :: x3 :: x4 :: x5 :: x6 :: x7 :: x8 :: x9 :: x10 :: x11 :: x12 :: x13 :: x14 :: x15 :: x16 :: x17 :: x18 :: x19 :: x20 :: x21 :: x22 :: x23 :: x24 :: x :: r) 25 s K ↔ K (x0 :: x1 :: x2 :: x3 :: x4 :: x5 :: x6 :: x7 :: x8 :: x9 :: x10 :: x11 :: x12 :: x13 :: x14 :: x15 :: x16 :: x17 :: x18 :: x19 :: x20 :: x21 :: x22 :: x23 :: x24 :: s :: r) := ⟨fun q => q.2, fun q => ⟨by simp only [List.length_cons]; omega, q⟩⟩
theorem hr25 {x0 x1 x2 x3 x4 x5 x6 x7 x8 x9 x10 x11 x12 x13 x14 x15 x16 x17 x18 x19 x20 x21 x22 x23 x24 : Sl} : ownr (x0 :: x1 :: x2 :: x3 :: x4 :: x5 :: x6 :: x7 :: x8 :: x9 :: x10 :: x11 :: x12 :: x13 :: x14 :: x15 :: x16 :: x17 :: x18 :: x19 :: x20 :: x21 :: x22 :: x23 :: x24 :: .own L :: r) 25 P ↔ P L := Iff.rfl
theorem hv26 {x0 x1 x2 x3 x4 x5 x6 x7 x8 x9 x10 x11 x12 x13 x14 x15 x16 x17 x18 x19 x20 x21 x22 x23 x24 x25 : Sl} : wp (dVar 26) (x0 :: x1 :: x2 :: x3 :: x4 :: x5 :: x6 :: x7 :: x8 :: x9 :: x10 :: x11 :: x12 :: x13 :: x14 :: x15 :: x16 :: x17 :: x18 :: x19 :: x20 :: x21 :: x22 :: x23 :: x24 :: x25 :: .val d :: r) Q ↔ Q d (x0 :: x1 :: x2 :: x3 :: x4 :: x5 :: x6 :: x7 :: x8 :: x9 :: x10 :: x11 :: x12 :: x13 :: x14 :: x15 :: x16 :: x17 :: x18 :: x19 :: x20 :: x21 :: x22 :: x23 :: x24 :: x25 :: .val d :: r) := wp_of rfl
theorem ho26 {x0 x1 x2 x3 x4 x5 x6 x7 x8 x9 x10 x11 x12 x13 x14 x15 x16 x17 x18 x19 x20 x21 x22 x23 x24 x25 : Sl} : wp (dVar 26) (x0 :: x1 :: x2 :: x3 :: x4 :: x5 :: x6 :: x7 :: x8 :: x9 :: x10 :: x11 :: x12 :: x13 :: x14 :: x15 :: x16 :: x17 :: x18 :: x19 :: x20 :: x21 :: x22 :: x23 :: x24 :: x25 :: .own ds :: r) Q ↔ Q (.lst ds) (x0 :: x1 :: x2 :: x3 :: x4 :: x5 :: x6 :: x7 :: x8 :: x9 :: x10 :: x11 :: x12 :: x13 :: x14 :: x15 :: x16 :: x17 :: x18 :: x19 :: x20 :: x21 :: x22 :: x23 :: x24 :: x25 :: .val (.lst ds) :: r) := wp_of rfl
theorem hs26 {x0 x1 x2 x3 x4 x5 x6 x7 x8 x9 x10 x11 x12 x13 x14 x15 x16 x17 x18 x19 x20 x21 x22 x23 x24 x25 x : Sl} : setw (x0 :: x1 :: x2 :: x3 :: x4 :: x5 :: x6 :: x7 :: x8 :: x9 :: x10 :: x11 :: x12 :: x13 :: x14 :: x15 :: x16 :: x17 :: x18 :: x19 :: x20 :: x21 :: x22 :: x23 :: x24 :: x25 :: x :: r) 26 s K ↔ K (x0 :: x1 :: x2 :: x3 :: x4 :: x5 :: x6 :: x7 :: x8 :: x9 :: x10 :: x11 :: x12 :: x13 :: x14 :: x15 :: x16 :: x17 :: x18 :: x19 :: x20 :: x21 :: x22 :: x23 :: x24 :: x25 :: s :: r) := ⟨fun q => q.2, fun q => ⟨by simp only [List.length_cons]; omega, q⟩⟩
theorem hr26 {x0 x1 x2 x3 x4 x5 x6 x7 x8 x9 x10 x11 x12 x13 x14 x15 x16 x17 x18 x19 x20 x21 x22 x23 x24 x25 : Sl} : ownr (x0 :: x1 :: x2 :: x3 :: x4 :: x5 :: x6 :: x7 :: x8 :: x9 :: x10 :: x11 :: x12 :: x13 :: x14 :: x15 :: x16 :: x17 :: x18 :: x19 :: x20 :: x21 :: x22 :: x23 :: x24 :: x25 :: .own L :: r) 26 P ↔ P L := Iff.rfl
theorem hv27 {x0 x1 x2 x3 x4 x5 x6 x7 x8 x9 x10 x11 x12 x13 x14 x15 x16 x17 x18 x19 x20 x21 x22 x23 x24 x25 x26 : Sl} : wp (dVar 27) (x0 :: x1 :: x2 :: x3 :: x4 :: x5 :: x6 :: x7 :: x8 :: x9 :: x10 :: x11 :: x12 :: x13 :: x14 :: x15 :: x16 :: x17 :: x18 :: x19 :: x20 :: x21 :: x22 :: x23 :: x24 :: x25 :: x26 :: .val d :: r) Q ↔ Q d (x0 :: x1 :: x2 :: x3 :: x4 :: x5 :: x6 :: x7 :: x8 :: x9 :: x10 :: x11 :: x12 :: x13 :: x14 :: x15 :: x16 :: x17 :: x18 :: x19 :: x20 :: x21 :: x22 :: x23 :: x24 :: x25 :: x26 :: .val d :: r) := wp_of rfl
theorem ho27 {x0 x1 x2 x3 x4 x5 x6 x7 x8 x9 x10 x11 x12 x13 x14 x15 x16 x17 x18 x19 x20 x21 x22 x23 x24 x25 x26 : Sl} : wp (dVar 27) (x0 :: x1 :: x2 :: x3 :: x4 :: x5 :: x6 :: x7 :: x8 :: x9 :: x10 :: x11 :: x12 :: x13 :: x14 :: x15 :: x16 :: x17 :: x18 :: x19 :: x20 :: x21 :: x22 :: x23 :: x24 :: x25 :: x26 :: .own ds :: r) Q ↔ Q (.lst ds) (x0 :: x1 :: x2 :: x3 :: x4 :: x5 :: x6 :: x7 :: x8 :: x9 :: x10 :: x11 :: x12 :: x13 :: x14 :: x15 :: x16 :: x17 :: x18 :: x19 :: x20 :: x21 :: x22 :: x23 :: x24 :: x25 :: x26 :: .val (.lst ds) :: r) := wp_of rfl
theorem hs27 {x0 x1 x2 x3 x4 x5 x6 x7 x8 x9 x10 x11 x12 x13 x14 x15 x16 x17 x18 x19 x20 x21 x22 x23 x24 x25 x26 x : Sl} : setw (x0 :: x1 :: x2 :: x3 :: x4 :: x5 :: x6 :: x7 :: x8 :: x9 :: x10 :: x11 :: x12 :: x13 :: x14 :: x15 :: x16 :: x17 :: x18 :: x19 :: x20 :: x21 :: x22 :: x23 :: x24 :: x25 :: x26 :: x :: r) 27 s K ↔ K (x0 :: x1 :: x2 :: x3 :: x4 :: x5 :: x6 :: x7 :: x8 :: x9 :: x10 :: x11 :: x12 :: x13 :: x14 :: x15 :: x16 :: x17 :: x18 :: x19 :: x20 :: x21 :: x22 :: x23 :: x24 :: x25 :: x26 :: s :: r) := ⟨fun q => q.2, fun q => ⟨by simp only [List.length_cons]; omega, q⟩⟩
theorem hr27 {x0 x1 x2 x3 x4 x5 x6 x7 x8 x9 x10 x11 x12 x13 x14 x15 x16 x17 x18 x19 x20 x21 x22 x23 x24 x25 x26 : Sl} : ownr (x0 :: x1 :: x2 :: x3 :: x4 :: x5 :: x6 :: x7 :: x8 :: x9 :: x10 :: x11 :: x12 :: x13 :: x14 :: x15 :: x16 :: x17 :: x18 :: x19 :: x20 :: x21 :: x22 :: x23 :: x24 :: x25 :: x26 :: .own L :: r) 27 P ↔ P L := Iff.rfl
variable {fj : M (List It)} {QI : List It → En → Prop} {fn : M (List D)}
theorem hp_iNil : wp iNil ρ QI ↔ QI [] ρ := wp_ret
theorem hp_iD : wp (iD fa fj) ρ QI ↔ wp fa ρ fun x r => wp fj r fun xs r2 => QI (.d x :: xs) r2 := by
  unfold iD; simp only [wp_bind, wp_ret]
theorem hp_iN : wp (iN fn fj) ρ QI ↔ wp fn ρ fun x r => wp fj r fun xs r2 => QI (.n x :: xs) r2 := by
  unfold iN; simp only [wp_bind, wp_ret]
def i2w (ds : List It) (P : It → It → Prop) : Prop := match ds with
  | [x, y] => P x y
  | _ => False
def i3w (ds : List It) (P : It → It → It → Prop) : Prop := match ds with
  | [x, y, z] => P x y z
  | _ => False
theorem i2w_mk {x y : It} {P : It → It → Prop} : i2w [x, y] P ↔ P x y := Iff.rfl
theorem i3w_mk {x y z : It} {P : It → It → It → Prop} : i3w [x, y, z] P ↔ P x y z := Iff.rfl
theorem setw_put {ρ : En} {QU : Unit → En → Prop} {i : Nat} {s : Sl} : wp (put i s) ρ QU ↔ setw ρ i s fun r => QU () r := wp_put
theorem hp_j2 : wp (mJ2 i j fj) ρ QF ↔ wp fj ρ fun ds r => i2w ds fun x y => setw r i x.sl fun r2 => setw r2 j y.sl fun r3 => QF .nx r3 := by
  unfold mJ2
  simp only [wp_bind]
  constructor
  · intro h
    refine wp_mono h fun ds r q => ?_
    split at q
    · simp only [wp_bind, setw_put, wp_ret] at q; exact q
    · exact (wp_no.mp q).elim
  · intro h
    refine wp_mono h fun ds r q => ?_
    unfold i2w at q
    split at q
    · simp only [wp_bind, setw_put, wp_ret]; exact q
    · exact q.elim
theorem hp_j3 : wp (mJ3 i j l fj) ρ QF ↔ wp fj ρ fun ds r => i3w ds fun x y z => setw r i x.sl fun r2 => setw r2 j y.sl fun r3 => setw r3 l z.sl fun r4 => QF .nx r4 := by
  unfold mJ3
  simp only [wp_bind]
  constructor
  · intro h
    refine wp_mono h fun ds r q => ?_
    split at q
    · simp only [wp_bind, setw_put, wp_ret] at q; exact q
    · exact (wp_no.mp q).elim
  · intro h
    refine wp_mono h fun ds r q => ?_
    unfold i3w at q
    split at q
    · simp only [wp_bind, setw_put, wp_ret]; exact q
    · exact q.elim
theorem setw_d {x : D} : setw r i (It.sl (.d x)) K ↔ setw r i (.val x) K := Iff.rfl
theorem setw_n {x : List D} : setw r i (It.sl (.n x)) K ↔ setw r i (.own x) K := Iff.rfl
theorem hp_listN : wp (mListN fa) ρ QL ↔ wp fa ρ fun d r => ow d.items? fun ds => QL ds r := by
  unfold mListN; simp only [wp_bind, wp_lift]
theorem ow_bits {a : Int} {P : D → Prop} : ow (dBits (.int a)) P ↔ P (.int (Builtin.Int.intBits a : Nat)) := ow_some
theorem ow_repT {xs : List D} {k : Int} {P : D → Prop} : ow (dMul (.tup xs) (.int k)) P ↔ (0 < xs.length ∧ xs.length ≤ 300 ∧ 2 ≤ k ∧ k ≤ 300) ∧ P (.tup (List.replicate k.toNat xs).flatten) := by
  unfold dMul; rw [ow_ite, ow_some]
theorem ow_pow' {a b : Int} {P : D → Prop} (h0 : 0 ≤ b) (h1 : b ≤ 100000) (h2 : -1000000000000 < a) (h3 : a < 1000000000000) : ow (dPow (.int a) (.int b)) P ↔ P (.int (a ^ b.toNat)) := by
  rw [ow_pow]
  exact ⟨fun q => q.2, fun q => ⟨⟨h0, h1, by omega⟩, q⟩⟩
theorem ow_zip_tup {xs ys : List D} {P : List D → Prop} : ow (zip2 [.tup xs, .tup ys]) P ↔ P (pairs xs ys) := ow_some
theorem ow_zip_lst {xs ys : List D} {P : List D → Prop} : ow (zip2 [.lst xs, .lst ys]) P ↔ P (pairs xs ys) := ow_some
theorem pairs_cons {x y : D} {xs ys : List D} : pairs (x :: xs) (y :: ys) = .tup [x, y] :: pairs xs ys := rfl
theorem pairs_nil {ys : List D} : pairs [] ys = [] := rfl
theorem ow_repT5 {x : D} {P : D → Prop} : ow (dMul (.tup [x]) (.int 5)) P ↔ P (.tup [x, x, x, x, x]) := by
  rw [ow_repT]; exact ⟨fun q => q.2, fun q => ⟨⟨Nat.zero_lt_one, by show 1 ≤ 300; decide, by decide, by decide⟩, q⟩⟩
end
end PV
namespace PV
open PySem PySem.Spec PyProof.Rows L2
variable [Tb]
/-! ### a slot that is owned, or a datum by now -/
def mEi {α : Type} (j : Nat) (f g : M α) : M α := fun ρ => if isOwn ρ j = true then f ρ else g ρ
theorem PE.or {X : Cx} {e : Expr} {t t' : TE} (h : PE X e t) (h' : PE X e t') : PE X e (fun σ H Q => t σ H Q ∨ t' σ H Q) := ⟨fun pins s σ H Q I w => w.elim (h.run pins s σ H Q I) (h'.run pins s σ H Q I)⟩
def eiw (s : Option Sl) (p q : Prop) : Prop := match s with
  | some (.own _) => p
  | _ => q
theorem hp_ei {α : Type} {j : Nat} {f g : M α} {ρ : En} {Q : α → En → Prop} : wp (mEi j f g) ρ Q ↔ eiw ρ[j]? (wp f ρ Q) (wp g ρ Q) := by
  have e : wp (mEi j f g) ρ Q ↔ if isOwn ρ j = true then wp f ρ Q else wp g ρ Q := by
    by_cases h : isOwn ρ j = true
    · rw [if_pos h]; dsimp only [wp, mEi]; rw [if_pos h]
    · rw [if_neg h]; dsimp only [wp, mEi]; rw [if_neg h]
  rw [e]
  by_cases h : isOwn ρ j = true
  · rw [if_pos h]
    obtain ⟨ds, e⟩ := isOwn_ok h
    rw [e]; exact Iff.rfl
  · rw [if_neg h]
    unfold eiw
    split
    · rename_i ds e
      exact absurd (by unfold isOwn; rw [e]) h
    · exact Iff.rfl
theorem eiw_own {L : List D} {p q : Prop} : eiw (some (.own L)) p q ↔ p := Iff.rfl
theorem eiw_val {d : D} {p q : Prop} : eiw (some (.val d)) p q ↔ q := Iff.rfl
end PV
/-! an empty dict; four names set at once, some to new lists; a list compared with an empty one -/
namespace PV
open PySem PySem.Spec PyProof.Rows L2
variable [Tb]
section
variable {X : Cx}
def rEqL (K : PySem.W.Frag) (r : Bool) : R2 := fun x y H Q => ∃ a b xs ys, x = .ref a ∧ y = .ref b ∧ SqL K H a xs ∧ SqL K H b ys ∧ xs.length ≠ ys.length ∧ Q (.bl r) H
theorem op_neL (hu : X.A.units + 64 < cLine) : OpR X (compareOp .NotEq) (rEqL X.K true) := by
  intro pins s σ H x y v u Q I rx ry h
  obtain ⟨a, b, xs, ys, rfl, rfl, ha, hb, hl, q⟩ := h
  cases (show v = Value.ref a from rx)
  cases (show u = Value.ref b from ry)
  obtain ⟨us, r1, p1, _⟩ := I.list ha
  obtain ⟨ws, r2, p2, _⟩ := I.list hb
  have hsz : (us.toArray.size != ws.toArray.size) = true := by
    rw [List.size_toArray, List.size_toArray, ← r1.length, ← r2.length]
    simp [hl]
  exact SeqAt.RcNeAt.lists_lengths p1.isList p2.isList hsz (by omega) _ _ _ _ ⟨.bl true, H, I, rfl, q⟩
def rNeX (K : PySem.W.Frag) : R2 := fun x y H Q => rNeA K x y H Q ∨ rEqL K true x y H Q
theorem op_neX (hu : X.A.units + 64 < cLine) : OpR X (compareOp .NotEq) (rNeX X.K) := (op_neA hu).or (op_neL hu)
def dNeL (x y : D) : Option D := match x, y with
  | .lst (_ :: _), .lst [] => some (.bl true)
  | x, y => dNe x y
theorem neL_d : OpD X (rNeX X.K) dNeL := by
  intro m H x y dx dy dz hx hy e hm Q q
  unfold dNeL at e
  split at e
  · cases e
    cases hx with
    | lst h1 h2 => cases hy with
      | lst h3 h4 => exact .inr ⟨_, _, _, _, rfl, rfl, h1.sq, h3.sq, by rw [h2.length, h4.length]; simp, q _ H grown_refl (.bl _)⟩
  · exact .inl (ne_d m H x y _ _ dz hx hy e hm Q q)
end
end PV
/-! own errors without __init__: raised, caught -/
namespace PV
open PySem PySem.Spec PyProof.Rows L2
variable [Tb]
section
variable {X : Cx} {W : WX} {fx : List Nat} {k i : Nat} {x y n : Str} {C : Addr} {p p2 np pos pos' : Pos} {e : Expr} {body suite : List Stmt} {b₀ : Stmt} {f h : M Fl} {fe : M D}
/-- a class of errors, without own __init__ -/
structure ErrC (K : PySem.W.Frag) (C : Addr) : Prop where
  q : PySem.W.excIn K C He.veBase "ValueError.__new__" = true
  k : PySem.W.keepIn K (.ref C) = true
  s : PySem.W.subIn K (.ref C) (.type "BaseException") = some true
  t : PySem.W.typeIn K (.ref C) = some (.type "type")
theorem errC_of {K : PySem.W.Frag} {x : Str} (c : (He.Fa.exc x).ok K = true) : ErrC K (He.fAd K (x, none)) := by
  obtain ⟨h1, h2, h3, h4⟩ := He.exc_ok c
  exact ⟨h1, h2, h3, h4⟩
/-- C() -/
theorem pmk_own0 (E : ErrC X.K C) (gC : X.mg x = some (.ref C)) (hg : Gl X x) (hdb : (x == ("__debug__" : Str)) = false := by decide) :
    PMk X (.Call (.Name x p) [] [] pos) (fun _ H Q => Q (.ref C) none H) := by
  intro pins s σ H Q I h
  refine wpAny_Call_Name_kw (ld_glob I hg gC ?_ hdb)
  refine PySem.W.callWith_K0 I.kIn E.k ?_
  show wpAny _ _ (call (.ref C) []) _ _ _
  obtain ⟨bm, N, nm, qn, bs, hdct, sn, sub, ab, col, dd, k0, k1, k2, k3, k5, mN, hC, hN, hni, T⟩ := exc_obj I.kIn E.q
  refine wpAny_call_exc_subT PySem.F.excBase_ValueError T hC hN hni (fun h' e hm => ?_) (by show 0 ≤ sizeLine; omega)
  exact mk_of I hm (raises_own E.s E.t) h (I.hok.gone hm.new)
theorem EndOk.same {c : Ct} {m₀ : Addr → Prop} {σ : L2.St} {ρ ρ' : En} {H : Hp} {E E' : Ends} {d : D} (h : EndOk c m₀ σ ρ H E ρ' (.rt d)) (e : E.rt = E'.rt) : EndOk c m₀ σ ρ H E' ρ' (.rt d) := by
  unfold EndOk at h ⊢
  rw [← e]; exact h
theorem excC_of {K : PySem.W.Frag} {D : Addr} (h : excB K D = true) : ExcC K D := by
  unfold excB at h
  obtain ⟨h1, h⟩ := He.ba h
  obtain ⟨h2, h⟩ := He.ba h
  obtain ⟨h3, h⟩ := He.ba h
  obtain ⟨h4, h⟩ := He.ba h
  obtain ⟨h5, h⟩ := He.ba h
  obtain ⟨h6, h⟩ := He.ba h
  obtain ⟨h7, h8⟩ := He.ba h
  exact ⟨of_decide_eq_true h1, of_decide_eq_true h2, of_decide_eq_true h3, h4, of_decide_eq_true h5, of_decide_eq_true h6, of_decide_eq_true h7, of_decide_eq_true h8⟩
end
end PV
/-! defs that call themselves; slices backwards; text of numbers; xs[i] += e -/
namespace PV
open PySem PySem.Spec PyProof.Rows L2
variable [Tb]
/-! ### a def that calls itself: the mirror by depth; at depth 0 nothing is told -/
/-! ### x[::-1] -/
section
variable {X : Cx} {W : WX} {fx : List Nat}
/-! ### str of a number -/
/-! ### a dict of one text and a number -/
theorem e_dict1 {x : Str} {i : Int} {k1 k2 : Nat} {q1 q2 pos : Pos} : EV X W fx (.Dict [some (.Constant (.str x) k1 q1)] [.Constant (.int i) k2 q2] pos) (M.ret (.dic [.inr x] [.int i])) := by
  refine PE.imp (pe_disp (pps_cons pe_str pe_int pps_nil) rfl rfl (by simp) (by simp)) fun σ H Q ⟨m₀, ρ, rr, w⟩ => fun p hp => ?_
  refine ⟨upd_same, [(.inr x, .int i)], rfl, by simp, ?_⟩
  have e : upd (upd H p (.dK [])) p (.dK (mergeK [] [(.inr x, V.int i)])) = upd H p (.dK [(.inr x, V.int i)]) := by
    rw [upd_upd] <;> rfl
  rw [e]
  exact w (.ref p) _ (rr.add hp).drop (.dic (kvs := [(.inr x, .int i)]) (rr.new_out hp) upd_same (.cons (.int i) .nil)) (.grown (keep_new hp))
/-! ### xs[i] += a number, xs owned -/
/-! ### a tuple compared with an empty one -/
/-! ### a slice of an owned list -/
end
end PV
/-! enumerate(tuple) -/
namespace PV
open PySem PySem.Spec PyProof.Rows L2
variable [Tb]
/-! ### zip of a tuple and a list, of a list and a tuple -/
def ItB (f : Bool) (h : Heap) (it a : Addr) (i : Nat) : Prop := if f = true then h.IsTupleIter it a i else h.IsListIter it a i
theorem ItB.at {f : Bool} {h h' : Heap} {it a : Addr} {i : Nat} (st : ItB f h it a i) (k : ∀ o, h.get? it = some o → h'.get? it = some o) : ItB f h' it a i := by
  cases f with
  | true => exact Heap.IsTupleIter.at (show h.IsTupleIter it a i from st) fun o q => k o q
  | false => exact Heap.IsListIter.at (show h.IsListIter it a i from st) fun o q => k o q
theorem ItB.obj {f : Bool} {h : Heap} {it a : Addr} {i : Nat} (st : ItB f h it a i) : ∃ o vs, h.get? it = some o ∧ o.data = .fields vs := by
  cases f with
  | true => obtain ⟨o, e, _, d⟩ := (show h.IsTupleIter it a i from st); exact ⟨o, _, e, d⟩
  | false => obtain ⟨o, e, _, d⟩ := (show h.IsListIter it a i from st); exact ⟨o, _, e, d⟩
end PV
namespace PB
open PV PySem PySem.Spec PyProof.Rows L2
structure Bx {β : Type} (Q : β) : Type where
  mk ::
def wp  {α : Type} (x : M α) (ρ : En) (Q : α → En → Prop) (_b0 : Bx Q := ⟨⟩) : Prop := PV.wp x ρ Q
def ow  {α : Type} (o : Option α) (Q : α → Prop) (_b0 : Bx Q := ⟨⟩) : Prop := PV.ow o Q
section
variable {α β : Type} {ρ ρ' : En} {Q Q' : α → En → Prop} {x : M α}
theorem wp_mono (h : wp x ρ Q) (i : ∀ a r, Q a r → Q' a r) : wp x ρ Q' := PV.wp_mono h i
theorem ow_some {a : α} {P : α → Prop} : ow (some a) P ↔ P a := PV.ow_some
theorem ow_of {o : Option α} {a : α} {P : α → Prop} (h : o = some a) : ow o P ↔ P a := PV.ow_of h
theorem wp_ret {a : α} : wp (M.ret a) ρ Q ↔ Q a ρ := PV.wp_ret
theorem wp_bind {x : M β} {f : β → M α} : wp (M.bind x f) ρ Q ↔ wp x ρ fun a r => wp (f a) r Q := PV.wp_bind
theorem wp_lift {o : Option α} : wp (lift o) ρ Q ↔ ow o fun a => Q a ρ := PV.wp_lift
end
def slw  (s : Option Sl) (ρ : En) (i : Nat) (Q : D → En → Prop) (_b0 : Bx Q := ⟨⟩) : Prop := PV.slw s ρ i Q
section
variable {ρ ρ1 : En} {Q : D → En → Prop} {QU : Unit → En → Prop} {QF : Fl → En → Prop} {QB : Bool → En → Prop} {QL : List D → En → Prop} {QO : Option Int → En → Prop} {i j l n : Nat} {fa fb fc f : M D} {fl : M (List D)} {t : M Bool} {fi : M (List D)}
theorem wp_var : wp (dVar i) ρ Q ↔ slw ρ[i]? ρ i Q := PV.wp_var
theorem slw_val {d : D} : slw (some (.val d)) ρ i Q ↔ Q d ρ := PV.slw_val
theorem slw_own {ds : List D} : slw (some (.own ds)) ρ i Q ↔ Q (.lst ds) (ρ.set i (.val (.lst ds))) := PV.slw_own
theorem wp_put {s : Sl} : wp (put i s) ρ QU ↔ i < ρ.length ∧ QU () (ρ.set i s) := PV.wp_put
theorem wp_op {g : D → D → Option D} : wp (mOp g fa fb) ρ Q ↔ wp fa ρ fun x r => wp fb r fun y r2 => ow (g x y) fun z => Q z r2 := PV.wp_op
theorem wp_un {g : D → Option D} : wp (mUn g fa) ρ Q ↔ wp fa ρ fun x r => ow (g x) fun z => Q z r := PV.wp_un
theorem wp_cb {g : List D → Option D} : wp (mCB g fl) ρ Q ↔ wp fl ρ fun x r => ow (g x) fun z => Q z r := PV.wp_cb
theorem wp_test : wp (mTest fa) ρ QB ↔ wp fa ρ fun x r => ow (asB x) fun z => QB z r := PV.wp_test
theorem ow_asB {b : Bool} {P : Bool → Prop} : ow (asB (.bl b)) P ↔ P b := PV.ow_asB
theorem wp_if : wp (mIf t fa fb) ρ Q ↔ wp t ρ fun c r => if c = true then wp fa r Q else wp fb r Q := PV.wp_if
theorem wp_and : wp (mAnd fa fb) ρ Q ↔ wp fa ρ fun x r => ow (asB x) fun c => if c = true then wp fb r Q else Q (.bl false) r := PV.wp_and
theorem wp_or : wp (mOr fa fb) ρ Q ↔ wp fa ρ fun x r => ow (asB x) fun c => if c = true then Q (.bl true) r else wp fb r Q := PV.wp_or
theorem wp_not : wp (mNot fa) ρ Q ↔ wp fa ρ fun x r => ow (asB x) fun c => Q (.bl (!c)) r := PV.wp_not
variable {ta tb : M Bool}
theorem wp_andT : wp (mAndT ta tb) ρ QB ↔ wp ta ρ fun c r => if c = true then wp tb r QB else QB false r := PV.wp_andT
theorem wp_orT : wp (mOrT ta tb) ρ QB ↔ wp ta ρ fun c r => if c = true then QB true r else wp tb r QB := PV.wp_orT
theorem wp_notT : wp (mNotT ta) ρ QB ↔ wp ta ρ fun c r => QB (!c) r := PV.wp_notT
theorem wp_chain {g g' : D → D → Option D} : wp (mChain g g' fa fb fc) ρ Q ↔ wp fa ρ fun x r => wp fb r fun y r2 => ow (g x y) fun z => ow (asB z) fun k => if k = true then wp fc r2 fun w r3 => ow (g' y w) fun v => Q v r3 else Q (.bl false) r2 := PV.wp_chain
theorem wp_nil : wp dNil ρ QL ↔ QL [] ρ := PV.wp_nil
theorem wp_cons : wp (dCons fa fl) ρ QL ↔ wp fa ρ fun x r => wp fl r fun xs r2 => QL (x :: xs) r2 := PV.wp_cons
theorem wp_tup : wp (mTup fl) ρ Q ↔ wp fl ρ fun xs r => Q (.tup xs) r := PV.wp_tup
theorem wp_lst : wp (mLst fl) ρ Q ↔ wp fl ρ fun xs r => Q (.lst xs) r := PV.wp_lst
theorem wp_oNone : wp oNone ρ QO ↔ QO none ρ := PV.wp_oNone
theorem wp_oSome : wp (oSome fa) ρ QO ↔ wp fa ρ fun d r => ∃ k, d = .int k ∧ QO (some k) r := PV.wp_oSome
theorem wp_sl {lo hi : M (Option Int)} : wp (mSl fa lo hi) ρ Q ↔ wp fa ρ fun d r => wp lo r fun a r2 => wp hi r2 fun b r3 => ow (dSl a b d) fun z => Q z r3 := PV.wp_sl
def flw  (fl : Fl) (ρ : En) (K : En → Prop) (Q : Fl → En → Prop) (_b0 : Bx K := ⟨⟩) (_b1 : Bx Q := ⟨⟩) : Prop := PV.flw fl ρ K Q
variable {F G : M Fl}
theorem wp_seq : wp (mSeq F G) ρ QF ↔ wp F ρ fun fl r => flw fl r (fun r2 => wp G r2 QF) QF := PV.wp_seq
theorem flw_nx {K : En → Prop} : flw .nx ρ K QF ↔ K ρ := PV.flw_nx
theorem flw_bk {K : En → Prop} : flw .bk ρ K QF ↔ QF .bk ρ := PV.flw_bk
theorem flw_ct {K : En → Prop} : flw .ct ρ K QF ↔ QF .ct ρ := PV.flw_ct
theorem flw_rt {K : En → Prop} {d : D} : flw (.rt d) ρ K QF ↔ QF (.rt d) ρ := PV.flw_rt
theorem flw_ro {K : En → Prop} {d : List D} : flw (.ro d) ρ K QF ↔ QF (.ro d) ρ := PV.flw_ro
theorem wp_rett : wp (mRet fa) ρ QF ↔ wp fa ρ fun d r => QF (.rt d) r := PV.wp_rett
theorem wp_retO : wp (mRetO fl) ρ QF ↔ wp fl ρ fun d r => QF (.ro d) r := PV.wp_retO
theorem wp_expr : wp (mExpr fa) ρ QF ↔ wp fa ρ fun d r => QF .nx r := PV.wp_expr
theorem wp_ifS : wp (mIfS t F G) ρ QF ↔ wp t ρ fun c r => if c = true then wp F r QF else wp G r QF := PV.wp_ifS
theorem wp_asg {g : D → M Unit} : wp (mAsg fa g) ρ QF ↔ wp fa ρ fun d r => wp (g d) r fun _ r2 => QF .nx r2 := PV.wp_asg
def l2w  (ds : List D) (P : D → D → Prop) (_b0 : Bx P := ⟨⟩) : Prop := PV.l2w ds P
def l3w  (ds : List D) (P : D → D → D → Prop) (_b0 : Bx P := ⟨⟩) : Prop := PV.l3w ds P
theorem l2w_mk {x y : D} {P : D → D → Prop} : l2w [x, y] P ↔ P x y := PV.l2w_mk
theorem l3w_mk {x y z : D} {P : D → D → D → Prop} : l3w [x, y, z] P ↔ P x y z := PV.l3w_mk
theorem wp_gsNil : wp (gsNil []) ρ QU ↔ QU () ρ := PV.wp_gsNil
theorem wp_gsCons {g : D → M Unit} {h : List D → M Unit} {d : D} {ds : List D} : wp (gsCons g h (d :: ds)) ρ QU ↔ wp (g d) ρ fun _ r => wp (h ds) r QU := PV.wp_gsCons
theorem wp_gT {h : List D → M Unit} {ds : List D} : wp (gT h (.tup ds)) ρ QU ↔ wp (h ds) ρ QU := PV.wp_gT
theorem wp_gTl {h : List D → M Unit} {ds : List D} : wp (gT h (.lst ds)) ρ QU ↔ wp (h ds) ρ QU := PV.wp_gTl
def ownw  (s : Option Sl) (P : List D → Prop) (_b0 : Bx P := ⟨⟩) : Prop := PV.ownw s P
theorem ownw_mk {ds : List D} {P : List D → Prop} : ownw (some (.own ds)) P ↔ P ds := PV.ownw_mk
theorem wp_iter : wp (mIter fa) ρ QL ↔ wp fa ρ fun d r => ow d.items? fun ds => QL ds r := PV.wp_iter
theorem wp_iter' {g : List D → Option (List D)} : wp (mIter' g fl) ρ QL ↔ wp fl ρ fun d r => ow (g d) fun ds => QL ds r := PV.wp_iter'
theorem wp_for {g : D → M Unit} : wp (mFor fi g F) ρ QF ↔ wp fi ρ fun ds r => wp (loopL g F ds) r QF := PV.wp_for
def turnw  (fl : Fl) (ρ : En) (K : En → Prop) (Q : Fl → En → Prop) (_b0 : Bx K := ⟨⟩) (_b1 : Bx Q := ⟨⟩) : Prop := PV.turnw fl ρ K Q
theorem turnw_nx {K : En → Prop} : turnw .nx ρ K QF ↔ K ρ := PV.turnw_nx
theorem turnw_ct {K : En → Prop} : turnw .ct ρ K QF ↔ K ρ := PV.turnw_ct
theorem turnw_bk {K : En → Prop} : turnw .bk ρ K QF ↔ QF .nx ρ := PV.turnw_bk
theorem turnw_rt {K : En → Prop} {d : D} : turnw (.rt d) ρ K QF ↔ QF (.rt d) ρ := PV.turnw_rt
theorem turnw_ro {K : En → Prop} {d : List D} : turnw (.ro d) ρ K QF ↔ QF (.ro d) ρ := PV.turnw_ro
theorem wp_loop {g : D → M Unit} (I : List D → En → Prop) : ∀ {ds : List D} {ρ : En}, I ds ρ → (∀ d ds r, I (d :: ds) r → wp (g d) r fun _ r1 => wp F r1 fun fl r2 => turnw fl r2 (fun r3 => I ds r3) QF) → (∀ r, I [] r → QF .nx r) → wp (loopL g F ds) ρ QF := PV.wp_loop I
variable {vs : List Nat} {g : D → M Unit}
theorem wp_lc : wp (mLc n vs fi g t f) ρ QL ↔ wp fi ρ fun ds r => r.length = n ∧ ds.length ≤ 100000 ∧ wp (lcL n vs g t f ds) r fun ys r2 => r2.length = n ∧ (vs.all fun i => !isOwn r2 i) = true ∧ QL ys (wipeE r2 vs) := PV.wp_lc
theorem wp_lc0 : wp (lcL n vs g t f []) ρ QL ↔ QL [] ρ := PV.wp_lc0
theorem wp_lc1 {d : D} {ds : List D} : wp (lcL n vs g t f (d :: ds)) ρ QL ↔ ρ.length = n ∧ (vs.all fun i => !isOwn ρ i) = true ∧ wp (g d) (wipeE ρ vs) fun _ r => r.length = n ∧ wp t r fun b r1 =>
    if b = true then wp f r1 fun y r2 => wp (lcL n vs g t f ds) r2 fun zs r3 => QL (y :: zs) r3 else wp (lcL n vs g t f ds) r1 fun zs r3 => QL zs r3 := PV.wp_lc1
theorem wp_lcs (I : En → Prop) (P : D → List D → Prop) : ∀ {ds : List D} {ρ : En}, I ρ → (∀ d, d ∈ ds → ∀ r, I r → r.length = n ∧ (vs.all fun i => !isOwn r i) = true ∧ wp (g d) (wipeE r vs) fun _ r1 => r1.length = n ∧ wp t r1 fun b r2 =>
    if b = true then wp f r2 fun y r3 => I r3 ∧ P d [y] else I r2 ∧ P d []) → wp (lcL n vs g t f ds) ρ fun ys r => I r ∧ ∃ yss, ys = List.flatten yss ∧ All2 P ds yss := PV.wp_lcs I P
theorem wp_callV {α : Type} {H : M α} {ds : List D} {Q : α → En → Prop} : wp (callV n H ds) ρ Q ↔ ds.length = n ∧ wp H (ds.map .val) fun d _ => Q d ρ := PV.wp_callV
theorem wp_callK {H : M D} {ds es : List D} {a b : Nat} {ix : List Nat} : wp (callK n a b ix H ds es) ρ Q ↔ wp (callV n H (kwOf a b ix ds es)) ρ Q := PV.wp_callK
def retw  (fl : Fl) (P : D → Prop) (_b0 : Bx P := ⟨⟩) : Prop := PV.retw fl P
def retOw  (fl : Fl) (P : List D → Prop) (_b0 : Bx P := ⟨⟩) : Prop := PV.retOw fl P
theorem retw_rt {d : D} {P : D → Prop} : retw (.rt d) P ↔ P d := PV.retw_rt
theorem retw_nx {P : D → Prop} : retw .nx P ↔ P .non := PV.retw_nx
theorem retOw_ro {d : List D} {P : List D → Prop} : retOw (.ro d) P ↔ P d := PV.retOw_ro
end
section
variable {P : D → Prop} {a b : Int} {x y z : D} {xs ys : List D} {p q : Bool} {s u : Str}
theorem ow_add : ow (dAdd (.int a) (.int b)) P ↔ P (.int (a + b)) := PV.ow_add
theorem ow_sub : ow (dSub (.int a) (.int b)) P ↔ P (.int (a - b)) := PV.ow_sub
theorem ow_neg : ow (dNeg (.int a)) P ↔ P (.int (-a)) := PV.ow_neg
theorem ow_ite {α : Type} {c : Prop} [Decidable c] {o : Option α} {P : α → Prop} : ow (if c then o else none) P ↔ c ∧ ow o P := PV.ow_ite
theorem ow_mul : ow (dMul (.int a) (.int b)) P ↔ mulOk a b = true ∧ P (.int (a * b)) := PV.ow_mul
theorem ow_div : ow (dDiv (.int a) (.int b)) P ↔ divOk b = true ∧ P (.int (a.fdiv b)) := PV.ow_div
theorem ow_mod : ow (dMod (.int a) (.int b)) P ↔ b ≠ 0 ∧ P (.int (a.fmod b)) := PV.ow_mod
theorem ow_lt : ow (dLt (.int a) (.int b)) P ↔ P (.bl (decide (a < b))) := PV.ow_lt
theorem ow_le : ow (dLe (.int a) (.int b)) P ↔ P (.bl (decide (a ≤ b))) := PV.ow_le
theorem ow_gt : ow (dGt (.int a) (.int b)) P ↔ P (.bl (decide (b < a))) := PV.ow_gt
theorem ow_ge : ow (dGe (.int a) (.int b)) P ↔ P (.bl (decide (b ≤ a))) := PV.ow_ge
theorem ow_isNon : ow (dIs x .non) P ↔ P (.bl (isNon x)) := PV.ow_isNon
theorem ow_isNotNon : ow (dIsNot x .non) P ↔ P (.bl (!isNon x)) := PV.ow_isNotNon
theorem ow_isBl : ow (dIs (.bl p) (.bl q)) P ↔ P (.bl (decide (p = q))) := PV.ow_isBl
theorem ow_isNotBl : ow (dIsNot (.bl p) (.bl q)) P ↔ P (.bl (!decide (p = q))) := PV.ow_isNotBl
theorem ow_items_tup {P : List D → Prop} : ow (D.items? (.tup xs)) P ↔ P xs := PV.ow_items_tup
theorem ow_items_lst {P : List D → Prop} : ow (D.items? (.lst xs)) P ↔ P xs := PV.ow_items_lst
theorem ow_len_tup : ow (dLen [.tup xs]) P ↔ P (.int xs.length) := PV.ow_len_tup
theorem ow_len_lst : ow (dLen [.lst xs]) P ↔ P (.int xs.length) := PV.ow_len_lst
theorem ow_len_fz {ns : List Int} : ow (dLen [.fz ns]) P ↔ P (.int ns.length) := PV.ow_len_fz
theorem ow_abs : ow (dAbs [.int a]) P ↔ P (.int (a.natAbs : Int)) := PV.ow_abs
theorem ow_min : ow (dMin [.int a, .int b]) P ↔ P (.int (min a b)) := PV.ow_min
theorem ow_max : ow (dMax [.int a, .int b]) P ↔ P (.int (max a b)) := PV.ow_max
theorem ow_int : ow (dInt [.int a]) P ↔ P (.int a) := PV.ow_int
theorem ow_divmod : ow (dDivmod [.int a, .int b]) P ↔ (0 < b ∧ b.natAbs.log2 < 9000) ∧ P (.tup [.int (a / b), .int (a % b)]) := PV.ow_divmod
theorem ow_gcd : ow (dGcd [.int a, .int b]) P ↔ P (.int (Nat.gcd a.natAbs b.natAbs : Nat)) := PV.ow_gcd
theorem ow_tuple_lst : ow (dTuple [.lst xs]) P ↔ P (.tup xs) := PV.ow_tuple_lst
theorem ow_tuple_tup : ow (dTuple [.tup xs]) P ↔ P (.tup xs) := PV.ow_tuple_tup
theorem ow_list_lst : ow (dList [.lst xs]) P ↔ P (.lst xs) := PV.ow_list_lst
theorem ow_list_tup : ow (dList [.tup xs]) P ↔ P (.lst xs) := PV.ow_list_tup
theorem ow_sum {ns : List Int} : ow (dSum [.lst (ns.map .int)]) P ↔ P (.int ns.sum) := PV.ow_sum
theorem ow_all {ns : List Bool} : ow (dAll [.lst (ns.map .bl)]) P ↔ P (.bl (ns.all id)) := PV.ow_all
theorem ow_all0 : ow (dAll [.lst []]) P ↔ P (.bl true) := PV.ow_all0
theorem ow_all1 : ow (dAll [.lst [.bl p]]) P ↔ P (.bl p) := PV.ow_all1
theorem ow_all2 : ow (dAll [.lst [.bl p, .bl q]]) P ↔ P (.bl (p && q)) := PV.ow_all2
theorem ow_all3 {r : Bool} : ow (dAll [.lst [.bl p, .bl q, .bl r]]) P ↔ P (.bl (p && (q && r))) := PV.ow_all3
theorem ow_all4 {r s : Bool} : ow (dAll [.lst [.bl p, .bl q, .bl r, .bl s]]) P ↔ P (.bl (p && (q && (r && s)))) := PV.ow_all4
theorem ow_all5 {r s u : Bool} : ow (dAll [.lst [.bl p, .bl q, .bl r, .bl s, .bl u]]) P ↔ P (.bl (p && (q && (r && (s && u))))) := PV.ow_all5
theorem ow_any0 : ow (dAny [.lst []]) P ↔ P (.bl false) := PV.ow_any0
theorem ow_any1 : ow (dAny [.lst [.bl p]]) P ↔ P (.bl p) := PV.ow_any1
theorem ow_any2 : ow (dAny [.lst [.bl p, .bl q]]) P ↔ P (.bl (p || q)) := PV.ow_any2
theorem ow_any3 {r : Bool} : ow (dAny [.lst [.bl p, .bl q, .bl r]]) P ↔ P (.bl (p || (q || r))) := PV.ow_any3
theorem ow_eq_str : ow (dEq (.str s) (.str u)) P ↔ P (.bl (decide (s = u))) := PV.ow_eq_str
theorem ow_ne_str : ow (dNe (.str s) (.str u)) P ↔ P (.bl (!decide (s = u))) := PV.ow_ne_str
end
theorem ow_ix_tup0 {x0 : D} {xs : List D} {P : D → Prop} : ow (dIx (.tup (x0 :: xs)) (.int 0)) P ↔ P x0 := PV.ow_ix_tup0
theorem ow_ix_lst0 {x0 : D} {xs : List D} {P : D → Prop} : ow (dIx (.lst (x0 :: xs)) (.int 0)) P ↔ P x0 := PV.ow_ix_lst0
theorem ow_ix_tup1 {x0 x1 : D} {xs : List D} {P : D → Prop} : ow (dIx (.tup (x0 :: x1 :: xs)) (.int 1)) P ↔ P x1 := PV.ow_ix_tup1
theorem ow_ix_lst1 {x0 x1 : D} {xs : List D} {P : D → Prop} : ow (dIx (.lst (x0 :: x1 :: xs)) (.int 1)) P ↔ P x1 := PV.ow_ix_lst1
theorem ow_ix_tup2 {x0 x1 x2 : D} {xs : List D} {P : D → Prop} : ow (dIx (.tup (x0 :: x1 :: x2 :: xs)) (.int 2)) P ↔ P x2 := PV.ow_ix_tup2
theorem ow_ix_lst2 {x0 x1 x2 : D} {xs : List D} {P : D → Prop} : ow (dIx (.lst (x0 :: x1 :: x2 :: xs)) (.int 2)) P ↔ P x2 := PV.ow_ix_lst2
theorem ow_ix_tup3 {x0 x1 x2 x3 : D} {xs : List D} {P : D → Prop} : ow (dIx (.tup (x0 :: x1 :: x2 :: x3 :: xs)) (.int 3)) P ↔ P x3 := PV.ow_ix_tup3
theorem ow_ix_lst3 {x0 x1 x2 x3 : D} {xs : List D} {P : D → Prop} : ow (dIx (.lst (x0 :: x1 :: x2 :: x3 :: xs)) (.int 3)) P ↔ P x3 := PV.ow_ix_lst3
theorem ow_ix_tup4 {x0 x1 x2 x3 x4 : D} {xs : List D} {P : D → Prop} : ow (dIx (.tup (x0 :: x1 :: x2 :: x3 :: x4 :: xs)) (.int 4)) P ↔ P x4 := PV.ow_ix_tup4
theorem ow_ix_lst4 {x0 x1 x2 x3 x4 : D} {xs : List D} {P : D → Prop} : ow (dIx (.lst (x0 :: x1 :: x2 :: x3 :: x4 :: xs)) (.int 4)) P ↔ P x4 := PV.ow_ix_lst4
theorem ow_ix_tup5 {x0 x1 x2 x3 x4 x5 : D} {xs : List D} {P : D → Prop} : ow (dIx (.tup (x0 :: x1 :: x2 :: x3 :: x4 :: x5 :: xs)) (.int 5)) P ↔ P x5 := PV.ow_ix_tup5
theorem ow_ix_lst5 {x0 x1 x2 x3 x4 x5 : D} {xs : List D} {P : D → Prop} : ow (dIx (.lst (x0 :: x1 :: x2 :: x3 :: x4 :: x5 :: xs)) (.int 5)) P ↔ P x5 := PV.ow_ix_lst5
section
variable {P : D → Prop} {xs : List D} {a : Int} {b : Bool} {s : Str}
theorem isi_tt : ow (dIsi "tuple" (.tup xs)) P ↔ P (.bl true) := PV.isi_tt
theorem isi_it : ow (dIsi "int" (.tup xs)) P ↔ P (.bl false) := PV.isi_it
theorem isi_bt : ow (dIsi "bool" (.tup xs)) P ↔ P (.bl false) := PV.isi_bt
theorem isi_ti : ow (dIsi "tuple" (.int a)) P ↔ P (.bl false) := PV.isi_ti
theorem isi_ii : ow (dIsi "int" (.int a)) P ↔ P (.bl true) := PV.isi_ii
theorem isi_bi : ow (dIsi "bool" (.int a)) P ↔ P (.bl false) := PV.isi_bi
theorem isi_tn : ow (dIsi "tuple" .non) P ↔ P (.bl false) := PV.isi_tn
theorem isi_in : ow (dIsi "int" .non) P ↔ P (.bl false) := PV.isi_in
theorem isi_bn : ow (dIsi "bool" .non) P ↔ P (.bl false) := PV.isi_bn
theorem isi_tl : ow (dIsi "tuple" (.lst xs)) P ↔ P (.bl false) := PV.isi_tl
theorem isi_il : ow (dIsi "int" (.lst xs)) P ↔ P (.bl false) := PV.isi_il
theorem isi_bl : ow (dIsi "bool" (.lst xs)) P ↔ P (.bl false) := PV.isi_bl
theorem isi_tb : ow (dIsi "tuple" (.bl b)) P ↔ P (.bl false) := PV.isi_tb
theorem isi_ib : ow (dIsi "int" (.bl b)) P ↔ P (.bl true) := PV.isi_ib
theorem isi_bb : ow (dIsi "bool" (.bl b)) P ↔ P (.bl true) := PV.isi_bb
theorem isi_ts : ow (dIsi "tuple" (.str s)) P ↔ P (.bl false) := PV.isi_ts
theorem isi_is : ow (dIsi "int" (.str s)) P ↔ P (.bl false) := PV.isi_is
theorem isi_bs : ow (dIsi "bool" (.str s)) P ↔ P (.bl false) := PV.isi_bs
end
section
variable {P : D → Prop} {q : Rat}
theorem ow_R0 : ow (dIx (Fr q) (.int 0)) P ↔ P (.int q.num) := PV.ow_R0
theorem ow_R1 : ow (dIx (Fr q) (.int 1)) P ↔ P (.int (q.den : Int)) := PV.ow_R1
theorem ow_len_R : ow (dLen [Fr q]) P ↔ P (.int 2) := PV.ow_len_R
theorem isi_tR : ow (dIsi "tuple" (Fr q)) P ↔ P (.bl true) := PV.isi_tR
theorem isi_iR : ow (dIsi "int" (Fr q)) P ↔ P (.bl false) := PV.isi_iR
theorem isi_bR : ow (dIsi "bool" (Fr q)) P ↔ P (.bl false) := PV.isi_bR
theorem ow_items_R {P : List D → Prop} : ow (D.items? (Fr q)) P ↔ P [.int q.num, .int (q.den : Int)] := PV.ow_items_R
end
theorem ow_setAt0 {x0 d : D} {xs : List D} {P : Unit × List D → Prop} : ow (setAt (.int 0) d (x0 :: xs)) P ↔ P ((), d :: xs) := PV.ow_setAt0
theorem ow_setAt1 {x0 x1 d : D} {xs : List D} {P : Unit × List D → Prop} : ow (setAt (.int 1) d (x0 :: x1 :: xs)) P ↔ P ((), x0 :: d :: xs) := PV.ow_setAt1
theorem ow_setAt2 {x0 x1 x2 d : D} {xs : List D} {P : Unit × List D → Prop} : ow (setAt (.int 2) d (x0 :: x1 :: x2 :: xs)) P ↔ P ((), x0 :: x1 :: d :: xs) := PV.ow_setAt2
theorem ow_setAt3 {x0 x1 x2 x3 d : D} {xs : List D} {P : Unit × List D → Prop} : ow (setAt (.int 3) d (x0 :: x1 :: x2 :: x3 :: xs)) P ↔ P ((), x0 :: x1 :: x2 :: d :: xs) := PV.ow_setAt3
theorem ow_setAt4 {x0 x1 x2 x3 x4 d : D} {xs : List D} {P : Unit × List D → Prop} : ow (setAt (.int 4) d (x0 :: x1 :: x2 :: x3 :: x4 :: xs)) P ↔ P ((), x0 :: x1 :: x2 :: x3 :: d :: xs) := PV.ow_setAt4
theorem ow_setAt5 {x0 x1 x2 x3 x4 x5 d : D} {xs : List D} {P : Unit × List D → Prop} : ow (setAt (.int 5) d (x0 :: x1 :: x2 :: x3 :: x4 :: x5 :: xs)) P ↔ P ((), x0 :: x1 :: x2 :: x3 :: x4 :: d :: xs) := PV.ow_setAt5
theorem seq_cut {F G : M Fl} {ρ : En} {Q : Fl → En → Prop} (I : En → Prop) (h1 : wp F ρ fun fl r => fl = .nx ∧ I r) (h2 : ∀ r, I r → wp G r Q) : wp (mSeq F G) ρ Q := PV.seq_cut I h1 h2
section
variable {n m i : Nat} {fx : List Nat} {F : M Fl} {ds : List D} {ρ : En} {Q : D → En → Prop} {QL : List D → En → Prop}
theorem wp_V : wp (callV n (fnB fx n m (asRet F)) ds) ρ Q ↔ ds.length = n ∧ wp F (ds.map .val ++ List.replicate m .no) fun fl r => retw fl fun d => n ≤ r.length ∧ Q d ρ := PV.wp_V
theorem wp_L : wp (callL n (fnB fx n m (asRetO F)) ds) ρ QL ↔ ds.length = n ∧ wp F (ds.map .val ++ List.replicate m .no) fun fl r => retOw fl fun d => n ≤ r.length ∧ QL d ρ := PV.wp_L
def ohn  (n : Nat) (r : En) (P : List D → Prop) (_b0 : Bx P := ⟨⟩) : Prop := PV.ohn n r P
theorem ohn_mk {L : List D} {r : En} {P : List D → Prop} : ohn n (.own L :: r) P ↔ n ≤ r.length + 1 ∧ P L := PV.ohn_mk
theorem wp_O : wp (callO n (fnB [0] n m (asRet F)) i ds) ρ Q ↔ ownw ρ[i]? fun L => ds.length + 1 = n ∧ wp F (.own L :: (ds.map .val ++ List.replicate m .no)) fun fl r => retw fl fun d => ohn n r fun L' => Q d (ρ.set i (.own L')) := PV.wp_O
theorem wp_N {L : List D} : wp (callN 1 (fnB [0] 1 m (asRet F)) L) ρ Q ↔ wp F (.own L :: List.replicate m .no) fun fl r => retw fl fun d => ohn 1 r fun _ => Q d ρ := PV.wp_N
end
def stk {α : Type} (x : M α) (ρ : En) (Q : α → En → Prop) (b : Bx Q) : Prop := wp x ρ Q
theorem stuck_O {n i : Nat} {F : M D} {ds : List D} {ρ : En} {Q : D → En → Prop} : wp (callO n F i ds) ρ Q ↔ stk (callO n F i ds) ρ Q ⟨⟩ := PV.stuck_O
theorem stuck_W {t : M Bool} {b : M Fl} {ρ : En} {Q : Fl → En → Prop} : wp (mWhile t b) ρ Q ↔ stk (mWhile t b) ρ Q ⟨⟩ := PV.stuck_W
def setw  (r : En) (i : Nat) (s : Sl) (K : En → Prop) (_b0 : Bx K := ⟨⟩) : Prop := PV.setw r i s K
def ownr  (r : En) (i : Nat) (P : List D → Prop) (_b0 : Bx P := ⟨⟩) : Prop := PV.ownr r i P
section
variable {ρ r : En} {Q : D → En → Prop} {QU : Unit → En → Prop} {QF : Fl → En → Prop} {QL : List D → En → Prop} {P : List D → Prop} {K : En → Prop} {i j l n m : Nat} {fa f : M D} {fl fi : M (List D)} {d : D} {s : Sl} {ds L es : List D} {t : M Bool} {F : M Fl}
theorem hp_set : wp (mSet i fa) ρ QF ↔ wp fa ρ fun d r => setw r i (.val d) fun r2 => QF .nx r2 := PV.hp_set
theorem hp_own : wp (mOwn i fl) ρ QF ↔ wp fl ρ fun d r => setw r i (.own d) fun r2 => QF .nx r2 := PV.hp_own
theorem hp_gN : wp (gN i d) ρ QU ↔ setw ρ i (.val d) fun r2 => QU () r2 := PV.hp_gN
theorem hp_par : wp (mPar i j fl) ρ QF ↔ wp fl ρ fun ds r => l2w ds fun x y => setw r i (.val x) fun r2 => setw r2 j (.val y) fun r3 => QF .nx r3 := PV.hp_par
theorem hp_par3 : wp (mPar3 i j l fl) ρ QF ↔ wp fl ρ fun ds r => l3w ds fun x y z => setw r i (.val x) fun r2 => setw r2 j (.val y) fun r3 => setw r3 l (.val z) fun r4 => QF .nx r4 := PV.hp_par3
theorem hp_owned {α : Type} {x : M α} {Q : α → En → Prop} : wp (mOwned j x) ρ Q ↔ ownr ρ j fun _ => wp x ρ Q := PV.hp_owned
theorem hp_at {α : Type} {g : List D → Option (α × List D)} {Q : α → En → Prop} : wp (mAt j g) ρ Q ↔ ownr ρ j fun ds => ow (g ds) fun z => setw ρ j (.own z.2) fun r => Q z.1 r := PV.hp_at
theorem hp_ixO : wp (mIxO j fa) ρ Q ↔ ownr ρ j fun _ => wp fa ρ fun k r => ownr r j fun ds => ow (dIx (.lst ds) k) fun d => Q d r := PV.hp_ixO
theorem hp_lenO : wp (mLenO j) ρ Q ↔ ownr ρ j fun ds => Q (.int ds.length) ρ := PV.hp_lenO
theorem hp_gSub : wp (gSub1 j fa d) ρ QU ↔ ownr ρ j fun _ => wp fa ρ fun k r => ownr r j fun ds => ow (setAt k d ds) fun z => setw r j (.own z.2) fun r2 => QU () r2 := PV.hp_gSub
theorem hp_app : wp (mApp j fa) ρ Q ↔ ownr ρ j fun _ => wp fa ρ fun d r => ownr r j fun ds => ds.length < 1000000 ∧ setw r j (.own (ds ++ [d])) fun r2 => Q .non r2 := PV.hp_app
theorem hv0 : wp (dVar 0) (.val d :: r) Q ↔ Q d (.val d :: r) := PV.hv0
theorem ho0 : wp (dVar 0) (.own ds :: r) Q ↔ Q (.lst ds) (.val (.lst ds) :: r) := PV.ho0
theorem hs0 {x : Sl} : setw (x :: r) 0 s K ↔ K (s :: r) := PV.hs0
theorem hr0 : ownr (.own L :: r) 0 P ↔ P L := PV.hr0
theorem hv1 {x0 : Sl} : wp (dVar 1) (x0 :: .val d :: r) Q ↔ Q d (x0 :: .val d :: r) := PV.hv1
theorem ho1 {x0 : Sl} : wp (dVar 1) (x0 :: .own ds :: r) Q ↔ Q (.lst ds) (x0 :: .val (.lst ds) :: r) := PV.ho1
theorem hs1 {x0 x : Sl} : setw (x0 :: x :: r) 1 s K ↔ K (x0 :: s :: r) := PV.hs1
theorem hr1 {x0 : Sl} : ownr (x0 :: .own L :: r) 1 P ↔ P L := PV.hr1
theorem hv2 {x0 x1 : Sl} : wp (dVar 2) (x0 :: x1 :: .val d :: r) Q ↔ Q d (x0 :: x1 :: .val d :: r) := PV.hv2
theorem ho2 {x0 x1 : Sl} : wp (dVar 2) (x0 :: x1 :: .own ds :: r) Q ↔ Q (.lst ds) (x0 :: x1 :: .val (.lst ds) :: r) := PV.ho2
theorem hs2 {x0 x1 x : Sl} : setw (x0 :: x1 :: x :: r) 2 s K ↔ K (x0 :: x1 :: s :: r) := PV.hs2
theorem hr2 {x0 x1 : Sl} : ownr (x0 :: x1 :: .own L :: r) 2 P ↔ P L := PV.hr2
theorem hv3 {x0 x1 x2 : Sl} : wp (dVar 3) (x0 :: x1 :: x2 :: .val d :: r) Q ↔ Q d (x0 :: x1 :: x2 :: .val d :: r) := PV.hv3
theorem ho3 {x0 x1 x2 : Sl} : wp (dVar 3) (x0 :: x1 :: x2 :: .own ds :: r) Q ↔ Q (.lst ds) (x0 :: x1 :: x2 :: .val (.lst ds) :: r) := PV.ho3
theorem hs3 {x0 x1 x2 x : Sl} : setw (x0 :: x1 :: x2 :: x :: r) 3 s K ↔ K (x0 :: x1 :: x2 :: s :: r) := PV.hs3
theorem hr3 {x0 x1 x2 : Sl} : ownr (x0 :: x1 :: x2 :: .own L :: r) 3 P ↔ P L := PV.hr3
theorem hv4 {x0 x1 x2 x3 : Sl} : wp (dVar 4) (x0 :: x1 :: x2 :: x3 :: .val d :: r) Q ↔ Q d (x0 :: x1 :: x2 :: x3 :: .val d :: r) := PV.hv4
theorem ho4 {x0 x1 x2 x3 : Sl} : wp (dVar 4) (x0 :: x1 :: x2 :: x3 :: .own ds :: r) Q ↔ Q (.lst ds) (x0 :: x1 :: x2 :: x3 :: .val (.lst ds) :: r) := PV.ho4
theorem hs4 {x0 x1 x2 x3 x : Sl} : setw (x0 :: x1 :: x2 :: x3 :: x :: r) 4 s K ↔ K (x0 :: x1 :: x2 :: x3 :: s :: r) := PV.hs4
theorem hr4 {x0 x1 x2 x3 : Sl} : ownr (x0 :: x1 :: x2 :: x3 :: .own L :: r) 4 P ↔ P L := PV.hr4
theorem hv5 {x0 x1 x2 x3 x4 : Sl} : wp (dVar 5) (x0 :: x1 :: x2 :: x3 :: x4 :: .val d :: r) Q ↔ Q d (x0 :: x1 :: x2 :: x3 :: x4 :: .val d :: r) := PV.hv5
theorem ho5 {x0 x1 x2 x3 x4 : Sl} : wp (dVar 5) (x0 :: x1 :: x2 :: x3 :: x4 :: .own ds :: r) Q ↔ Q (.lst ds) (x0 :: x1 :: x2 :: x3 :: x4 :: .val (.lst ds) :: r) := PV.ho5
theorem hs5 {x0 x1 x2 x3 x4 x : Sl} : setw (x0 :: x1 :: x2 :: x3 :: x4 :: x :: r) 5 s K ↔ K (x0 :: x1 :: x2 :: x3 :: x4 :: s :: r) := PV.hs5
theorem hr5 {x0 x1 x2 x3 x4 : Sl} : ownr (x0 :: x1 :: x2 :: x3 :: x4 :: .own L :: r) 5 P ↔ P L := PV.hr5
theorem hv6 {x0 x1 x2 x3 x4 x5 : Sl} : wp (dVar 6) (x0 :: x1 :: x2 :: x3 :: x4 :: x5 :: .val d :: r) Q ↔ Q d (x0 :: x1 :: x2 :: x3 :: x4 :: x5 :: .val d :: r) := PV.hv6
theorem ho6 {x0 x1 x2 x3 x4 x5 : Sl} : wp (dVar 6) (x0 :: x1 :: x2 :: x3 :: x4 :: x5 :: .own ds :: r) Q ↔ Q (.lst ds) (x0 :: x1 :: x2 :: x3 :: x4 :: x5 :: .val (.lst ds) :: r) := PV.ho6
theorem hs6 {x0 x1 x2 x3 x4 x5 x : Sl} : setw (x0 :: x1 :: x2 :: x3 :: x4 :: x5 :: x :: r) 6 s K ↔ K (x0 :: x1 :: x2 :: x3 :: x4 :: x5 :: s :: r) := PV.hs6
theorem hr6 {x0 x1 x2 x3 x4 x5 : Sl} : ownr (x0 :: x1 :: x2 :: x3 :: x4 :: x5 :: .own L :: r) 6 P ↔ P L := PV.hr6
theorem hv7 {x0 x1 x2 x3 x4 x5 x6 : Sl} : wp (dVar 7) (x0 :: x1 :: x2 :: x3 :: x4 :: x5 :: x6 :: .val d :: r) Q ↔ Q d (x0 :: x1 :: x2 :: x3 :: x4 :: x5 :: x6 :: .val d :: r) := PV.hv7
theorem ho7 {x0 x1 x2 x3 x4 x5 x6 : Sl} : wp (dVar 7) (x0 :: x1 :: x2 :: x3 :: x4 :: x5 :: x6 :: .own ds :: r) Q ↔ Q (.lst ds) (x0 :: x1 :: x2 :: x3 :: x4 :: x5 :: x6 :: .val (.lst ds) :: r) := PV.ho7
theorem hs7 {x0 x1 x2 x3 x4 x5 x6 x : Sl} : setw (x0 :: x1 :: x2 :: x3 :: x4 :: x5 :: x6 :: x :: r) 7 s K ↔ K (x0 :: x1 :: x2 :: x3 :: x4 :: x5 :: x6 :: s :: r) := PV.hs7
theorem hr7 {x0 x1 x2 x3 x4 x5 x6 : Sl} : ownr (x0 :: x1 :: x2 :: x3 :: x4 :: x5 :: x6 :: .own L :: r) 7 P ↔ P L := PV.hr7
theorem hv8 {x0 x1 x2 x3 x4 x5 x6 x7 : Sl} : wp (dVar 8) (x0 :: x1 :: x2 :: x3 :: x4 :: x5 :: x6 :: x7 :: .val d :: r) Q ↔ Q d (x0 :: x1 :: x2 :: x3 :: x4 :: x5 :: x6 :: x7 :: .val d :: r) := PV.hv8
theorem ho8 {x0 x1 x2 x3 x4 x5 x6 x7 : Sl} : wp (dVar 8) (x0 :: x1 :: x2 :: x3 :: x4 :: x5 :: x6 :: x7 :: .own ds :: r) Q ↔ Q (.lst ds) (x0 :: x1 :: x2 :: x3 :: x4 :: x5 :: x6 :: x7 :: .val (.lst ds) :: r) := PV.ho8
theorem hs8 {x0 x1 x2 x3 x4 x5 x6 x7 x : Sl} : setw (x0 :: x1 :: x2 :: x3 :: x4 :: x5 :: x6 :: x7 :: x :: r) 8 s K ↔ K (x0 :: x1 :: x2 :: x3 :: x4 :: x5 :: x6 :: x7 :: s :: r) := PV.hs8
theorem hr8 {x0 x1 x2 x3 x4 x5 x6 x7 : Sl} : ownr (x0 :: x1 :: x2 :: x3 :: x4 :: x5 :: x6 :: x7 :: .own L :: r) 8 P ↔ P L := PV.hr8
theorem hv9 {x0 x1 x2 x3 x4 x5 x6 x7 x8 : Sl} : wp (dVar 9) (x0 :: x1 :: x2 :: x3 :: x4 :: x5 :: x6 :: x7 :: x8 :: .val d :: r) Q ↔ Q d (x0 :: x1 :: x2 :: x3 :: x4 :: x5 :: x6 :: x7 :: x8 :: .val d :: r) := PV.hv9
theorem ho9 {x0 x1 x2 x3 x4 x5 x6 x7 x8 : Sl} : wp (dVar 9) (x0 :: x1 :: x2 :: x3 :: x4 :: x5 :: x6 :: x7 :: x8 :: .own ds :: r) Q ↔ Q (.lst ds) (x0 :: x1 :: x2 :: x3 :: x4 :: x5 :: x6 :: x7 :: x8 :: .val (.lst ds) :: r) := PV.ho9
theorem hs9 {x0 x1 x2 x3 x4 x5 x6 x7 x8 x : Sl} : setw (x0 :: x1 :: x2 :: x3 :: x4 :: x5 :: x6 :: x7 :: x8 :: x :: r) 9 s K ↔ K (x0 :: x1 :: x2 :: x3 :: x4 :: x5 :: x6 :: x7 :: x8 :: s :: r) := PV.hs9
theorem hr9 {x0 x1 x2 x3 x4 x5 x6 x7 x8 : Sl} : ownr (x0 :: x1 :: x2 :: x3 :: x4 :: x5 :: x6 :: x7 :: x8 :: .own L :: r) 9 P ↔ P L := PV.hr9
theorem hv10 {x0 x1 x2 x3 x4 x5 x6 x7 x8 x9 : Sl} : wp (dVar 10) (x0 :: x1 :: x2 :: x3 :: x4 :: x5 :: x6 :: x7 :: x8 :: x9 :: .val d :: r) Q ↔ Q d (x0 :: x1 :: x2 :: x3 :: x4 :: x5 :: x6 :: x7 :: x8 :: x9 :: .val d :: r) := PV.hv10
theorem ho10 {x0 x1 x2 x3 x4 x5 x6 x7 x8 x9 : Sl} : wp (dVar 10) (x0 :: x1 :: x2 :: x3 :: x4 :: x5 :: x6 :: x7 :: x8 :: x9 :: .own ds :: r) Q ↔ Q (.lst ds) (x0 :: x1 :: x2 :: x3 :: x4 :: x5 :: x6 :: x7 :: x8 :: x9 :: .val (.lst ds) :: r) := PV.ho10
theorem hs10 {x0 x1 x2 x3 x4 x5 x6 x7 x8 x9 x : Sl} : setw (x0 :: x1 :: x2 :: x3 :: x4 :: x5 :: x6 :: x7 :: x8 :: x9 :: x :: r) 10 s K ↔ K (x0 :: x1 :: x2 :: x3 :: x4 :: x5 :: x6 :: x7 :: x8 :: x9 :: s :: r) := PV.hs10
theorem hr10 {x0 x1 x2 x3 x4 x5 x6 x7 x8 x9 : Sl} : ownr (x0 :: x1 :: x2 :: x3 :: x4 :: x5 :: x6 :: x7 :: x8 :: x9 :: .own L :: r) 10 P ↔ P L := PV.hr10
theorem hv11 {x0 x1 x2 x3 x4 x5 x6 x7 x8 x9 x10 : Sl} : wp (dVar 11) (x0 :: x1 :: x2 :: x3 :: x4 :: x5 :: x6 :: x7 :: x8 :: x9 :: x10 :: .val d :: r) Q ↔ Q d (x0 :: x1 :: x2 :: x3 :: x4 :: x5 :: x6 :: x7 :: x8 :: x9 :: x10 :: .val d :: r) := PV.hv11
theorem ho11 {x0 x1 x2 x3 x4 x5 x6 x7 x8 x9 x10 : Sl} : wp (dVar 11) (x0 :: x1 :: x2 :: x3 :: x4 :: x5 :: x6 :: x7 :: x8 :: x9 :: x10 :: .own ds :: r) Q ↔ Q (.lst ds) (x0 :: x1 :: x2 :: x3 :: x4 :: x5 :: x6 :: x7 :: x8 :: x9 :: x10 :: .val (.lst ds) :: r) := PV.ho11
theorem hs11 {x0 x1 x2 x3 x4 x5 x6 x7 x8 x9 x10 x : Sl} : setw (x0 :: x1 :: x2 :: x3 :: x4 :: x5 :: x6 :: x7 :: x8 :: x9 :: x10 :: x :: r) 11 s K ↔ K (x0 :: x1 :: x2 :: x3 :: x4 :: x5 :: x6 :: x7 :: x8 :: x9 :: x10 :: s :: r) := PV.hs11
theorem hr11 {x0 x1 x2 x3 x4 x5 x6 x7 x8 x9 x10 : Sl} : ownr (x0 :: x1 :: x2 :: x3 :: x4 :: x5 :: x6 :: x7 :: x8 :: x9 :: x10 :: .own L :: r) 11 P ↔ P L := PV.hr11
theorem hv12 {x0 x1 x2 x3 x4 x5 x6 x7 x8 x9 x10 x11 : Sl} : wp (dVar 12) (x0 :: x1 :: x2 :: x3 :: x4 :: x5 :: x6 :: x7 :: x8 :: x9 :: x10 :: x11 :: .val d :: r) Q ↔ Q d (x0 :: x1 :: x2 :: x3 :: x4 :: x5 :: x6 :: x7 :: x8 :: x9 :: x10 :: x11 :: .val d :: r) := PV.hv12
theorem ho12 {x0 x1 x2 x3 x4 x5 x6 x7 x8 x9 x10 x11 : Sl} : wp (dVar 12) (x0 :: x1 :: x2 :: x3 :: x4 :: x5 :: x6 :: x7 :: x8 :: x9 :: x10 :: x11 :: .own ds :: r) Q ↔ Q (.lst ds) (x0 :: x1 :: x2 :: x3 :: x4 :: x5 :: x6 :: x7 :: x8 :: x9 :: x10 :: x11 :: .val (.lst ds) :: r) := PV.ho12
theorem hs12 {x0 x1 x2 x3 x4 x5 x6 x7 x8 x9 x10 x11 x : Sl} : setw (x0 :: x1 :: x2 :: x3 :: x4 :: x5 :: x6 :: x7 :: x8 :: x9 :: x10 :: x11 :: x :: r) 12 s K ↔ K (x0 :: x1 :: x2 :: x3 :: x4 :: x5 :: x6 :: x7 :: x8 :: x9 :: x10 :: x11 :: s :: r) := PV.hs12
theorem hr12 {x0 x1 x2 x3 x4 x5 x6 x7 x8 x9 x10 x11 : Sl} : ownr (x0 :: x1 :: x2 :: x3 :: x4 :: x5 :: x6 :: x7 :: x8 :: x9 :: x10 :: x11 :: .own L :: r) 12 P ↔ P L := PV.hr12
theorem hv13 {x0 x1 x2 x3 x4 x5 x6 x7 x8 x9 x10 x11 x12 : Sl} : wp (dVar 13) (x0 :: x1 :: x2 :: x3 :: x4 :: x5 :: x6 :: x7 :: x8 :: x9 :: x10 :: x11 :: x12 :: .val d :: r) Q ↔ Q d (x0 :: x1 :: x2 :: x3 :: x4 :: x5 :: x6 :: x7 :: x8 :: x9 :: x10 :: x11 :: x12 :: .val d :: r) := PV.hv13
theorem ho13 {x0 x1 x2 x3 x4 x5 x6 x7 x8 x9 x10 x11 x12 : Sl} : wp (dVar 13) (x0 :: x1 :: x2 :: x3 :: x4 :: x5 :: x6 :: x7 :: x8 :: x9 :: x10 :: x11 :: x12 :: .own ds :: r) Q ↔ Q (.lst ds) (x0 :: x1 :: x2 :: x3 :: x4 :: x5 :: x6 :: x7 :: x8 :: x9 :: x10 :: x11 :: x12 :: .val (.lst ds) :: r) := PV.ho13
theorem hs13 {x0 x1 x2 x3 x4 x5 x6 x7 x8 x9 x10 x11 x12 x : Sl} : setw (x0 :: x1 :: x2 :: x3 :: x4 :: x5 :: x6 :: x7 :: x8 :: x9 :: x10 :: x11 :: x12 :: x :: r) 13 s K ↔ K (x0 :: x1 :: x2 :: x3 :: x4 :: x5 :: x6 :: x7 :: x8 :: x9 :: x10 :: x11 :: x12 :: s :: r) := PV.hs13
theorem hr13 {x0 x1 x2 x3 x4 x5 x6 x7 x8 x9 x10 x11 x12 : Sl} : ownr (x0 :: x1 :: x2 :: x3 :: x4 :: x5 :: x6 :: x7 :: x8 :: x9 :: x10 :: x11 :: x12 :: .own L :: r) 13 P ↔ P L := PV.hr13
theorem hv14 {x0 x1 x2 x3 x4 x5 x6 x7 x8 x9 x10 x11 x12 x13 : Sl} : wp (dVar 14) (x0 :: x1 :: x2 :: x3 :: x4 :: x5 :: x6 :: x7 :: x8 :: x9 :: x10 :: x11 :: x12 :: x13 :: .val d :: r) Q ↔ Q d (x0 :: x1 :: x2 :: x3 :: x4 :: x5 :: x6 :: x7 :: x8 :: x9 :: x10 :: x11 :: x12 :: x13 :: .val d :: r) := PV.hv14
theorem ho14 {x0 x1 x2 x3 x4 x5 x6 x7 x8 x9 x10 x11 x12 x13 : Sl} : wp (dVar 14) (x0 :: x1 :: x2 :: x3 :: x4 :: x5 :: x6 :: x7 :: x8 :: x9 :: x10 :: x11 :: x12 :: x13 :: .own ds :: r) Q ↔ Q (.lst ds) (x0 :: x1 :: x2 :: x3 :: x4 :: x5 :: x6 :: x7 :: x8 :: x9 :: x10 :: x11 :: x12 :: x13 :: .val (.lst ds) :: r) := PV.ho14
theorem hs14 {x0 x1 x2 x3 x4 x5 x6 x7 x8 x9 x10 x11 x12 x13 x : Sl} : setw (x0 :: x1 :: x2 :: x3 :: x4 :: x5 :: x6 :: x7 :: x8 :: x9 :: x10 :: x11 :: x12 :: x13 :: x :: r) 14 s K ↔ K (x0 :: x1 :: x2 :: x3 :: x4 :: x5 :: x6 :: x7 :: x8 :: x9 :: x10 :: x11 :: x12 :: x13 :: s :: r) := PV.hs14
theorem hr14 {x0 x1 x2 x3 x4 x5 x6 x7 x8 x9 x10 x11 x12 x13 : Sl} : ownr (x0 :: x1 :: x2 :: x3 :: x4 :: x5 :: x6 :: x7 :: x8 :: x9 :: x10 :: x11 :: x12 :: x13 :: .own L :: r) 14 P ↔ P L := PV.hr14
theorem hv15 {x0 x1 x2 x3 x4 x5 x6 x7 x8 x9 x10 x11 x12 x13 x14 : Sl} : wp (dVar 15) (x0 :: x1 :: x2 :: x3 :: x4 :: x5 :: x6 :: x7 :: x8 :: x9 :: x10 :: x11 :: x12 :: x13 :: x14 :: .val d :: r) Q ↔ Q d (x0 :: x1 :: x2 :: x3 :: x4 :: x5 :: x6 :: x7 :: x8 :: x9 :: x10 :: x11 :: x12 :: x13 :: x14 :: .val d :: r) := PV.hv15
theorem ho15 {x0 x1 x2 x3 x4 x5 x6 x7 x8 x9 x10 x11 x12 x13 x14 : Sl} : wp (dVar 15) (x0 :: x1 :: x2 :: x3 :: x4 :: x5 :: x6 :: x7 :: x8 :: x9 :: x10 :: x11 :: x12 :: x13 :: x14 :: .own ds :: r) Q ↔ Q (.lst ds) (x0 :: x1 :: x2 :: x3 :: x4 :: x5 :: x6 :: x7 :: x8 :: x9 :: x10 :: x11 :: x12 :: x13 :: x14 :: .val (.lst ds) :: r) := PV.ho15
theorem hs15 {x0 x1 x2 x3 x4 x5 x6 x7 x8 x9 x10 x11 x12 x13 x14 x : Sl} : setw (x0 :: x1 :: x2 :: x3 :: x4 :: x5 :: x6 :: x7 :: x8 :: x9 :: x10 :: x11 :: x12 :: x13 :: x14 :: x :: r) 15 s K ↔ K (x0 :: x1 :: x2 :: x3 :: x4 :: x5 :: x6 :: x7 :: x8 :: x9 :: x10 :: x11 :: x12 :: x13 :: x14 :: s :: r) := PV.hs15
theorem hr15 {x0 x1 x2 x3 x4 x5 x6 x7 x8 x9 x10 x11 x12 x13 x14 : Sl} : ownr (x0 :: x1 :: x2 :: x3 :: x4 :: x5 :: x6 :: x7 :: x8 :: x9 :: x10 :: x11 :: x12 :: x13 :: x14 :: .own L :: r) 15 P ↔ P L := PV.hr15
theorem hv16 {x0 x1 x2 x3 x4 x5 x6 x7 x8 x9 x10 x11 x12 x13 x14 x15 : Sl} : wp (dVar 16) (x0 :: x1 :: x2 :: x3 :: x4 :: x5 :: x6 :: x7 :: x8 :: x9 :: x10 :: x11 :: x12 :: x13 :: x14 :: x15 :: .val d :: r) Q ↔ Q d (x0 :: x1 :: x2 :: x3 :: x4 :: x5 :: x6 :: x7 :: x8 :: x9 :: x10 :: x11 :: x12 :: x13 :: x14 :: x15 :: .val d :: r) := PV.hv16
theorem ho16 {x0 x1 x2 x3 x4 x5 x6 x7 x8 x9 x10 x11 x12 x13 x14 x15 : Sl} : wp (dVar 16) (x0 :: x1 :: x2 :: x3 :: x4 :: x5 :: x6 :: x7 :: x8 :: x9 :: x10 :: x11 :: x12 :: x13 :: x14 :: x15 :: .own ds :: r) Q ↔ Q (.lst ds) (x0 :: x1 :: x2 :: x3 :: x4 :: x5 :: x6 :: x7 :: x8 :: x9 :: x10 :: x11 :: x12 :: x13 :: x14 :: x15 :: .val (.lst ds) :: r) := PV.ho16
theorem hs16 {x0 x1 x2 x3 x4 x5 x6 x7 x8 x9 x10 x11 x12 x13 x14 x15 x : Sl} : setw (x0 :: x1 :: x2 :: x3 :: x4 :: x5 :: x6 :: x7 :: x8 :: x9 :: x10 :: x11 :: x12 :: x13 :: x14 :: x15 :: x :: r) 16 s K ↔ K (x0 :: x1 :: x2 :: x3 :: x4 :: x5 :: x6 :: x7 :: x8 :: x9 :: x10 :: x11 :: x12 :: x13 :: x14 :: x15 :: s :: r) := PV.hs16
theorem hr16 {x0 x1 x2 x3 x4 x5 x6 x7 x8 x9 x10 x11 x12 x13 x14 x15 : Sl} : ownr (x0 :: x1 :: x2 :: x3 :: x4 :: x5 :: x6 :: x7 :: x8 :: x9 :: x10 :: x11 :: x12 :: x13 :: x14 :: x15 :: .own L :: r) 16 P ↔ P L := PV.hr16
theorem hv17 {x0 x1 x2 x3 x4 x5 x6 x7 x8 x9 x10 x11 x12 x13 x14 x15 x16 : Sl} : wp (dVar 17) (x0 :: x1 :: x2 :: x3 :: x4 :: x5 :: x6 :: x7 :: x8 :: x9 :: x10 :: x11 :: x12 :: x13 :: x14 :: x15 :: x16 :: .val d :: r) Q ↔ Q d (x0 :: x1 :: x2 :: x3 :: x4 :: x5 :: x6 :: x7 :: x8 :: x9 :: x10 :: x11 :: x12 :: x13 :: x14 :: x15 :: x16 :: .val d :: r) := PV.hv17
theorem ho17 {x0 x1 x2 x3 x4 x5 x6 x7 x8 x9 x10 x11 x12 x13 x14 x15 x16 : Sl} : wp (dVar 17) (x0 :: x1 :: x2 :: x3 :: x4 :: x5 :: x6 :: x7 :: x8 :: x9 :: x10 :: x11 :: x12 :: x13 :: x14 :: x15 :: x16 :: .own ds :: r) Q ↔ Q (.lst ds) (x0 :: x1 :: x2 :: x3 :: x4 :: x5 :: x6 :: x7 :: x8 :: x9 :: x10 :: x11 :: x12 :: x13 :: x14 :: x15 :: x16 :: .val (.lst ds) :: r) := PV.ho17
theorem hs17 {x0 x1 x2 x3 x4 x5 x6 x7 x8 x9 x10 x11 x12 x13 x14 x15 x16 x : Sl} : setw (x0 :: x1 :: x2 :: x3 :: x4 :: x5 :: x6 :: x7 :: x8 :: x9 :: x10 :: x11 :: x12 :: x13 :: x14 :: x15 :: x16 :: x :: r) 17 s K ↔ K (x0 :: x1 :: x2 :: x3 :: x4 :: x5 :: x6 :: x7 :: x8 :: x9 :: x10 :: x11 :: x12 :: x13 :: x14 :: x15 :: x16 :: s :: r) := PV.hs17
theorem hr17 {x0 x1 x2 x3 x4 x5 x6 x7 x8 x9 x10 x11 x12 x13 x14 x15 x16 : Sl} : ownr (x0 :: x1 :: x2 :: x3 :: x4 :: x5 :: x6 :: x7 :: x8 :: x9 :: x10 :: x11 :: x12 :: x13 :: x14 :: x15 :: x16 :: .own L :: r) 17 P ↔ P L := PV.hr17
theorem hv18 {x0 x1 x2 x3 x4 x5 x6 x7 x8 x9 x10 x11 x12 x13 x14 x15 x16 x17 : Sl} : wp (dVar 18) (x0 :: x1 :: x2 :: x3 :: x4 :: x5 :: x6 :: x7 :: x8 :: x9 :: x10 :: x11 :: x12 :: x13 :: x14 :: x15 :: x16 :: x17 :: .val d :: r) Q ↔ Q d (x0 :: x1 :: x2 :: x3 :: x4 :: x5 :: x6 :: x7 :: x8 :: x9 :: x10 :: x11 :: x12 :: x13 :: x14 :: x15 :: x16 :: x17 :: .val d :: r) := PV.hv18
theorem ho18 {x0 x1 x2 x3 x4 x5 x6 x7 x8 x9 x10 x11 x12 x13 x14 x15 x16 x17 : Sl} : wp (dVar 18) (x0 :: x1 :: x2 :: x3 :: x4 :: x5 :: x6 :: x7 :: x8 :: x9 :: x10 :: x11 :: x12 :: x13 :: x14 :: x15 :: x16 :: x17 :: .own ds :: r) Q ↔ Q (.lst ds) (x0 :: x1 :: x2 :: x3 :: x4 :: x5 :: x6 :: x7 :: x8 :: x9 :: x10 :: x11 :: x12 :: x13 :: x14 :: x15 :: x16 :: x17 :: .val (.lst ds) :: r) := PV.ho18
theorem hs18 {x0 x1 x2 x3 x4 x5 x6 x7 x8 x9 x10 x11 x12 x13 x14 x15 x16 x17 x : Sl} : setw (x0 :: x1 :: x2 :: x3 :: x4 :: x5 :: x6 :: x7 :: x8 :: x9 :: x10 :: x11 :: x12 :: x13 :: x14 :: x15 :: x16 :: x17 :: x :: r) 18 s K ↔ K (x0 :: x1 :: x2 :: x3 :: x4 :: x5 :: x6 :: x7 :: x8 :: x9 :: x10 :: x11 :: x12 :: x13 :: x14 :: x15 :: x16 :: x17 :: s :: r) := PV.hs18
theorem hr18 {x0 x1 x2 x3 x4 x5 x6 x7 x8 x9 x10 x11 x12 x13 x14 x15 x16 x17 : Sl} : ownr (x0 :: x1 :: x2 :: x3 :: x4 :: x5 :: x6 :: x7 :: x8 :: x9 :: x10 :: x11 :: x12 :: x13 :: x14 :: x15 :: x16 :: x17 :: .own L :: r) 18 P ↔ P L := PV.hr18
theorem hv19 {x0 x1 x2 x3 x4 x5 x6 x7 x8 x9 x10 x11 x12 x13 x14 x15 x16 x17 x18 : Sl} : wp (dVar 19) (x0 :: x1 :: x2 :: x3 :: x4 :: x5 :: x6 :: x7 :: x8 :: x9 :: x10 :: x11 :: x12 :: x13 :: x14 :: x15 :: x16 :: x17 :: x18 :: .val d :: r) Q ↔ Q d (x0 :: x1 :: x2 :: x3 :: x4 :: x5 :: x6 :: x7 :: x8 :: x9 :: x10 :: x11 :: x12 :: x13 :: x14 :: x15 :: x16 :: x17 :: x18 :: .val d :: r) := PV.hv19
theorem ho19 {x0 x1 x2 x3 x4 x5 x6 x7 x8 x9 x10 x11 x12 x13 x14 x15 x16 x17 x18 : Sl} : wp (dVar 19) (x0 :: x1 :: x2 :: x3 :: x4 :: x5 :: x6 :: x7 :: x8 :: x9 :: x10 :: x11 :: x12 :: x13 :: x14 :: x15 :: x16 :: x17 :: x18 :: .own ds :: r) Q ↔ Q (.lst ds) (x0 :: x1 :: x2 :: x3 :: x4 :: x5 :: x6 :: x7 :: x8 :: x9 :: x10 :: x11 :: x12 :: x13 :: x14 :: x15 :: x16 :: x17 :: x18 :: .val (.lst ds) :: r) := PV.ho19
theorem hs19 {x0 x1 x2 x3 x4 x5 x6 x7 x8 x9 x10 x11 x12 x13 x14 x15 x16 x17 x18 x : Sl} : setw (x0 :: x1 :: x2 :: x3 :: x4 :: x5 :: x6 :: x7 :: x8 :: x9 :: x10 :: x11 :: x12 :: x13 :: x14 :: x15 :: x16 :: x17 :: x18 :: x :: r) 19 s K ↔ K (x0 :: x1 :: x2 :: x3 :: x4 :: x5 :: x6 :: x7 :: x8 :: x9 :: x10 :: x11 :: x12 :: x13 :: x14 :: x15 :: x16 :: x17 :: x18 :: s :: r) := PV.hs19
theorem hr19 {x0 x1 x2 x3 x4 x5 x6 x7 x8 x9 x10 x11 x12 x13 x14 x15 x16 x17 x18 : Sl} : ownr (x0 :: x1 :: x2 :: x3 :: x4 :: x5 :: x6 :: x7 :: x8 :: x9 :: x10 :: x11 :: x12 :: x13 :: x14 :: x15 :: x16 :: x17 :: x18 :: .own L :: r) 19 P ↔ P L := PV.hr19
theorem hv20 {x0 x1 x2 x3 x4 x5 x6 x7 x8 x9 x10 x11 x12 x13 x14 x15 x16 x17 x18 x19 : Sl} : wp (dVar 20) (x0 :: x1 :: x2 :: x3 :: x4 :: x5 :: x6 :: x7 :: x8 :: x9 :: x10 :: x11 :: x12 :: x13 :: x14 :: x15 :: x16 :: x17 :: x18 :: x19 :: .val d :: r) Q ↔ Q d (x0 :: x1 :: x2 :: x3 :: x4 :: x5 :: x6 :: x7 :: x8 :: x9 :: x10 :: x11 :: x12 :: x13 :: x14 :: x15 :: x16 :: x17 :: x18 :: x19 :: .val d :: r) := PV.hv20
theorem ho20 {x0 x1 x2 x3 x4 x5 x6 x7 x8 x9 x10 x11 x12 x13 x14 x15 x16 x17 x18 x19 : Sl} : wp (dVar 20) (x0 :: x1 :: x2 :: x3 :: x4 :: x5 :: x6 :: x7 :: x8 :: x9 :: x10 :: x11 :: x12 :: x13 :: x14 :: x15 :: x16 :: x17 :: x18 :: x19 :: .own ds :: r) Q ↔ Q (.lst ds) (x0 :: x1 :: x2 :: x3 :: x4 :: x5 :: x6 :: x7 :: x8 :: x9 :: x10 :: x11 :: x12 :: x13 :: x14 :: x15 :: x16 :: x17 :: x18 :: x19 :: .val (.lst ds) :: r) := PV.ho20
theorem hs20 {x0 x1 x2 x3 x4 x5 x6 x7 x8 x9 x10 x11 x12 x13 x14 x15 x16 x17 x18 x19 x : Sl} : setw (x0 :: x1 :: x2 :: x3 :: x4 :: x5 :: x6 :: x7 :: x8 :: x9 :: x10 :: x11 :: x12 :: x13 :: x14 :: x15 :: x16 :: x17 :: x18 :: x19 :: x :: r) 20 s K ↔ K (x0 :: x1 :: x2 :: x3 :: x4 :: x5 :: x6 :: x7 :: x8 :: x9 :: x10 :: x11 :: x12 :: x13 :: x14 :: x15 :: x16 :: x17 :: x18 :: x19 :: s :: r) := PV.hs20
theorem hr20 {x0 x1 x2 x3 x4 x5 x6 x7 x8 x9 x10 x11 x12 x13 x14 x15 x16 x17 x18 x19 : Sl} : ownr (x0 :: x1 :: x2 :: x3 :: x4 :: x5 :: x6 :: x7 :: x8 :: x9 :: x10 :: x11 :: x12 :: x13 :: x14 :: x15 :: x16 :: x17 :: x18 :: x19 :: .own L :: r) 20 P ↔ P L := PV.hr20
theorem hv21 {x0 x1 x2 x3 x4 x5 x6 x7 x8 x9 x10 x11 x12 x13 x14 x15 x16 x17 x18 x19 x20 : Sl} : wp (dVar 21) (x0 :: x1 :: x2 :: x3 :: x4 :: x5 :: x6 :: x7 :: x8 :: x9 :: x10 :: x11 :: x12 :: x13 :: x14 :: x15 :: x16 :: x17 :: x18 :: x19 :: x20 :: .val d :: r) Q ↔ Q d (x0 :: x1 :: x2 :: x3 :: x4 :: x5 :: x6 :: x7 :: x8 :: x9 :: x10 :: x11 :: x12 :: x13 :: x14 :: x15 :: x16 :: x17 :: x18 :: x19 :: x20 :: .val d :: r) := PV.hv21
theorem ho21 {x0 x1 x2 x3 x4 x5 x6 x7 x8 x9 x10 x11 x12 x13 x14 x15 x16 x17 x18 x19 x20 : Sl} : wp (dVar 21) (x0 :: x1 :: x2 :: x3 :: x4 :: x5 :: x6 :: x7 :: x8 :: x9 :: x10 :: x11 :: x12 :: x13 :: x14 :: x15 :: x16 :: x17 :: x18 :: x19 :: x20 :: .own ds :: r) Q ↔ Q (.lst ds) (x0 :: x1 :: x2 :: x3 :: x4 :: x5 :: x6 :: x7 :: x8 :: x9 :: x10 :: x11 :: x12 :: x13 :: x14 :: x15 :: x16 :: x17 :: x18 :: x19 :: x20 :: .val (.lst ds) :: r) := PV.ho21
theorem hs21 {x0 x1 x2 x3 x4 x5 x6 x7 x8 x9 x10 x11 x12 x13 x14 x15 x16 x17 x18 x19 x20 x : Sl} : setw (x0 :: x1 :: x2 :: x3 :: x4 :: x5 :: x6 :: x7 :: x8 :: x9 :: x10 :: x11 :: x12 :: x13 :: x14 :: x15 :: x16 :: x17 :: x18 :: x19 :: x20 :: x :: r) 21 s K ↔ K (x0 :: x1 :: x2 :: x3 :: x4 :: x5 :: x6 :: x7 :: x8 :: x9 :: x10 :: x11 :: x12 :: x13 :: x14 :: x15 :: x16 :: x17 :: x18 :: x19 :: x20 :: s :: r) := PV.hs21
theorem hr21 {x0 x1 x2 x3 x4 x5 x6 x7 x8 x9 x10 x11 x12 x13 x14 x15 x16 x17 x18 x19 x20 : Sl} : ownr (x0 :: x1 :: x2 :: x3 :: x4 :: x5 :: x6 :: x7 :: x8 :: x9 :: x10 :: x11 :: x12 :: x13 :: x14 :: x15 :: x16 :: x17 :: x18 :: x19 :: x20 :: .own L :: r) 21 P ↔ P L := PV.hr21
theorem hv22 {x0 x1 x2 x3 x4 x5 x6 x7 x8 x9 x10 x11 x12 x13 x14 x15 x16 x17 x18 x19 x20 x21 : Sl} : wp (dVar 22) (x0 :: x1 :: x2 :: x3 :: x4 :: x5 :: x6 :: x7 :: x8 :: x9 :: x10 :: x11 :: x12 :: x13 :: x14 :: x15 :: x16 :: x17 :: x18 :: x19 :: x20 :: x21 :: .val d :: r) Q ↔ Q d (x0 :: x1 :: x2 :: x3 :: x4 :: x5 :: x6 :: x7 :: x8 :: x9 :: x10 :: x11 :: x12 :: x13 :: x14 :: x15 :: x16 :: x17 :: x18 :: x19 :: x20 :: x21 :: .val d :: r) := PV.hv22
theorem ho22 {x0 x1 x2 x3 x4 x5 x6 x7 x8 x9 x10 x11 x12 x13 x14 x15 x16 x17 x18 x19 x20 x21 : Sl} : wp (dVar 22) (x0 :: x1 :: x2 :: x3 :: x4 :: x5 :: x6 :: x7 :: x8 :: x9 :: x10 :: x11 :: x12 :: x13 :: x14 :: x15 :: x16 :: x17 :: x18 :: x19 :: x20 :: x21 :: .own ds :: r) Q ↔ Q (.lst ds) (x0 :: x1 :: x2 :: x3 :: x4 :: x5 :: x6 :: x7 :: x8 :: x9 :: x10 :: x11 :: x12 :: x13 :: x14 :: x15 :: x16 :: x17 :: x18 :: x19 :: x20 :: x21 :: .val (.lst ds) :: r) := PV.ho22
theorem hs22 {x0 x1 x2 x3 x4 x5 x6 x7 x8 x9 x10 x11 x12 x13 x14 x15 x16 x17 x18 x19 x20 x21 x : Sl} : setw (x0 :: x1 :: x2 :: x3 :: x4 :: x5 :: x6 :: x7 :: x8 :: x9 :: x10 :: x11 :: x12 :: x13 :: x14 :: x15 :: x16 :: x17 :: x18 :: x19 :: x20 :: x21 :: x :: r) 22 s K ↔ K (x0 :: x1 :: x2 :: x3 :: x4 :: x5 :: x6 :: x7 :: x8 :: x9 :: x10 :: x11 :: x12 :: x13 :: x14 :: x15 :: x16 :: x17 :: x18 :: x19 :: x20 :: x21 :: s :: r) := PV.hs22
theorem hr22 {x0 x1 x2 x3 x4 x5 x6 x7 x8 x9 x10 x11 x12 x13 x14 x15 x16 x17 x18 x19 x20 x21 : Sl} : ownr (x0 :: x1 :: x2 :: x3 :: x4 :: x5 :: x6 :: x7 :: x8 :: x9 :: x10 :: x11 :: x12 :: x13 :: x14 :: x15 :: x16 :: x17 :: x18 :: x19 :: x20 :: x21 :: .own L :: r) 22 P ↔ P L := PV.hr22
theorem hv23 {x0 x1 x2 x3 x4 x5 x6 x7 x8 x9 x10 x11 x12 x13 x14 x15 x16 x17 x18 x19 x20 x21 x22 : Sl} : wp (dVar 23) (x0 :: x1 :: x2 :: x3 :: x4 :: x5 :: x6 :: x7 :: x8 :: x9 :: x10 :: x11 :: x12 :: x13 :: x14 :: x15 :: x16 :: x17 :: x18 :: x19 :: x20 :: x21 :: x22 :: .val d :: r) Q ↔ Q d (x0 :: x1 :: x2 :: x3 :: x4 :: x5 :: x6 :: x7 :: x8 :: x9 :: x10 :: x11 :: x12 :: x13 :: x14 :: x15 :: x16 :: x17 :: x18 :: x19 :: x20 :: x21 :: x22 :: .val d :: r) := PV.hv23
theorem ho23 {x0 x1 x2 x3 x4 x5 x6 x7 x8 x9 x10 x11 x12 x13 x14 x15 x16 x17 x18 x19 x20 x21 x22 : Sl} : wp (dVar 23) (x0 :: x1 :: x2 :: x3 :: x4 :: x5 :: x6 :: x7 :: x8 :: x9 :: x10 :: x11 :: x12 :: x13 :: x14 :: x15 :: x16 :: x17 :: x18 :: x19 :: x20 :: x21 :: x22 :: .own ds :: r) Q ↔ Q (.lst ds) (x0 :: x1 :: x2 :: x3 :: x4 :: x5 :: x6 :: x7 :: x8 :: x9 :: x10 :: x11 :: x12 :: x13 :: x14 :: x15 :: x16 :: x17 :: x18 :: x19 :: x20 :: x21 :: x22 :: .val (.lst ds) :: r) := PV.ho23
theorem hs23 {x0 x1 x2 x3 x4 x5 x6 x7 x8 x9 x10 x11 x12 x13 x14 x15 x16 x17 x18 x19 x20 x21 x22 x : Sl} : setw (x0 :: x1 :: x2 :: x3 :: x4 :: x5 :: x6 :: x7 :: x8 :: x9 :: x10 :: x11 :: x12 :: x13 :: x14 :: x15 :: x16 :: x17 :: x18 :: x19 :: x20 :: x21 :: x22 :: x :: r) 23 s K ↔ K (x0 :: x1 :: x2 :: x3 :: x4 :: x5 :: x6 :: x7 :: x8 :: x9 :: x10 :: x11 :: x12 :: x13 :: x14 :: x15 :: x16 :: x17 :: x18 :: x19 :: x20 :: x21 :: x22 :: s :: r) := PV.hs23
theorem hr23 {x0 x1 x2 x3 x4 x5 x6 x7 x8 x9 x10 x11 x12 x13 x14 x15 x16 x17 x18 x19 x20 x21 x22 : Sl} : ownr (x0 :: x1 :: x2 :: x3 :: x4 :: x5 :: x6 :: x7 :: x8 :: x9 :: x10 :: x11 :: x12 :: x13 :: x14 :: x15 :: x16 :: x17 :: x18 :: x19 :: x20 :: x21 :: x22 :: .own L :: r) 23 P ↔ P L := PV.hr23
theorem hv24 {x0 x1 x2 x3 x4 x5 x6 x7 x8 x9 x10 x11 x12 x13 x14 x15 x16 x17 x18 x19 x20 x21 x22 x23 : Sl} : wp (dVar 24) (x0 :: x1 :: x2 :: x3 :: x4 :: x5 :: x6 :: x7 :: x8 :: x9 :: x10 :: x11 :: x12 :: x13 :: x14 :: x15 :: x16 :: x17 :: x18 :: x19 :: x20 :: x21 :: x22 :: x23 :: .val d :: r) Q ↔ Q d (x0 :: x1 :: x2 :: x3 :: x4 :: x5 :: x6 :: x7 :: x8 :: x9 :: x10 :: x11 :: x12 :: x13 :: x14 :: x15 :: x16 :: x17 :: x18 :: x19 :: x20 :: x21 :: x22 :: x23 :: .val d :: r) := PV.hv24
theorem ho24 {x0 x1 x2 x3 x4 x5 x6 x7 x8 x9 x10 x11 x12 x13 x14 x15 x16 x17 x18 x19 x20 x21 x22 x23 : Sl} : wp (dVar 24) (x0 :: x1 :: x2 :: x3 :: x4 :: x5 :: x6 :: x7 :: x8 :: x9 :: x10 :: x11 :: x12 :: x13 :: x14 :: x15 :: x16 :: x17 :: x18 :: x19 :: x20 :: x21 :: x22 :: x23 :: .own ds :: r) Q ↔ Q (.lst ds) (x0 :: x1 :: x2 :: x3 :: x4 :: x5 :: x6 :: x7 :: x8 :: x9 :: x10 :: x11 :: x12 :: x13 :: x14 :: x15 :: x16 :: x17 :: x18 :: x19 :: x20 :: x21 :: x22 :: x23 :: .val (.lst ds) :: r) := PV.ho24
theorem hs24 {x0 x1 x2 x3 x4 x5 x6 x7 x8 x9 x10 x11 x12 x13 x14 x15 x16 x17 x18 x19 x20 x21 x22 x23 x : Sl} : setw (x0 :: x1 :: x2 :: x3 :: x4 :: x5 :: x6 :: x7 :: x8 :: x9 :: x10 :: x11 :: x12 :: x13 :: x14 :: x15 :: x16 :: x17 :: x18 :: x19 :: x20 :: x21 :: x22 :: x23 :: x :: r) 24 s K ↔ K (x0 :: x1 :: x2 :: x3 :: x4 :: x5 :: x6 :: x7 :: x8 :: x9 :: x10 :: x11 :: x12 :: x13 :: x14 :: x15 :: x16 :: x17 :: x18 :: x19 :: x20 :: x21 :: x22 :: x23 :: s :: r) := PV.hs24
theorem hr24 {x0 x1 x2 x3 x4 x5 x6 x7 x8 x9 x10 x11 x12 x13 x14 x15 x16 x17 x18 x19 x20 x21 x22 x23 : Sl} : ownr (x0 :: x1 :: x2 :: x3 :: x4 :: x5 :: x6 :: x7 :: x8 :: x9 :: x10 :: x11 :: x12 :: x13 :: x14 :: x15 :: x16 :: x17 :: x18 :: x19 :: x20 :: x21 :: x22 :: x23 :: .own L :: r) 24 P ↔ P L := PV.hr24
theorem hv25 {x0 x1 x2 x3 x4 x5 x6 x7 x8 x9 x10 x11 x12 x13 x14 x15 x16 x17 x18 x19 x20 x21 x22 x23 x24 : Sl} : wp (dVar 25) (x0 :: x1 :: x2 :: x3 :: x4 :: x5 :: x6 :: x7 :: x8 :: x9 :: x10 :: x11 :: x12 :: x13 :: x14 :: x15 :: x16 :: x17 :: x18 :: x19 :: x20 :: x21 :: x22 :: x23 :: x24 :: .val d :: r) Q ↔ Q d (x0 :: x1 :: x2 :: x3 :: x4 :: x5 :: x6 :: x7 :: x8 :: x9 :: x10 :: x11 :: x12 :: x13 :: x14 :: x15 :: x16 :: x17 :: x18 :: x19 :: x20 :: x21 :: x22 :: x23 :: x24 :: .val d :: r) := PV.hv25
theorem ho25 {x0 x1 x2 x3 x4 x5 x6 x7 x8 x9 x10 x11 x12 x13 x14 x15 x16 x17 x18 x19 x20 x21 x22 x23 x24 : Sl} : wp (dVar 25) (x0 :: x1 :: x2 :: x3 :: x4 :: x5 :: x6 :: x7 :: x8 :: x9 :: x10 :: x11 :: x12 :: x13 :: x14 :: x15 :: x16 :: x17 :: x18 :: x19 :: x20 :: x21 :: x22 :: x23 :: x24 :: .own ds :: r) Q ↔ Q (.lst ds) (x0 :: x1 :: x2 :: x3 :: x4 :: x5 :: x6 :: x7 :: x8 :: x9 :: x10 :: x11 :: x12 :: x13 :: x14 :: x15 :: x16 :: x17 :: x18 :: x19 :: x20 :: x21 :: x22 :: x23 :: x24 :: .val (.lst ds) :: r) := PV.ho25
theorem hs25 {x0 x1 x2 x3 x4 x5 x6 x7 x8 x9 x10 x11 x12 x13 x14 x15 x16 x17 x18 x19 x20 x21 x22 x23 x24 x : Sl} : setw (x0 :: x1 :: x2 :: x3 :: x4 :: x5 :: x6 :: x7 :: x8 :: x9 :: x10 :: x11 :: x12 :: x13 :: x14 :: x15 :: x16 :: x17 :: x18 :: x19 :: x20 :: x21 :: x22 :: x23 :: x24 :: x :: r) 25 s K ↔ K (x0 :: x1 :: x2 :: x3 :: x4 :: x5 :: x6 :: x7 :: x8 :: x9 :: x10 :: x11 :: x12 :: x13 :: x14 :: x15 :: x16 :: x17 :: x18 :: x19 :: x20 :: x21 :: x22 :: x23 :: x24 :: s :: r) := PV.hs25
theorem hr25 {x0 x1 x2 x3 x4 x5 x6 x7 x8 x9 x10 x11 x12 x13 x14 x15 x16 x17 x18 x19 x20 x21 x22 x23 x24 : Sl} : ownr (x0 :: x1 :: x2 :: x3 :: x4 :: x5 :: x6 :: x7 :: x8 :: x9 :: x10 :: x11 :: x12 :: x13 :: x14 :: x15 :: x16 :: x17 :: x18 :: x19 :: x20 :: x21 :: x22 :: x23 :: x24 :: .own L :: r) 25 P ↔ P L := PV.hr25
theorem hv26 {x0 x1 x2 x3 x4 x5 x6 x7 x8 x9 x10 x11 x12 x13 x14 x15 x16 x17 x18 x19 x20 x21 x22 x23 x24 x25 : Sl} : wp (dVar 26) (x0 :: x1 :: x2 :: x3 :: x4 :: x5 :: x6 :: x7 :: x8 :: x9 :: x10 :: x11 :: x12 :: x13 :: x14 :: x15 :: x16 :: x17 :: x18 :: x19 :: x20 :: x21 :: x22 :: x23 :: x24 :: x25 :: .val d :: r) Q ↔ Q d (x0 :: x1 :: x2 :: x3 :: x4 :: x5 :: x6 :: x7 :: x8 :: x9 :: x10 :: x11 :: x12 :: x13 :: x14 :: x15 :: x16 :: x17 :: x18 :: x19 :: x20 :: x21 :: x22 :: x23 :: x24 :: x25 :: .val d :: r) := PV.hv26
theorem ho26 {x0 x1 x2 x3 x4 x5 x6 x7 x8 x9 x10 x11 x12 x13 x14 x15 x16 x17 x18 x19 x20 x21 x22 x23 x24 x25 : Sl} : wp (dVar 26) (x0 :: x1 :: x2 :: x3 :: x4 :: x5 :: x6 :: x7 :: x8 :: x9 :: x10 :: x11 :: x12 :: x13 :: x14 :: x15 :: x16 :: x17 :: x18 :: x19 :: x20 :: x21 :: x22 :: x23 :: x24 :: x25 :: .own ds :: r) Q ↔ Q (.lst ds) (x0 :: x1 :: x2 :: x3 :: x4 :: x5 :: x6 :: x7 :: x8 :: x9 :: x10 :: x11 :: x12 :: x13 :: x14 :: x15 :: x16 :: x17 :: x18 :: x19 :: x20 :: x21 :: x22 :: x23 :: x24 :: x25 :: .val (.lst ds) :: r) := PV.ho26
theorem hs26 {x0 x1 x2 x3 x4 x5 x6 x7 x8 x9 x10 x11 x12 x13 x14 x15 x16 x17 x18 x19 x20 x21 x22 x23 x24 x25 x : Sl} : setw (x0 :: x1 :: x2 :: x3 :: x4 :: x5 :: x6 :: x7 :: x8 :: x9 :: x10 :: x11 :: x12 :: x13 :: x14 :: x15 :: x16 :: x17 :: x18 :: x19 :: x20 :: x21 :: x22 :: x23 :: x24 :: x25 :: x :: r) 26 s K ↔ K (x0 :: x1 :: x2 :: x3 :: x4 :: x5 :: x6 :: x7 :: x8 :: x9 :: x10 :: x11 :: x12 :: x13 :: x14 :: x15 :: x16 :: x17 :: x18 :: x19 :: x20 :: x21 :: x22 :: x23 :: x24 :: x25 :: s :: r) := PV.hs26
theorem hr26 {x0 x1 x2 x3 x4 x5 x6 x7 x8 x9 x10 x11 x12 x13 x14 x15 x16 x17 x18 x19 x20 x21 x22 x23 x24 x25 : Sl} : ownr (x0 :: x1 :: x2 :: x3 :: x4 :: x5 :: x6 :: x7 :: x8 :: x9 :: x10 :: x11 :: x12 :: x13 :: x14 :: x15 :: x16 :: x17 :: x18 :: x19 :: x20 :: x21 :: x22 :: x23 :: x24 :: x25 :: .own L :: r) 26 P ↔ P L := PV.hr26
theorem hv27 {x0 x1 x2 x3 x4 x5 x6 x7 x8 x9 x10 x11 x12 x13 x14 x15 x16 x17 x18 x19 x20 x21 x22 x23 x24 x25 x26 : Sl} : wp (dVar 27) (x0 :: x1 :: x2 :: x3 :: x4 :: x5 :: x6 :: x7 :: x8 :: x9 :: x10 :: x11 :: x12 :: x13 :: x14 :: x15 :: x16 :: x17 :: x18 :: x19 :: x20 :: x21 :: x22 :: x23 :: x24 :: x25 :: x26 :: .val d :: r) Q ↔ Q d (x0 :: x1 :: x2 :: x3 :: x4 :: x5 :: x6 :: x7 :: x8 :: x9 :: x10 :: x11 :: x12 :: x13 :: x14 :: x15 :: x16 :: x17 :: x18 :: x19 :: x20 :: x21 :: x22 :: x23 :: x24 :: x25 :: x26 :: .val d :: r) := PV.hv27
theorem ho27 {x0 x1 x2 x3 x4 x5 x6 x7 x8 x9 x10 x11 x12 x13 x14 x15 x16 x17 x18 x19 x20 x21 x22 x23 x24 x25 x26 : Sl} : wp (dVar 27) (x0 :: x1 :: x2 :: x3 :: x4 :: x5 :: x6 :: x7 :: x8 :: x9 :: x10 :: x11 :: x12 :: x13 :: x14 :: x15 :: x16 :: x17 :: x18 :: x19 :: x20 :: x21 :: x22 :: x23 :: x24 :: x25 :: x26 :: .own ds :: r) Q ↔ Q (.lst ds) (x0 :: x1 :: x2 :: x3 :: x4 :: x5 :: x6 :: x7 :: x8 :: x9 :: x10 :: x11 :: x12 :: x13 :: x14 :: x15 :: x16 :: x17 :: x18 :: x19 :: x20 :: x21 :: x22 :: x23 :: x24 :: x25 :: x26 :: .val (.lst ds) :: r) := PV.ho27
theorem hs27 {x0 x1 x2 x3 x4 x5 x6 x7 x8 x9 x10 x11 x12 x13 x14 x15 x16 x17 x18 x19 x20 x21 x22 x23 x24 x25 x26 x : Sl} : setw (x0 :: x1 :: x2 :: x3 :: x4 :: x5 :: x6 :: x7 :: x8 :: x9 :: x10 :: x11 :: x12 :: x13 :: x14 :: x15 :: x16 :: x17 :: x18 :: x19 :: x20 :: x21 :: x22 :: x23 :: x24 :: x25 :: x26 :: x :: r) 27 s K ↔ K (x0 :: x1 :: x2 :: x3 :: x4 :: x5 :: x6 :: x7 :: x8 :: x9 :: x10 :: x11 :: x12 :: x13 :: x14 :: x15 :: x16 :: x17 :: x18 :: x19 :: x20 :: x21 :: x22 :: x23 :: x24 :: x25 :: x26 :: s :: r) := PV.hs27
theorem hr27 {x0 x1 x2 x3 x4 x5 x6 x7 x8 x9 x10 x11 x12 x13 x14 x15 x16 x17 x18 x19 x20 x21 x22 x23 x24 x25 x26 : Sl} : ownr (x0 :: x1 :: x2 :: x3 :: x4 :: x5 :: x6 :: x7 :: x8 :: x9 :: x10 :: x11 :: x12 :: x13 :: x14 :: x15 :: x16 :: x17 :: x18 :: x19 :: x20 :: x21 :: x22 :: x23 :: x24 :: x25 :: x26 :: .own L :: r) 27 P ↔ P L := PV.hr27
variable {fj : M (List PV.It)} {QI : List PV.It → En → Prop} {fn : M (List D)}
theorem hp_iNil : wp iNil ρ QI ↔ QI [] ρ := PV.hp_iNil
theorem hp_iD : wp (iD fa fj) ρ QI ↔ wp fa ρ fun x r => wp fj r fun xs r2 => QI (.d x :: xs) r2 := PV.hp_iD
theorem hp_iN : wp (iN fn fj) ρ QI ↔ wp fn ρ fun x r => wp fj r fun xs r2 => QI (.n x :: xs) r2 := PV.hp_iN
def i2w  (ds : List PV.It) (P : PV.It → PV.It → Prop) (_b0 : Bx P := ⟨⟩) : Prop := PV.i2w ds P
def i3w  (ds : List PV.It) (P : PV.It → PV.It → PV.It → Prop) (_b0 : Bx P := ⟨⟩) : Prop := PV.i3w ds P
theorem i2w_mk {x y : PV.It} {P : PV.It → PV.It → Prop} : i2w [x, y] P ↔ P x y := PV.i2w_mk
theorem i3w_mk {x y z : PV.It} {P : PV.It → PV.It → PV.It → Prop} : i3w [x, y, z] P ↔ P x y z := PV.i3w_mk
theorem hp_j2 : wp (mJ2 i j fj) ρ QF ↔ wp fj ρ fun ds r => i2w ds fun x y => setw r i x.sl fun r2 => setw r2 j y.sl fun r3 => QF .nx r3 := PV.hp_j2
theorem hp_j3 : wp (mJ3 i j l fj) ρ QF ↔ wp fj ρ fun ds r => i3w ds fun x y z => setw r i x.sl fun r2 => setw r2 j y.sl fun r3 => setw r3 l z.sl fun r4 => QF .nx r4 := PV.hp_j3
theorem setw_d {x : D} : setw r i (It.sl (.d x)) K ↔ setw r i (.val x) K := PV.setw_d
theorem setw_n {x : List D} : setw r i (It.sl (.n x)) K ↔ setw r i (.own x) K := PV.setw_n
theorem hp_listN : wp (mListN fa) ρ QL ↔ wp fa ρ fun d r => ow d.items? fun ds => QL ds r := PV.hp_listN
theorem ow_bits {a : Int} {P : D → Prop} : ow (dBits (.int a)) P ↔ P (.int (Builtin.Int.intBits a : Nat)) := PV.ow_bits
theorem ow_pow' {a b : Int} {P : D → Prop} (h0 : 0 ≤ b) (h1 : b ≤ 100000) (h2 : -1000000000000 < a) (h3 : a < 1000000000000) : ow (dPow (.int a) (.int b)) P ↔ P (.int (a ^ b.toNat)) := PV.ow_pow' h0 h1 h2 h3
theorem ow_zip_tup {xs ys : List D} {P : List D → Prop} : ow (zip2 [.tup xs, .tup ys]) P ↔ P (pairs xs ys) := PV.ow_zip_tup
theorem ow_zip_lst {xs ys : List D} {P : List D → Prop} : ow (zip2 [.lst xs, .lst ys]) P ↔ P (pairs xs ys) := PV.ow_zip_lst
theorem ow_repT5 {x : D} {P : D → Prop} : ow (dMul (.tup [x]) (.int 5)) P ↔ P (.tup [x, x, x, x, x]) := PV.ow_repT5
end
variable [Tb]
def eiw  (s : Option Sl) (p q : Prop) (_b0 : Bx p := ⟨⟩) (_b1 : Bx q := ⟨⟩) : Prop := PV.eiw s p q
theorem hp_ei {α : Type} {j : Nat} {f g : M α} {ρ : En} {Q : α → En → Prop} : wp (mEi j f g) ρ Q ↔ eiw ρ[j]? (wp f ρ Q) (wp g ρ Q) := PV.hp_ei
theorem eiw_own {L : List D} {p q : Prop} : eiw (some (.own L)) p q ↔ p := PV.eiw_own
theorem eiw_val {d : D} {p q : Prop} : eiw (some (.val d)) p q ↔ q := PV.eiw_val
end PB
/-! a tuple with a starred tuple in it -/
namespace PV
open PySem PySem.Spec PyProof.Rows L2
end PV
/-! plain records: classes whose __init__ sets three attributes; attributes read, methods called -/
namespace PV
open PySem PySem.Spec PyProof.Rows L2
variable [Tb]
/-- the datum of an attribute -/
def ixF (f : Str) : List Str → List D → Option D
  | n :: ns, d :: ds => if f = n then some d else ixF f ns ds
  | _, _ => none
section
variable {m : Addr → Prop} {K : PySem.W.Frag} {g : Str → Option Value} {H : Hp}
theorem fld_get {f : Str} : ∀ {fs : List (Str × V)} {ds : List D} {d : D}, RpA m K g H (fs.map (·.2)) ds → ixF f (fs.map (·.1)) ds = some d → ∃ v, fs.lookup f = some v ∧ Rp m K g H v d
  | [], ds, d, h, e => by cases ds <;> cases e
  | (n, v) :: fs, ds, d, h, e => by
    cases h with
    | cons h1 h2 =>
      rw [List.map_cons] at e
      unfold ixF at e
      rw [List.lookup_cons]
      by_cases hn : f = n
      · rw [if_pos hn] at e
        cases e
        subst hn
        exact ⟨v, by simp, h1⟩
      · rw [if_neg hn] at e
        obtain ⟨w, l, r⟩ := fld_get h2 e
        refine ⟨w, ?_, r⟩
        have : (f == n) = false := by simpa using hn
        rw [this]
        exact l
end
/-! ### methods -/
/-! ### records made -/
end PV
/-! x = zip(a, b) of two tuples, a comprehension over x next to it -/
namespace PV
open PySem PySem.Spec PyProof.Rows L2
variable [Tb]
/-! ### several things tracked at once -/
/-! ### a zip that is tracked -/
def QO (T : Addr) (u v : Value) : HO := .ext fun h => IsPair h T u v
end PV
/-! x = zip(a, b) of two tuples, a comprehension over x next to it: the statements -/
namespace PV
open PySem PySem.Spec PyProof.Rows L2
variable [Tb]
def clsBody : Stmt → List Stmt
  | .ClassDef _ _ _ body _ _ _ _ _ _ _ => body
  | _ => []
end PV
namespace PV
open PySem PySem.Spec PyProof.Rows L2
variable [Tb]
/-! ### the head of a text with classes: two steps from the top, the classes' dicts, their methods' codes -/
/-- what the dict of the class of a method names -/
def clsRefs (g : Addr → Option Obj) (K : PySem.W.Frag) (d : He.DefD) : List Addr := match d.at_.2 with
  | none => []
  | some _ => match g (He.ga K d.at_.1) with
    | some ⟨_, _, .cls cd, _⟩ => (match g cd.ns with
      | some o => He.refsD o
      | none => [])
    | _ => []
/-- what a method names -/
def mthRefs (g : Addr → Option Obj) (K : PySem.W.Frag) (d : He.DefD) : List Addr := match d.at_.2 with
  | none => []
  | some _ => match g (He.fAd K d.at_) with
    | some o => He.refsD o
    | none => []
/-- what the parts of a constant tuple name -/
def conRefs (g : Addr → Option Obj) (a : Addr) : List Addr := match g a with
  | some ⟨_, _, .seq its _, _⟩ => its.toList.flatMap fun v => match v with
    | .ref b => (match g b with
      | some ⟨_, _, .seq js _, _⟩ => js.toList.flatMap He.refV
      | _ => [])
    | _ => []
  | _ => []
def asM (g : Addr → Option Obj) (fa : List Fp) (fn : List He.DefD) : List Addr :=
  let a2 := He.asD g 2
  let a3 := a2 ++ (fn.flatMap fun d => clsRefs g (He.frG g a2) d).eraseDups
  a3 ++ ((fn.flatMap fun d => mthRefs g (He.frG g a3) d).eraseDups ++ fa.flatMap fun f => match f with
    | .con x _ => conRefs g (He.ga (He.frG g a2) x)
    | _ => [])
/-! the run read in parts: one part of the facts at a time -/
open HandSHeadRun in
def LkE (r : PySem.W.OpenRow) (q : Program) (M : Nat) (loose : List PySem.Str) (w : World) : Prop :=
  (wholeF (fun p => stepQ (denQ tabQ) p w) fenceQ M r.prog).map (fun x => (looksF r.prog x.1.heap x.2.abs, HandSHeadRun.seenQ q loose (importedModules r.prog.main.body) (fun s => PySem.W.xlAt q [] s && PySem.W.recOk r.toRowW.records s) x.2.abs)) = some (true, PySem.W.openGood q loose)
end PV
namespace PV
open PySem PySem.Spec PyProof.Rows L2
/-! ### x in xs, x not in xs: data of any depth in a list or a tuple -/
end PV
/-! a dict of five texts, made and filled in three statements, one value handed back -/
namespace PV
open PySem PySem.Spec PyProof.Rows L2
variable [Tb]
section
variable {X : Cx} {W : WX} {fx : List Nat} {m₀ : Addr → Prop} {K : PySem.W.Frag} {g : Str → Option Value} {H H1 : Hp} {σ σ1 : L2.St} {ρ ρ1 : En} {p : Addr} {o : HO}
theorem Stp.at_ {a : Addr} (r : Rel m₀ K g H σ ρ) (s : Stp σ ρ H σ1 ρ1 H1) (hp : m₀ a) {o : HO} (e : H a = some o) (nt : ∀ ps, o ≠ .tbl ps := by simp) : H1 a = some o :=
  s.keep a o (fun ⟨j, es, a1, a2⟩ => by
    obtain ⟨q, ws, b1, b2, _, _⟩ := r.own j es a1
    rw [a2] at b1; cases b1
    exact b2 hp) e nt
variable {x x1 x2 x3 x4 x5 : Str} {e1 e2 e3 et ek : Expr} {f1 f2 f3 ft fk : M D} {k1 k2 k3 k4 k5 kt : Nat} {q1 q2 q3 q4 q5 px p2 p3 p4 p5 dpos pos1 pos2 pos3 pos4 s2 s4 s5 tp rp : Pos}
end
end PV
namespace PV
open PySem PySem.Spec PyProof.Rows L2
variable [Tb]
/-! ### sorted(xs): alike data of any depth, xs a list or a tuple -/
theorem DpAll.len {K : PySem.W.Frag} {H : Hp} : ∀ {xs : List V} {ps : List PyData}, DpAll K H xs ps → xs.length = ps.length
  | _, _, .nil => rfl
  | _, _, .cons _ h => by rw [List.length_cons, List.length_cons, DpAll.len h]
/-! on data -/
theorem pyA_map : ∀ ds : List D, D.pyA ds = ds.map D.py
  | [] => rfl
  | d :: ds => by
    show D.py d :: D.pyA ds = _
    rw [pyA_map ds]; rfl
end PV
/-! a class whose __init__ sets a first attribute by a call, perhaps over again from itself, and a second one from the first -/
namespace PV
open PySem PySem.Spec PyProof.Rows L2
/-! ### while it is being made: its place a is forbidden, its first attribute reads as c -/
/-! ### the __init__ -/
end PV
/-! reversed(x), reversed(range(n)), a new list [0] * n, an owned list compared with [] -/
namespace PV
open PySem PySem.Spec PyProof.Rows L2
end PV
/-! range(i, j, 2) -/
namespace PV
open PySem PySem.Spec PyProof.Rows L2
end PV
/-! range(i, j, -1); i << j -/
namespace PV
open PySem PySem.Spec PyProof.Rows L2
/-! i << j -/
end PV
/-! a lambda with one parameter, handed to a def -/
namespace PV
open PySem PySem.Spec PyProof.Rows L2 LamX
end PV
/-! an own error with one attribute, raised: class x(..): def __init__(self, f): self.f = f -/
namespace PV
open PySem PySem.Spec PySem.W PySem.Calls PyProof.Rows PySem.HandSPX L2
/-! ### the text of __init__ -/
def giA (f : Str) (p1 p2 : Pos) : Arguments := { posonlyargs := [], args := [{ arg := "self", annotation := none, pos := p1 }, { arg := f, annotation := none, pos := p2 }], vararg := none, kwonlyargs := [], kw_defaults := [], kwarg := none, defaults := [] }
def giB (f : Str) (q1 q2 q3 q4 : Pos) : List Stmt := [.Assign [.Attribute (.Name "self" q1) f q2] (.Name f q3) q4]
def giS (f : Str) : Scope := { kind := .function, names := [("self", .local), (f, .local)], isGenerator := false, isCoroutine := false, more := [] }
/-- what the written part says of the class at C, and of its __init__, at fI -/
structure GivC (K : PySem.W.Frag) (C fI : Addr) (q f : Str) : Prop where
  cls : ∃ nm q N bs bm sn sub ab col dd k0 k1 k2 k3 k5, K.lookup C = some (excClassObj nm q C N bs bm true sn sub ab col dd k0 k1 k2 k3 k5 "ValueError.__new__") ∧ refsVE bm = true
  sa : findIn K (.ref C) "__setattr__" = some (some (.builtin "object.__setattr__"))
  ga : findIn K (.ref C) "__getattribute__" = some (some (.builtin "BaseException.__getattribute__"))
  gg : findIn K (.ref C) "__getattr__" = some none
  noN : findIn K (.ref C) f = some none
  iC : findIn K (.ref C) "__init__" = some (some (.ref fI))
  tC : typeIn K (.ref fI) = some (.type "function")
  kC : keepIn K (.ref C) = true
  exC : subIn K (.ref C) (.type "BaseException") = some true
  tyC : typeIn K (.ref C) = some (.type "type")
  hdC : hasDictIn K C = true
  fn : ∃ (oc : Value) (od : Option Addr) (kV doc pm : Value) (an : Option Addr) (cdv ct : Value) (osl : Array (Option Value)) (p1 p2 q1 q2 q3 q4 : Pos),
    K.lookup fI = some ⟨oc, od, .func (fnOf "__init__" q (giA f p1 p2) (giB f q1 q2 q3 q4) (giS f) .none kV doc pm an cdv ct), osl⟩ ∧ codeIn K cdv q = true
theorem one_size (v : Value) : [v].length ≤ sizeLine := by
  rw [sizeLine_eq]
  exact (by decide : 1 ≤ 16777216)
theorem ldC {M : Model} {s : Shared} {name : Str} {scope : Scope} {L a : Addr} {cd : Value} {m : Str → Option Value} {x : Str} {pos : Pos} {v : Value} {Q : Value → Shared → Prop} {A : Around} {E : Value → Shared → Prop} (hn : s.heap.Ns L m) (hv : m x = some v) (h : Q v s)
    (hk : scope.kind = .function) (hl : (envOfC name scope L a cd).kindOf x = some .local) (hd : (x == ("__debug__" : Str)) = false) :
    wpAny M A (eval (.Name x pos) (envOfC name scope L a cd)) Q E s := wpAny_Name (wpAny_loadName_local hk hl hn hv h) hd
/-- what __init__ leaves of a fresh exception at x -/
structure GivEnd (f : Str) (h h' : Heap) (x C dx t1 : Addr) (v : Value) : Prop where
  keep : ∀ b o, b ≠ x → h.get? b = some o → h'.get? b = some o
  obj : h'.get? x = some { cls := .ref C, dict := some dx, data := .fields #[.ref t1, .none, .none, .none, .bool false, .none] }
  dbig : h.objs.size ≤ dx
  dne : dx ≠ x
  ns : h'.Ns1 dx (fun y => if y = f then some v else none)
/-- a made one -/
structure GivMade (f : Str) (h h' : Heap) (e C d : Addr) (v : Value) : Prop where
  keep : ∀ b o, h.get? b = some o → h'.get? b = some o
  new : h.objs.size ≤ e
  obj : ∃ oe vs, h'.get? e = some oe ∧ oe.cls = .ref C ∧ oe.dict = some d ∧ oe.data = .fields vs ∧ vs[1]? = some .none
  dbig : h.objs.size ≤ d
  dne : d ≠ e
  ns : h'.Ns1 d (fun y => if y = f then some v else none)
/-- a name that may be an attribute's -/
def okF (f : Str) : Prop := f = "given" ∨ f = "index"
section
variable {prog : Program} {w : World} {A : Around} {E : Value → Shared → Prop} {R : Result → Shared → Prop} {s : Shared} {K : PySem.W.Frag} {C fI : Addr} {q f : Str}
theorem giv_init (hf : okF f) (T : GivC K C fI q f) {x t0 : Addr} {v : Value} (X : K.In s.heap) (hlim : s.heap.NoLimit) (hx : s.heap.get? x = some (excO C t0)) (hnx : K.lookup x = none) (hroom : A.depth < recursionLimit)
    (hq : ∀ h' tk dx, GivEnd f s.heap h' x C dx t0 v → R (.ok (.ret .none)) { s with heap := h', toks := tk }) :
    codeAny (model prog w) A (.call (.ref fI) ⟨[.ref x, v], []⟩) R s := by
  obtain ⟨nm, q', N, bs, bm, sn, sub, ab, col, dd, k0, k1, k2, k3, k5, hC, hbm⟩ := T.cls
  have hcl : clsIn K C = some { name := nm, bases := bs, mro := .ref C :: bm, ns := N, qualname := q', hasDict := true, slotNames := sn, subclasses := sub, abstract := ab, collection := col, hasDel := false } := by unfold clsIn; rw [hC] <;> rfl
  have hxL : s.heap.objs.size ≠ x := Nat.ne_of_gt (Heap.lt_size hx)
  rcases hf with rfl | rfl
  all_goals
    obtain ⟨oc, od, kV, doc, pm, an, cdv, ct, osl, p1, p2, q1, q2, q3, q4, ho, hcd⟩ := T.fn
  · refine Att.call_fn (binds := [("self", .ref x), ("given", v)]) X hlim ho hcd hroom (BindsTo.of_eq (by first | rfl | with_unfolding_all rfl)) (by first | rfl | decide | with_unfolding_all rfl) (fun s₁ IC => ?_) rfl rfl rfl
    obtain ⟨h₁, tk₁, rfl⟩ := IC.toInCall.same
    have k : ∀ b o, s.heap.get? b = some o → h₁.get? b = some o := IC.toInCall.keep
    have hn := IC.toInCall.ns
    have X₁ : K.In h₁ := X.keeps k
    have hx₁ := k _ _ hx
    show wpAny _ _ (execs _ _) _ _ _
    refine wpAny_execs_cons (plainObj_wpAny_Assign_Attribute ?_)
    refine ldC (v := v) hn (by first | rfl | with_unfolding_all rfl | kernel_rfl) (ldC (v := .ref x) hn (by first | rfl | with_unfolding_all rfl | kernel_rfl) ?_ rfl rfl (by decide)) rfl rfl (by decide)
    refine set_plain X₁ (ox := excO C t0) (od := none) ⟨hx₁, rfl, rfl, trivial⟩ T.sa ?_
    refine exc_osa X₁ hx₁ hcl (show refsVE (.ref C :: bm) = true from hbm) rfl T.noN (fun h₃ tk₃ dx k₃ dn dne hx₃ hn₃ => ?_)
    show wpAny _ _ (execs _ _) _ _ _
    have z : s.heap.objs.size < h₁.objs.size := hn.lt
    exact wpAny_execs_nil (hq h₃ tk₃ dx ⟨fun b o hb e => k₃ b o hb (k b o e), hx₃, Nat.le_of_lt (Nat.lt_of_lt_of_le z dn), dne, hn₃⟩)
  · refine Att.call_fn (binds := [("self", .ref x), ("index", v)]) X hlim ho hcd hroom (BindsTo.of_eq (by first | rfl | with_unfolding_all rfl)) (by first | rfl | decide | with_unfolding_all rfl) (fun s₁ IC => ?_) rfl rfl rfl
    obtain ⟨h₁, tk₁, rfl⟩ := IC.toInCall.same
    have k : ∀ b o, s.heap.get? b = some o → h₁.get? b = some o := IC.toInCall.keep
    have hn := IC.toInCall.ns
    have X₁ : K.In h₁ := X.keeps k
    have hx₁ := k _ _ hx
    show wpAny _ _ (execs _ _) _ _ _
    refine wpAny_execs_cons (plainObj_wpAny_Assign_Attribute ?_)
    refine ldC (v := v) hn (by first | rfl | with_unfolding_all rfl | kernel_rfl) (ldC (v := .ref x) hn (by first | rfl | with_unfolding_all rfl | kernel_rfl) ?_ rfl rfl (by decide)) rfl rfl (by decide)
    refine set_plain X₁ (ox := excO C t0) (od := none) ⟨hx₁, rfl, rfl, trivial⟩ T.sa ?_
    refine exc_osa X₁ hx₁ hcl (show refsVE (.ref C :: bm) = true from hbm) rfl T.noN (fun h₃ tk₃ dx k₃ dn dne hx₃ hn₃ => ?_)
    show wpAny _ _ (execs _ _) _ _ _
    have z : s.heap.objs.size < h₁.objs.size := hn.lt
    exact wpAny_execs_nil (hq h₃ tk₃ dx ⟨fun b o hb e => k₃ b o hb (k b o e), hx₃, Nat.le_of_lt (Nat.lt_of_lt_of_le z dn), dne, hn₃⟩)
theorem giv_made (hf : okF f) (T : GivC K C fI q f) {v : Value} (X : K.In s.heap) (hlim : s.heap.NoLimit) (hroom : A.depth + 1 < recursionLimit)
    (hq : ∀ h' tk e d, GivMade f s.heap h' e C d v → R (.ok (.ret (.ref e))) { s with heap := h', toks := tk }) :
    codeAny (model prog w) A (.call (.ref C) ⟨[v], []⟩) R s := by
  obtain ⟨nm, q', N, bs, bm, sn, sub, ab, col, dd, k0, k1, k2, k3, k5, hC, hbm⟩ := T.cls
  obtain ⟨hp, g, dr, tk, os⟩ := s
  have k : ∀ b o, hp.get? b = some o → ((hp.push (kdv_tup [v])).push (excO C hp.objs.size)).get? b = some o := fun b o e => Heap.get?_push_of_some _ (Heap.get?_push_of_some _ e)
  have hget : ((hp.push (kdv_tup [v])).push (excO C hp.objs.size)).get? (hp.objs.size + 1) = some (excO C hp.objs.size) := by heap_get
  have hnx : K.lookup (hp.objs.size + 1) = none := by
    cases e : K.lookup (hp.objs.size + 1) with
    | none => rfl
    | some o =>
      have z : hp.get? (hp.objs.size + 1) = some o := X _ _ e
      exact absurd (Nat.lt_of_succ_lt (Heap.lt_size z)) (Nat.lt_irrefl _)
  refine call_own F.excBase_ValueError (fun X => refsVE_contains X bm hbm) (X _ _ hC) (looks_findIn X T.iC) (fun self => bind_fn X self T.tC) (one_size v) ?_
  refine giv_init (s := ⟨(hp.push (kdv_tup [v])).push (excO C hp.objs.size), g, dr, tk, os⟩) hf T (X.keeps k) (hlim.keeps k) hget hnx ?_ fun h' tk' dx ⟨k', hx, dn, dne, hns⟩ => ?_
  · show A.depth + 1 < recursionLimit
    exact hroom
  · have old : ∀ b o, hp.get? b = some o → h'.get? b = some o := fun b o e => k' b o (Nat.ne_of_lt (Nat.lt_succ_of_lt (Heap.lt_size e))) (k b o e)
    have z : hp.objs.size + 1 + 1 ≤ dx := by
      first
        | (simpa only [Heap.size_push] using dn)
        | exact dn
        | (have q := dn; rw [Heap.size_push, Heap.size_push] at q; exact q)
    exact ⟨rfl, hq h' tk' (hp.objs.size + 1) dx ⟨old, Nat.le_succ _, ⟨_, _, hx, rfl, rfl, rfl, rfl⟩, Nat.le_trans (Nat.le_trans (Nat.le_succ _) (Nat.le_succ _)) z, dne, hns⟩⟩
end
theorem relO_giv {v : V} {v' : Value} {fl : Str} (r : RelV v v') (f : Str) : RelO (List.lookup f [(fl, v)]) (if f = fl then some v' else none) := by
  by_cases hw : f = fl
  · subst hw
    rw [if_pos rfl]
    have q : List.lookup f [(f, v)] = some v := by simp [List.lookup]
    rw [q]
    exact r
  · rw [if_neg hw]
    have qw : (f == fl) = false := by simpa using hw
    have q2 : List.lookup f [(fl, v)] = none := by simp [List.lookup, qw]
    rw [q2]
    trivial
section
variable {X : Cx} {C fI : Addr} {q f x : Str}
/-- x(e) -/
def tMkGiv (C : Addr) (f : Str) (ta : TA) : L2.St → Hp → XK → Prop := fun σ H Q => ta σ H fun vs H1 => ∃ v, vs = [v] ∧ ∀ d, H1 d = none → Q (.ref C) (some d) (upd H1 d (.xd [(f, v)]))
theorem pmk_giv {a : Expr} {ta : TA} {p pos : Pos} {k : Nat} (hfo : okF f) (T : GivC X.K C fI q f) (gC : X.mg x = some (.ref C)) (hr : Room k X.A) (ha : PA X [a] ta) (hg : Gl X x) (hdb : (x == ("__debug__" : Str)) = false)
    (he : starEach (a :: []) X.env = (false, eval a X.env) :: starEach [] X.env) (hpl : (backTo pos (starEach [] X.env)).any (·.1) = false := by rfl) :
    PMk X (.Call (.Name x p) [a] [] pos) (tMkGiv C f ta) := by
  intro pins s σ H Q I h
  refine wpAny_Call_Name_kw (ld_glob I hg gC ?_ hdb)
  refine PySem.W.callWith_K (h₀ := X.base) I.ok.mod.kin T.kC (thn (ha.run pos pins s σ H _ I h) fun us s1 hh => ?_) he hpl
  obtain ⟨vs, H1, I1, r1, v, ev, q1⟩ := hh
  subst ev
  refine ⟨I1.kIn, ?_⟩
  cases r1 with
  | cons rv rn =>
    rename_i v' us'
    cases rn
    show wpAny _ _ (call (.ref C) [v']) _ _ _
    have hlim := I1.nolimit
    obtain ⟨hp, g, dr, tk, os⟩ := s1
    refine wpAny_call (giv_made hfo T I1.kIn hlim (by have := hr.dp; omega) fun h' tk' e d M => ?_)
    show MkP X pins σ Q (.ref e) ⟨h', g, dr, tk', os⟩
    obtain ⟨oe, fv, hoe, hc, hd, hdat, h1⟩ := M.obj
    have hns := M.ns
    obtain ⟨G', g1, g2⟩ := restrict h' fun b => decide (b ≠ e)
    have gk : ∀ b, b ≠ e → G'.get? b = h'.get? b := fun b hb => g1 b (decide_eq_true hb)
    have ge : G'.get? e = none := g2 e (by simp)
    have old : ∀ b o, hp.get? b = some o → G'.get? b = some o := fun b o q => (gk b (Nat.ne_of_lt (Nat.lt_of_lt_of_le (Heap.lt_size q) M.new))).trans (M.keep b o q)
    have ob : ObjOk X.prog X.w (upd H1 d (.xd [(f, v)])) G' d (.xd [(f, v)]) :=
      ⟨_, hns.at (fun o q => (gk d M.dne).trans q), fun f => relO_giv rv f⟩
    have J : Inv X pins σ (upd H1 d (.xd [(f, v)])) ⟨G', g, dr, tk', os⟩ := I1.laid (t' := tk') old M.dbig ob
    refine ⟨e, oe, fv, ⟨G', g, dr, tk', os⟩, _, .ref C, some d, rfl, J, fun b o q => ?_, ge, hoe, ⟨hc, hd⟩, hdat, h1, ?_, rfl, I1.bare, raises_own T.exC T.tyC, q1 d (I1.hok.fresh M.dbig)⟩
    · by_cases hb : b = e
      · have q' : G'.get? b = some o := q
        rw [hb, ge] at q'; cases q'
      · exact (gk b hb).symm.trans q
    · rw [upd_ne (Ne.symm M.dne)]
      exact I1.hok.fresh M.new
end
variable [Tb]
end PV
/-! an except suite that holds its error: isinstance(e, ..), e.f -/
namespace PV
open PySem PySem.Spec PyProof.Rows L2
mutual
/-- no error, no lambda in it -/
def D.cln : D → Bool
  | .non => true
  | .bl _ => true
  | .int _ => true
  | .str _ => true
  | .fz _ => true
  | .lst xs => clnA xs
  | .tup xs => clnA xs
  | .dic _ xs => clnA xs
  | .ins _ _ xs => clnA xs
  | .err _ _ _ => false
  | .fn _ _ => false
  | .reg _ => false
def clnA : List D → Bool
  | [] => true
  | d :: ds => d.cln && clnA ds
end
def Sl.cln : Sl → Bool
  | .no => true
  | .val d => d.cln
  | .own ds => clnA ds
end PV
/-! isinstance(e, ..), e.f in a suite; xs.count(True), xs.index(True) -/
namespace PV
open PySem PySem.Spec PyProof.Rows L2
/-! ### what is asked of the error that a suite holds -/
def dIsE (tbl : List (Str × Bool)) : D → Option D
  | .err c _ _ => (tbl.lookup c).map .bl
  | _ => none
def dXf (cs : List Str) (f : Str) : D → Option D
  | .err c ns ds => if c ∈ cs then ixF f ns ds else none
  | _ => none
section
variable {X : Cx}
/-- what isinstance tells of these classes -/
def IsX (K : PySem.W.Frag) (mg : Str → Option Value) (cv : Value) : List (Str × Bool) → Prop
  | [] => True
  | (c, b) :: r => (∃ D, mg c = some (.ref D) ∧ excB K D = true ∧ PySem.W.kitOne K (.ref D) cv = some b) ∧ IsX K mg cv r
theorem IsX.at {K : PySem.W.Frag} {mg : Str → Option Value} {cv : Value} {c : Str} {b : Bool} : ∀ {tbl : List (Str × Bool)}, IsX K mg cv tbl → tbl.lookup c = some b → ∃ D, mg c = some (.ref D) ∧ excB K D = true ∧ PySem.W.kitOne K (.ref D) cv = some b
  | [], _, e => by cases e
  | (c', b') :: r, h, e => by
    rw [List.lookup_cons] at e
    by_cases hc : c = c'
    · subst hc
      simp only [beq_self_eq_true] at e
      cases e
      exact h.1
    · have : (c == c') = false := by simpa using hc
      rw [this] at e
      exact IsX.at h.2 e
/-- the classes with this attribute -/
def XfX (K : PySem.W.Frag) (mg : Str → Option Value) (f : Str) : List Str → Prop
  | [] => True
  | c :: r => (∃ D, mg c = some (.ref D) ∧ excB K D = true ∧ PySem.W.findIn K (.ref D) f = some none) ∧ XfX K mg f r
theorem XfX.at {K : PySem.W.Frag} {mg : Str → Option Value} {f c : Str} : ∀ {cs : List Str}, XfX K mg f cs → c ∈ cs → ∃ D, mg c = some (.ref D) ∧ excB K D = true ∧ PySem.W.findIn K (.ref D) f = some none
  | [], _, e => by cases e
  | c' :: r, h, e => by
    rcases List.mem_cons.mp e with e | e
    · subst e; exact h.1
    · exact XfX.at h.2 e
def XdO (H : Hp) (d : Option Addr) : Prop := d = none ∨ ∃ dx fs, d = some dx ∧ H dx = some (.xd fs)
end
section
variable {T : Tb} {X : Cx} {W : WX} {fx : List Nat} {C a : Addr} {oe : Obj} {cls : Value} {d : Option Addr} {pn : List (Addr × Obj)} {e : Expr} {fe : M D} {x2 f : Str} {TY : String} {p p2 pos : Pos}
theorem xdO_of {m : Addr → Prop} {H : Hp} {fs : List (Str × V)} (h : XdR m H d fs) : XdO H d := by
  rcases h with ⟨_, h⟩ | ⟨dx, h1, _, h2⟩
  · exact .inl h
  · exact .inr ⟨dx, fs, h1, h2⟩
end
end PV
/-! xs.count(y), xs.index(y): flat items -/
namespace PV
open PySem PySem.Spec PyProof.Rows L2
end PV
/-! a lambda that was handed on is called -/
namespace PV
open PySem PySem.Spec PyProof.Rows L2 LamX
/-! ### cells hidden, and shown again -/
section
variable {C : Addr → Prop} {H H' : Hp} {h h' B : Heap} {b : Addr} {o : HO} {P : Program} {w : World} {fs : List Addr}
/-- the cells of C are known -/
def Cel (C : Addr → Prop) (H : Hp) : Prop := ∀ c, C c → ∃ (o : Obj) (w : Option Value), H c = some (.frz o HO.tt) ∧ o.data = .cell w
theorem Cel.none (k : Cel C H) (e : H b = none) : ¬ C b := fun c => by
  obtain ⟨ob, w, e2, _⟩ := k b c
  rw [e] at e2; cases e2
end
/-! ### the lambda's body -/
/-- the names ns are captured, ps are parameters; no name of its own besides -/
structure LamQ (scope : Scope) (ns ps : List Str) : Prop where
  kind : scope.kind = .function
  co : scope.isCoroutine = false
  gen : scope.isGenerator = false
  own : ∀ z ∈ scope.names, z.2 ≠ .cell
  par : ∀ y ∈ ps, scope.names.lookup y = some .local
  fre : ∀ y ∈ ns, scope.names.lookup y = some .free
  nd : (ns ++ ps).Nodup
  few : ps.length ≤ 1
abbrev lamE (q : Str) (scope : Scope) (cells : List (Str × Addr)) (L f c' : Addr) : PySem.Env := PySem.W.envX (q ++ "<lambda>") scope L f (.ref c') cells
/-- the context of the lambda's body, entered at s from the frames outer -/
def lamC (P : Program) (w : World) (K : PySem.W.Frag) (mg : Str → Option Value) (base : Heap) (N : List Str) (q : Str) (scope : Scope) (cells : List (Str × Addr)) (f c' : Addr) (A : Around) (outer : List PySem.Env) (s : Shared) (H : Hp) (E : XK) : Cx where
  prog := P
  w := w
  K := K
  mg := mg
  base := base
  A := A.deeper (lamE q scope cells s.heap.objs.size f c')
  N := N
  s_0 := s
  H_0 := H
  env := lamE q scope cells s.heap.objs.size f c'
  outer := outer
  stack := lamE q scope cells s.heap.objs.size f c' :: outer
  ex := []
  fn := fun _ => false
  calm := true
  pn := []
  xe := fun e s' => wpAny (model P w) (A.deeper (lamE q scope cells s.heap.objs.size f c')) (leaving (lamE q scope cells s.heap.objs.size f c') e) (fun _ s'' => L2.CX P w outer H s E e s'') (fun e' s'' => L2.CX P w outer H s E e' s'') s'
variable [Tb]
section
variable {m : Addr → Prop} {K : PySem.W.Frag} {g : Str → Option Value} {H H' : Hp}
theorem ExR.grow {cl : Value} {d : Option Addr} {x : Exn} (k : ∀ b o, H b = some o → H' b = some o) (h : ExR m K g H cl d x) : ExR m K g H' cl d x := by
  refine ⟨h.1, ?_⟩
  have e2 := h.2
  revert e2
  cases x.given with
  | none => exact id
  | some fy => exact fun ⟨dx, v, a1, a0, a2, a3⟩ => ⟨dx, v, a1, a0, k _ _ a2, Rp.mono Sub'.refl (fun a o _ e _ => k a o e) _ _ a3⟩
end
/-- what the body's mirror tells -/
def runA (B : M D) (n m : Nat) (ds as : List D) : AR := if (ds.length = n ∧ as.length = m) ∧ clnA ds = true ∧ clnA as = true then match B ((ds ++ as).map .val) with
  | .ok d _ => .ok d
  | .er x _ => .er x
  | .no => .no
  else .no
end PV
/-! x(), x(e): a lambda that was handed on is called -/
namespace PV
open PySem PySem.Spec PyProof.Rows L2 LamX
end PV
/-! a lambda is made, and handed on -/
namespace PV
open PySem PySem.Spec PyProof.Rows L2 LamX
/-! ### a lambda is made: its object stands from now on -/
/-- the lambda's object, with the maker's cells -/
def LamF (X : Cx) (params : Arguments) (body : Expr) (scope : Scope) (f : Addr) (H : Hp) : Prop :=
  ∃ (c' : Addr) (pm ctv : Value), H f = some (.frz (PySem.W.kla_obj "<lambda>" (X.env.qual ++ "<lambda>") params body scope (cloFrom X.env.cells scope.names []) pm c' ctv) HO.tt) ∧ H c' = some (CodeO c' (X.env.qual ++ "<lambda>"))
/-! ### the maker's cells are shown for a call -/
end PV
/-! f(lambda: .., ..): a lambda handed to a def -/
namespace PV
open PySem PySem.Spec PyProof.Rows L2 LamX
/-- neither an extern nor a frozen thing of no kind -/
def okX (o : HO) : Prop := (∀ φ, o ≠ .ext φ) ∧ ∀ ob, o ≠ .frz ob HO.tt
variable [Tb]
end PV
/-! acts = [lambda: .., ..]; f(acts) .. -/
namespace PV
open PySem PySem.Spec PyProof.Rows L2 LamX
/-! ### several lambdas are made -/
def LamFs (X : Cx) : List Expr → List Addr → Hp → Prop
  | [], [], _ => True
  | .Lambda params body scope _ :: es, f :: fs, H => LamF X params body scope f H ∧ LamFs X es fs H
  | _, _, _ => False
theorem LamF.ext {X : Cx} {params : Arguments} {body : Expr} {scope : Scope} {f : Addr} {H H' : Hp} (h : LamF X params body scope f H) (k : ExtN H H') : LamF X params body scope f H' := by
  obtain ⟨c', pm, ctv, o1, o2⟩ := h
  exact ⟨c', pm, ctv, k _ _ o1 (by intro xs z; cases z), k _ _ o2 (by unfold CodeO; intro xs z; cases z)⟩
theorem LamFs.ext {X : Cx} {H H' : Hp} (k : ExtN H H') : ∀ {es : List Expr} {fs : List Addr}, LamFs X es fs H → LamFs X es fs H'
  | [], [], _ => trivial
  | .Lambda _ _ _ _ :: es, f :: fs, h => ⟨h.1.ext k, LamFs.ext k h.2⟩
/-- what is held of them, as a row of places -/
theorem LamFs.row {X : Cx} {H : Hp} : ∀ {es : List Expr} {fs : List Addr}, LamFs X es fs H → ∃ l : List (Addr × HO), (∀ p ∈ l, H p.1 = some p.2 ∧ (∀ ps, p.2 ≠ .tbl ps) ∧ ¬ okX p.2) ∧ ∀ H', (∀ p ∈ l, H' p.1 = some p.2) → LamFs X es fs H'
  | [], [], _ => ⟨[], fun p z => by simp at z, fun _ _ => trivial⟩
  | .Lambda params body scope pos :: es, f :: fs, h => by
    obtain ⟨⟨c', pm, ctv, o1, o2⟩, h2⟩ := h
    obtain ⟨l, a1, a2⟩ := LamFs.row h2
    refine ⟨(f, _) :: (c', _) :: l, fun p hp => ?_, fun H' k => ⟨⟨c', pm, ctv, k _ List.mem_cons_self, k _ (List.mem_cons_of_mem _ List.mem_cons_self)⟩, a2 H' fun p hp => k p (List.mem_cons_of_mem _ (List.mem_cons_of_mem _ hp))⟩⟩
    rcases List.mem_cons.mp hp with e | hp
    · rw [e]; exact ⟨o1, (by intro ps z; cases z), fun k => k.2 _ rfl⟩
    · rcases List.mem_cons.mp hp with e | hp
      · rw [e]; exact ⟨o2, (by intro ps z; cases z), fun k => k.1 _ rfl⟩
      · exact a1 p hp
end PV
/-! f(acts): the lambdas that are held are handed to a def -/
namespace PV
open PySem PySem.Spec PyProof.Rows L2 LamX
end PV
/-! heads and ends where lambdas are made: tables of code objects -/
namespace PV
open PySem PySem.Spec PyProof.Rows L2 LamX
/-! ### a maker's walk: its code object is known -/
/-! ### own errors with an attribute -/
/-- what the written part says of an error's class with one attribute -/
def givB (K : PySem.W.Frag) (x f : Str) : Bool :=
  (match K.lookup (He.ga K x) with
    | some ⟨.type "type", _, .cls cd, sl⟩ => (match cd.mro, sl.toList with
      | .ref C' :: bm, [_, _, _, _, some (.builtin n), _] => decide (C' = He.ga K x) && (decide (n = "ValueError.__new__") && (!cd.hasDel && (cd.hasDict && PySem.HandSPX.refsVE bm)))
      | _, _ => false)
    | _ => false) &&
  (decide (PySem.W.findIn K (.ref (He.ga K x)) "__setattr__" = some (some (.builtin "object.__setattr__"))) && (decide (PySem.W.findIn K (.ref (He.ga K x)) "__getattribute__" = some (some (.builtin "BaseException.__getattribute__"))) &&
  (decide (PySem.W.findIn K (.ref (He.ga K x)) "__getattr__" = some none) && (decide (PySem.W.findIn K (.ref (He.ga K x)) f = some none) &&
  (decide (PySem.W.findIn K (.ref (He.ga K x)) "__init__" = some (some (.ref (He.ma K (He.ga K x) "__init__")))) && (decide (PySem.W.typeIn K (.ref (He.ma K (He.ga K x) "__init__")) = some (.type "function")) &&
  (PySem.W.keepIn K (.ref (He.ga K x)) && (decide (PySem.W.subIn K (.ref (He.ga K x)) (.type "BaseException") = some true) && (decide (PySem.W.typeIn K (.ref (He.ga K x)) = some (.type "type")) && PySem.W.hasDictIn K (He.ga K x))))))))))
theorem givC_of {K : PySem.W.Frag} {x f q : Str} {p1 p2 q1 q2 q3 q4 : Pos} (b : givB K x f = true) (F : ∃ fd, FunD K "__init__" q (giA f p1 p2) (giB f q1 q2 q3 q4) (giS f) [] [] (He.fAd K (x, some "__init__")) fd) : GivC K (He.fAd K (x, none)) (He.fAd K (x, some "__init__")) q f := by
  unfold givB at b
  obtain ⟨b0, b⟩ := He.ba b
  obtain ⟨b1, b⟩ := He.ba b
  obtain ⟨b2, b⟩ := He.ba b
  obtain ⟨b3, b⟩ := He.ba b
  obtain ⟨b4, b⟩ := He.ba b
  obtain ⟨b5, b⟩ := He.ba b
  obtain ⟨b6, b⟩ := He.ba b
  obtain ⟨b7, b⟩ := He.ba b
  obtain ⟨b8, b⟩ := He.ba b
  obtain ⟨b9, b10⟩ := He.ba b
  obtain ⟨fd, F⟩ := F
  obtain ⟨oc, od, dV, kV, doc, pm, an, cdv, ct, osl, rfl, lk, hcd, hdV, hkV⟩ := F.ex
  refine ⟨?_, of_decide_eq_true b1, of_decide_eq_true b2, of_decide_eq_true b3, of_decide_eq_true b4, of_decide_eq_true b5, of_decide_eq_true b6, b7, of_decide_eq_true b8, of_decide_eq_true b9, b10, ?_⟩
  · split at b0
    · rename_i dd cd sl ho
      split at b0
      · rename_i C' bm k0 k1 k2 k3 n k5 hm hs
        obtain ⟨c1, b0⟩ := He.ba b0
        obtain ⟨c2, b0⟩ := He.ba b0
        obtain ⟨c3, b0⟩ := He.ba b0
        obtain ⟨c4, c5⟩ := He.ba b0
        have c1 := of_decide_eq_true c1
        have c2 := of_decide_eq_true c2
        obtain ⟨nm, bs, mro, ns, qn, hd, sn, sub, ab, col, del⟩ := cd
        dsimp only at hm c3 c4
        have c3 : del = false := by simpa using c3
        subst hm c3 c4 c2 c1
        have hsl : sl = #[k0, k1, k2, k3, some (.builtin "ValueError.__new__"), k5] := by
          obtain ⟨l⟩ := sl
          simp only at hs
          rw [hs]
        subst hsl
        exact ⟨nm, qn, ns, bs, bm, sn, sub, ab, col, dd, k0, k1, k2, k3, k5, ho, c5⟩
      · cases b0
    · cases b0
  · rcases hdV with ⟨_, rfl⟩ | ⟨n, _⟩
    · exact ⟨oc, od, kV, doc, pm, an, cdv, ct, osl, p1, p2, q1, q2, q3, q4, lk, hcd⟩
    · exact absurd rfl n
/-! ### the head -/
/-- the tables of these makers are empty, not in the fragment, unlike -/
structure TabsIn (tf : List He.Defn) (gv : List (Str × Str)) (K : PySem.W.Frag) (h : Heap) : Prop where
  hd : ∀ p ∈ tf, PySem.W.codeHdIn K (He.cT K p).1 (He.cT K p).2 = true
  out : ∀ p ∈ tf, K.lookup (He.cT K p).2 = none
  empty : ∀ p ∈ tf, h.get? (He.cT K p).2 = some { cls := .none, data := .fields #[] }
  nd : (tf.map fun p => (He.cT K p).2).Nodup
  gv : ∀ p ∈ gv, givB K p.1 p.2 = true
def frMT (fa : List Fp) (fn : List He.DefD) (g : Addr → Option Obj) : PySem.W.Frag := He.frT g (asM g fa fn)
def tabsMT (tf : List He.Defn) (gv : List (Str × Str)) (g : Addr → Option Obj) (K : PySem.W.Frag) : Bool := He.tabsB g tf K && (decide (tf.map fun p => (He.cT K p).2).Nodup && gv.all fun p => givB K p.1 p.2)
def obsMT (fa : List Fp) (fn : List He.DefD) (tf : List He.Defn) (gv : List (Str × Str)) (g : Addr → Option Obj) : AlP × Bool := (obsP fa fn (frMT fa fn g), tabsMT tf gv g (frMT fa fn g))
theorem tabsIn_of {fa : List Fp} {fn : List He.DefD} {tf : List He.Defn} {gv : List (Str × Str)} {h : Heap} (e : tabsMT tf gv h.get? (frMT fa fn h.get?) = true) : TabsIn tf gv (frMT fa fn h.get?) h := by
  obtain ⟨h2, h1⟩ := Bool.and_eq_true_iff.mp e
  obtain ⟨h1, h5⟩ := Bool.and_eq_true_iff.mp h1
  have key : ∀ p ∈ tf, PySem.W.codeHdIn (frMT fa fn h.get?) (He.cT (frMT fa fn h.get?) p).1 (He.cT (frMT fa fn h.get?) p).2 = true ∧ ∃ o, h.get? (He.cT (frMT fa fn h.get?) p).2 = some o ∧ He.emptyTab o = true := fun p hp => by
    obtain ⟨h3, h4⟩ := He.ba (List.all_eq_true.mp h2 p hp)
    refine ⟨h3, ?_⟩
    cases q : h.get? (He.cT (frMT fa fn h.get?) p).2 with
    | none => rw [q] at h4; cases h4
    | some o => rw [q] at h4; exact ⟨o, rfl, h4⟩
  exact ⟨fun p hp => (key p hp).1, fun p hp => by
    obtain ⟨_, o, q, z⟩ := key p hp
    exact He.frT_none q z, fun p hp => by
    obtain ⟨_, o, q, z⟩ := key p hp
    rw [q, He.emptyTab_eq z], of_decide_eq_true h1, fun p hp => List.all_eq_true.mp h5 p hp⟩
def hookMT (fa : List Fp) (fn : List He.DefD) (tf : List He.Defn) (gv : List (Str × Str)) : PySem.W.Hook where
  α := AlP × Bool
  obs := fun s => obsMT fa fn tf gv s.heap.get?
  val := fun _ => (valP fn, true)
  says := fun _ h => ∃ K : PySem.W.Frag, K.In h ∧ SaysP fa fn K ∧ TabsIn tf gv K h
  of := fun _ _ e => ⟨_, He.frT_in, congrArg (fun z : AlP × Bool => z.1) e, tabsIn_of (congrArg (fun z : AlP × Bool => z.2) e)⟩
  keeps := fun _ _ _ ⟨K, hK, c, t⟩ k => ⟨K, PySem.W.Frag.In.keeps hK k, c, ⟨t.hd, t.out, fun p hp => k _ _ (t.empty p hp), t.nd, t.gv⟩⟩
theorem obsMT_eq {fa : List Fp} {fn : List He.DefD} {tf : List He.Defn} {gv : List (Str × Str)} {g : Addr → Option Obj} {s : Shared} (h : ∀ a, g a = s.heap.get? a) : obsMT fa fn tf gv g = (hookMT fa fn tf gv).obs s := by
  have e : g = s.heap.get? := funext h
  rw [e] <;> rfl
def obsST (fa : List Fp) (fn : List He.DefD) (fb : List Fp) (fm : List He.DefD) (g : Addr → Option Obj) : AlP := obsP fb fm (frMT fa fn g)
theorem obsST_app {fa fb fc : List Fp} {fn fm fk : List He.DefD} {g : Addr → Option Obj} (h1 : obsST fa fn fb fm g = valP fm) (h2 : obsST fa fn fc fk g = valP fk) : obsST fa fn (fb ++ fc) (fm ++ fk) g = valP (fm ++ fk) := by
  unfold obsST obsP valP at *
  have a1 := congrArg Prod.fst h1
  have a2 := congrArg Prod.snd h1
  have b1 := congrArg Prod.fst h2
  have b2 := congrArg Prod.snd h2
  simp only [Bool.and_eq_true] at a1 b1 a2 b2
  refine Prod.ext ?_ ?_
  · simp only [List.all_append, Bool.and_eq_true]
    exact ⟨⟨a1.1, b1.1⟩, a1.2, b1.2⟩
  · simp only [List.map_append]
    rw [a2, b2]
open HandSHeadRun in
def ObT (r : PySem.W.OpenRow) (M : Nat) (fa : List Fp) (fn : List He.DefD) (fb : List Fp) (fm : List He.DefD) (w : World) : Prop :=
  (wholeF (fun p => stepQ (denQ tabQ) p w) fenceQ M r.prog).map (fun x => obsST fa fn fb fm (getT x.2)) = some (valP fm)
open HandSHeadRun in
def TbT (r : PySem.W.OpenRow) (M : Nat) (fa : List Fp) (fn : List He.DefD) (tf : List He.Defn) (gv : List (Str × Str)) (w : World) : Prop :=
  (wholeF (fun p => stepQ (denQ tabQ) p w) fenceQ M r.prog).map (fun x => tabsMT tf gv (getT x.2) (frMT fa fn (getT x.2))) = some true
open HandSHeadRun in
theorem run_cutT {r : PySem.W.OpenRow} {q : Program} {M : Nat} {loose : List PySem.Str} {w : World} {fa : List Fp} {fn : List He.DefD} {tf : List He.Defn} {gv : List (Str × Str)} (n1 n2 m1 m2 : Nat) (h0 : LkE r q M loose w) (h1 : ObT r M fa fn (fa.take n1) (fn.take m1) w)
    (h2 : ObT r M fa fn ((fa.drop n1).take n2) ((fn.drop m1).take m2) w) (h3 : ObT r M fa fn ((fa.drop n1).drop n2) ((fn.drop m1).drop m2) w) (h4 : TbT r M fa fn tf gv w) : RunEqI r q (hookMT fa fn tf gv) (fun s => obsMT fa fn tf gv (getT s)) M loose w := by
  unfold LkE at h0
  unfold ObT at h1 h2 h3
  unfold TbT at h4
  unfold RunEqI
  cases e : wholeF (fun p => stepQ (denQ tabQ) p w) fenceQ M r.prog with
  | none => rw [e] at h0; cases h0
  | some x =>
    rw [e] at h0 h1 h2 h3 h4
    simp only [Option.map_some, Option.some.injEq] at h0 h1 h2 h3 h4 ⊢
    have a1 := congrArg Prod.fst h0
    have a2 := congrArg Prod.snd h0
    have o : obsMT fa fn tf gv (getT x.2) = (valP fn, true) := by
      have z := obsST_app h1 (obsST_app h2 h3)
      rw [List.take_append_drop, List.take_append_drop, List.take_append_drop, List.take_append_drop] at z
      exact Prod.ext z h4
    exact Prod.ext a1 (Prod.ext a2 o)
/-! ### the end -/
/-- what is known of the top, and of the makers' tables -/
structure TopTb (P : Program) (base : Heap) (fs : List Fp) (fn : List He.DefD) (tf : List He.Defn) (gv : List (Str × Str)) (K : PySem.W.Frag) (mg : Str → Option Value) : Prop extends TopSr P base fs fn K mg where
  tb : ∀ p ∈ tf, TabB base mg (He.cT K p).1 (He.cT K p).2
  nd : (tf.map fun p => (He.cT K p).2).Nodup
  gv : ∀ p ∈ gv, givB K p.1 p.2 = true
/-- the tables, with the lambdas' names -/
def tbOf (tf : List He.Defn) (K : PySem.W.Frag) : List (Addr × Str) := tf.map fun p => ((He.cT K p).2, p.1 ++ ".<locals>." ++ "<lambda>")
section
variable [Tb] {P : Program} {w : World} {K : PySem.W.Frag} {mg mb : Str → Option Value} {k : Nat} {fa a : Addr} {fd : FuncData} {x : Str} {F : M D} {s₁ : Shared} {vs : List Value} {ns : List Int} {H : Hp} {cs : List (Addr × Addr)}
/-- the script and the tables alone may be known -/
structure LoneT (K : PySem.W.Frag) (s₁ : Shared) (H : Hp) (a : Addr) (ns : List Int) (cs : List (Addr × Addr)) : Prop where
  rf : RF (fun _ => False) K H a (ns.map V.int)
  one : ∀ b, H b ≠ none → (b = a ∨ b ∈ cs.map (·.2)) ∧ K.lookup b = none
  only : ∀ b, H b = none ∨ b ∈ cs.map (·.2) ∨ ∃ o xs, H b = some (.frz o (.lst xs))
  tab : ∀ p ∈ cs, H p.2 = some (.tbl #[])
theorem loneT_of {H : Hp} (L : Lone K s₁.heap H a ns) (hok : HOk P w H s₁.heap) (ha : s₁.heap.get? a = some { cls := .type "list", data := .seq vs.toArray }) (hT : ∀ p ∈ cs, s₁.heap.get? p.2 = some { cls := .none, data := .fields #[] }) (nT : ∀ p ∈ cs, K.lookup p.2 = none) :
    ∃ H', LoneT K s₁ H' a ns cs ∧ HOk P w H' s₁.heap := by
  have isT : ∀ b : Addr, b ∈ cs.map (·.2) → s₁.heap.get? b = some { cls := .none, data := .fields #[] } := fun b hb => by
    obtain ⟨p, hp, e⟩ := List.mem_map.mp hb
    rw [← e]
    exact hT p hp
  have ktT : ∀ b : Addr, b ∈ cs.map (·.2) → K.lookup b = none := fun b hb => by
    obtain ⟨p, hp, e⟩ := List.mem_map.mp hb
    rw [← e]
    exact nT p hp
  have aT : a ∉ cs.map (·.2) := fun z => by
    have q := isT a z
    rw [ha] at q
    have z' : Data.seq vs.toArray _ = Data.fields #[] := congrArg Obj.data (Option.some.inj q)
    cases z'
  have hn : ∀ b, b ∈ cs.map (·.2) → H b = none := fun b hb => by
    cases q : H b with
    | none => rfl
    | some o => exact absurd (by rw [← (L.one b (by rw [q]; simp)).1]; exact hb) aT
  refine ⟨fun b => if b ∈ cs.map (·.2) then some (.tbl #[]) else H b, ⟨?_, fun b z => ?_, fun b => ?_, fun p hp => if_pos (List.mem_map.mpr ⟨p, hp, rfl⟩)⟩, fun b o e => ?_⟩
  · rcases L.rf with ⟨n, o, e⟩ | e
    · exact .inl ⟨n, o, (if_neg aT).trans e⟩
    · exact .inr e
  · by_cases hb : b ∈ cs.map (·.2)
    · exact ⟨.inr hb, ktT b hb⟩
    · have z : (if b ∈ cs.map (·.2) then some (HO.tbl #[]) else H b) ≠ none := z
      rw [if_neg hb] at z
      exact ⟨.inl (L.one b z).1, (L.one b z).2⟩
  · by_cases hb : b ∈ cs.map (·.2)
    · exact .inr (.inl hb)
    · rcases L.only b with q | ⟨o, xs, q⟩
      · exact .inl ((if_neg hb).trans q)
      · exact .inr (.inr ⟨o, xs, (if_neg hb).trans q⟩)
  · by_cases hb : b ∈ cs.map (·.2)
    · have e : (if b ∈ cs.map (·.2) then some (HO.tbl #[]) else H b) = some o := e
      rw [if_pos hb] at e
      cases e
      exact isT b hb
    · have e : (if b ∈ cs.map (·.2) then some (HO.tbl #[]) else H b) = some o := e
      rw [if_neg hb] at e
      have off : ∀ {c : Addr} {u : HO}, H c = some u → (if c ∈ cs.map (·.2) then some (HO.tbl #[]) else H c) = some u := fun {c u} q => by
        rw [if_neg fun z => by rw [hn c z] at q; cases q]
        exact q
      exact (hok b o e).stay (fun _ _ _ q => q) (fun c q => off q) fun c xs q => off q
theorem loneT_env (L : LoneT K s₁ H a ns cs) (hok : HOk P w H s₁.heap) (KX : K.In s₁.heap) (gM : s₁.heap.Ns mainGlobals mg) (gB : s₁.heap.Ns builtinsNs mb) (hbb : ∀ x : Str, x ≠ "__name__" → mb x = bootBuiltins x) (nl : s₁.heap.NoLimit) (hg : s₁.gens = #[])
    (ha : s₁.heap.get? a = some { cls := .type "list", data := .seq vs.toArray }) (nsr : s₁.heap.NoSeer) (hT : ∀ p ∈ cs, s₁.heap.get? p.2 = some { cls := .none, data := .fields #[] }) (hC : ∀ p ∈ cs, PySem.W.codeHdIn K p.1 p.2 = true)
    (hbm : ∃ (bm : Addr) (ob : Obj), mg "__builtins__" = some (.ref bm) ∧ bm ≠ builtinsNs ∧ s₁.heap.get? bm = some ob ∧ ob.cls = .type "module" ∧ ob.dict = some builtinsNs ∧ ob.data = .plain) :
    K.In (hidT s₁.heap H) ∧ (hidT s₁.heap H).Ns mainGlobals mg ∧ (hidT s₁.heap H).NoSeer ∧ (∀ p ∈ cs, TabB (hidT s₁.heap H) mg p.1 p.2) ∧ Env0 P w K mg (hidT s₁.heap H) callerA [] s₁ H := by
  have isT : ∀ b : Addr, b ∈ cs.map (·.2) → s₁.heap.get? b = some { cls := .none, data := .fields #[] } := fun b hb => by
    obtain ⟨p, hp, e⟩ := List.mem_map.mp hb
    rw [← e]
    exact hT p hp
  have noD : ∀ {b : Addr} {o : Obj}, s₁.heap.get? b = some o → (∀ vs n, o.data ≠ .seq vs n) → o.cls ≠ .none → H b = none := fun {b o} e h1 h2 => by
    cases q : H b with
    | none => rfl
    | some u =>
      rcases (L.one b (by rw [q]; simp)).1 with e' | e'
      · rw [e', ha] at e
        cases e
        exact (h1 _ _ rfl).elim
      · rw [isT b e'] at e
        cases e
        exact (h2 rfl).elim
  have noA : ∀ {b : Addr} {o : Obj} {es : Array DictEntry} {ep : Nat}, s₁.heap.get? b = some o → o.data = .dict es ep → H b = none := fun {b o es ep} e d => by
    cases q : H b with
    | none => rfl
    | some u =>
      rcases (L.one b (by rw [q]; simp)).1 with e' | e'
      · rw [e', ha] at e
        cases e
        cases d
      · rw [isT b e'] at e
        cases e
        cases d
  have stays : ∀ {b : Addr} {m : Str → Option Value}, s₁.heap.Ns b m → (hidT s₁.heap H).Ns b m := fun {b m} ⟨o, es, ep, e, d, r⟩ => ⟨o, es, ep, hidT_get e (noA e d), d, r⟩
  have inn : K.In (hidT s₁.heap H) := fun b o e => hidT_get (KX b o e) (Classical.byContradiction fun z => by
    rw [(L.one b z).2] at e
    cases e)
  obtain ⟨mc, c1, c2⟩ := nl
  have md : Mod K mg (hidT s₁.heap H) := ⟨inn, stays gM, ⟨mb, stays gB, hbb⟩, mc, stays c1, c2⟩
  have sr : (hidT s₁.heap H).NoSeer := by
    obtain ⟨⟨m1, a1, a2⟩, ⟨m2, b1, b2⟩, ⟨m3, c1, c2⟩, m4, bm, ob, d1, d2, d3, d4, d5⟩ := nsr
    refine ⟨⟨m1, stays a1, a2⟩, ⟨m2, stays b1, b2⟩, ⟨m3, stays c1, c2⟩, m4, bm, ob, stays d1, d2, hidT_get d3 (Classical.byContradiction fun z => ?_), d4, d5⟩
    rcases (L.one bm z).1 with e' | e'
    · rw [e', ha] at d3
      have e' := Option.some.inj d3
      rw [← e'] at d4
      exact absurd d4 (by simp)
    · rw [isT bm e'] at d3
      have e' := Option.some.inj d3
      rw [← e'] at d4
      exact absurd d4 (by simp)
  have TB : ∀ p ∈ cs, TabB (hidT s₁.heap H) mg p.1 p.2 := fun p hp => by
    obtain ⟨bm, ob, b1, b2, b3, b4, b5, b6⟩ := hbm
    refine NdefX.tabB_of_K inn (hC p hp) ⟨bm, ob, b1, b2, fun q => ?_, fun q => ?_, hidT_get b3 (noD b3 (fun vs n z => by rw [b6] at z; cases z) (by rw [b4]; simp)), b4, b5, b6⟩ fun z => ?_
    · obtain ⟨o, es, ep, e, hd, _⟩ := gM
      rw [q, e] at b3
      cases b3
      rw [hd] at b6
      cases b6
    · rw [q, hT p hp] at b3
      cases b3
      cases b6
    · obtain ⟨o, es, ep, e, hd, _⟩ := gM
      rw [z, hT p hp] at e
      cases e
      cases hd
  refine ⟨inn, stays gM, sr, TB, rfl, md, fun b o e => of_hidT e, Nat.le_of_eq (hidT_size _ _), trivial, fun b z => ?_, hok, .of_eq hg⟩
  have z' : b ∈ ([] : List Addr) := z
  cases z'
theorem end_twoT (L : LoneT K s₁ H a ns cs) (hok : HOk P w H s₁.heap) (KX : K.In s₁.heap) (gM : s₁.heap.Ns mainGlobals mg) (gB : s₁.heap.Ns builtinsNs mb) (hbb : ∀ x : Str, x ≠ "__name__" → mb x = bootBuiltins x) (nl : s₁.heap.NoLimit) (hg : s₁.gens = #[])
    (ha : s₁.heap.get? a = some { cls := .type "list", data := .seq vs.toArray }) (hr : Room k callerA) (nsr : s₁.heap.NoSeer) (hT : ∀ p ∈ cs, s₁.heap.get? p.2 = some { cls := .none, data := .fields #[] }) (hC : ∀ p ∈ cs, PySem.W.codeHdIn K p.1 p.2 = true)
    (hbm : ∃ (bm : Addr) (ob : Obj), mg "__builtins__" = some (.ref bm) ∧ bm ≠ builtinsNs ∧ s₁.heap.get? bm = some ob ∧ ob.cls = .type "module" ∧ ob.dict = some builtinsNs ∧ ob.data = .plain)
    (hG : ∀ base : Heap, K.In base → base.Ns mainGlobals mg → base.NoSeer → (∀ p ∈ cs, TabB base mg p.1 p.2) → FnG P w K mg base k fa fd [x] (spD K mg 1 F)) (hb : BindsTo s₁ fd ⟨[Value.ref a], []⟩ [(x, Value.ref a)]) (hF : ∃ ρ', F [.val (.fz ns)] = .ok (.bl true) ρ') (hTb : ∀ q ∈ Tb.T K, ∃ p ∈ cs, q.1 = p.2) :
    codeAny (model P w) callerA (.call (.ref fa) ⟨[.ref a], []⟩) (fun r s' => r = .ok (.ret (.bool true)) ∧ OldK s₁.heap s'.heap ∧ s'.os = s₁.os ∧ AllBare s'.gens) s₁ := by
  obtain ⟨i1, i2, i3, i4, e0⟩ := loneT_env L hok KX gM gB hbb nl hg ha nsr hT hC hbm
  refine codeAny_mono (end_one (hG _ i1 i2 i3 i4) e0 hb hr (fun q hq => ?_) L.rf hF) fun r s' z => ?_
  · obtain ⟨p, hp, e⟩ := hTb q hq
    exact TabS.nil (by rw [e]; exact L.tab p hp)
  · match r, z with
    | .error e, z =>
      obtain ⟨_, _, _, _, _, z⟩ := z
      exact (z.2.2.2.2.2.2.2).elim
    | .ok .next, z => exact False.elim z
    | .ok .brk, z => exact False.elim z
    | .ok .cont, z => exact False.elim z
    | .ok (.ret u), z =>
      obtain ⟨v, H', z1, z2, z3, z4, z5, z6⟩ := z
      have z7 : v = .bl true := z6
      subst z7
      have z8 : u = Value.bool true := z5
      subst z8
      have key : ∀ b o, b ∉ cs.map (·.2) → s₁.heap.get? b = some o → s'.heap.get? b = some o := fun b o nb e => by
        rcases L.only b with q | q | ⟨ob, xs, q⟩
        · refine z3.keep b o e q (fun z => ?_) (by simp)
          have z' : b ∈ ([] : List Addr) := z
          cases z'
        · exact absurd q nb
        · have q2 := z3.frzs b ob _ q
          obtain ⟨f1, _⟩ := hok b _ q
          obtain ⟨f2, _⟩ := z4 b _ q2
          rw [e] at f1; cases f1
          exact f2
      have grown : ∀ p ∈ cs, ∃ more : Array Value, s'.heap.get? p.2 = some { cls := .none, data := .fields more } := fun p hp => by
        obtain ⟨more, z⟩ := z3.tbls p.2 #[] (L.tab p hp)
        exact ⟨_, z4 p.2 _ z⟩
      refine ⟨rfl, ⟨fun b o e => ?_, fun b o e => ?_⟩, z1, z2⟩
      · by_cases hb : b ∈ cs.map (·.2)
        · obtain ⟨p, hp, ep⟩ := List.mem_map.mp hb
          obtain ⟨more, hm⟩ := grown p hp
          rw [← ep] at e ⊢
          rw [hT p hp] at e
          cases e
          exact .inr (.inl ⟨((PySem.W.codeHd_of_K KX (hC p hp)).tab (hT p hp)).isCodeTable, rfl, #[], more, rfl, by rw [Array.empty_append]; exact hm⟩)
        · exact .inl (key b o hb e)
      · by_cases hb : b ∈ cs.map (·.2)
        · obtain ⟨p, hp, ep⟩ := List.mem_map.mp hb
          obtain ⟨more, hm⟩ := grown p hp
          rw [← ep]
          exact ⟨_, hm⟩
        · exact ⟨o, key b o hb e⟩
/-- the goal behind the head, with tables -/
theorem end_walkT {l : PySem.W.OpenLaw} {n k : Nat} {q : Program} {loose : List Str} {XP : (Str → Option Value) → Heap → Prop} {d : DefRec} {x : Str} {F : M D} {fs : List Fp} {fn : List He.DefD} {tf : List He.Defn} {gv : List (Str × Str)} {YP : World → Heap → Prop} {st : Stmt}
    (hn : l.most = some n) (hn2 : n ≤ sizeLine) (hdf : d.params.defaults = []) (hr : Room k callerA) (hY : ∀ w h, YP w h → ∃ K : PySem.W.Frag, K.In h ∧ SaysP fs fn K ∧ TabsIn tf gv K h) (hd : d.name = x)
    (hF : Good n F) {y : Str}
    (hG : ∀ (w : World) (K : PySem.W.Frag) (mg : Str → Option Value) (h : Heap), K.In h → h.Ns mainGlobals mg → SaysP fs fn K → ∀ base : Heap, K.In base → base.Ns mainGlobals mg → Sr l.prog base → (∀ p ∈ tf, TabB base mg (He.cT K p).1 (He.cT K p).2) → (tf.map fun p => (He.cT K p).2).Nodup → (∀ p ∈ gv, givB K p.1 p.2 = true) → DefV l.prog w K mg base x st k [y] F)
    (hi : importsNone q = true) (ht : l.prog.given.tree = none) (hTb : ∀ K, Tb.T K = tbOf tf K := by intro _; rfl) :
    PySem.W.WalkO q loose XP YP l.row.toRowW d [] (fun f vs => PySem.call f vs) := by
  refine Att.attach_call hn hdf fun w s₀ s₁ mg mb fa o pm cd doc a vs ns G Y ho _ hcd hmg hobj hints hlen hg => ?_
  obtain ⟨K, KX, c, ti⟩ := hY w _ Y
  have gM := G.T.g
  have hsz := Nat.le_trans hlen hn2
  have hmg' : mg x = some (.ref fa) := by rw [← hd]; exact hmg
  have hT : ∀ p ∈ tf.map (He.cT K), s₁.heap.get? p.2 = some { cls := .none, data := .fields #[] } := fun p hp => by
    obtain ⟨p', hp', rfl⟩ := List.mem_map.mp hp
    exact ti.empty p' hp'
  have nT : ∀ p ∈ tf.map (He.cT K), K.lookup p.2 = none := fun p hp => by
    obtain ⟨p', hp', rfl⟩ := List.mem_map.mp hp
    exact ti.out p' hp'
  have hC : ∀ p ∈ tf.map (He.cT K), PySem.W.codeHdIn K p.1 p.2 = true := fun p hp => by
    obtain ⟨p', hp', rfl⟩ := List.mem_map.mp hp
    exact ti.hd p' hp'
  have hTb' : ∀ q ∈ Tb.T K, ∃ p ∈ tf.map (He.cT K), q.1 = p.2 := fun q hq => by
    rw [hTb] at hq
    obtain ⟨p', hp', rfl⟩ := List.mem_map.mp hq
    exact ⟨_, List.mem_map.mpr ⟨p', hp', rfl⟩, rfl⟩
  have hTB : ∀ {base : Heap}, (∀ p ∈ tf.map (He.cT K), TabB base mg p.1 p.2) → ∀ p ∈ tf, TabB base mg (He.cT K p).1 (He.cT K p).2 := fun t p hp => t _ (List.mem_map.mpr ⟨p, hp, rfl⟩)
  have hTB0 : ∀ p ∈ tf, TabB s₁.heap mg (He.cT K p).1 (He.cT K p).2 := fun p hp => by
    obtain ⟨bm, ob, b1, b2, b3, b4, b5, b6⟩ := G.T.bmain
    refine NdefX.tabB_of_K KX (ti.hd p hp) ⟨bm, ob, b1, b2, fun q => ?_, fun q => ?_, b3, b4, b5, b6⟩ fun z => ?_
    · obtain ⟨o, es, ep, e, hd, _⟩ := gM
      rw [q, e] at b3
      cases b3
      rw [hd] at b6
      cases b6
    · rw [q, ti.empty p hp] at b3
      cases b3
      cases b6
    · obtain ⟨o, es, ep, e, hd, _⟩ := gM
      rw [z, ti.empty p hp] at e
      cases e
      cases hd
  obtain ⟨fd0, hb0, b0⟩ : ∃ fd, (∀ s : Shared, K.In s.heap → BindsTo s fd ⟨[Value.ref a], []⟩ [(y, Value.ref a)]) ∧ ∀ base : Heap, K.In base → base.Ns mainGlobals mg → base.NoSeer → (∀ p ∈ tf.map (He.cT K), TabB base mg p.1 p.2) → FnG l.prog w K mg base k fa fd [y] (spD K mg 1 F) := by
    obtain ⟨f, fd, e1, e2, e3, _⟩ := (hG w K mg _ KX gM c _ KX gM ⟨ht, G.T.seer hi⟩ hTB0 ti.nd ti.gv).ex
    rw [hmg'] at e1; cases e1
    refine ⟨fd, fun s i => ?_, fun base i1 i2 i3 i4 => ?_⟩
    · have := e3 s [Value.ref a] i rfl
      simpa using this
    · obtain ⟨f', fd', e1', e2', _, e4'⟩ := (hG w K mg _ KX gM c base i1 i2 ⟨ht, i3⟩ (hTB i4) ti.nd ti.gv).ex
      rw [hmg'] at e1'; cases e1'
      obtain ⟨_, _, _, _, _, _, _, _, _, _, _, l1, _, _⟩ := e2.ex
      obtain ⟨_, _, _, _, _, _, _, _, _, _, _, l2, _, _⟩ := e2'.ex
      rw [l1] at l2
      cases l2
      exact e4'
  have hF' := hF ns hlen
  cases hk : K.lookup a with
  | some ok =>
    obtain ⟨L, hok⟩ := lone_none (P := l.prog) (w := w) ⟨ok, hk⟩ KX hobj hints hsz
    obtain ⟨H', L', hok'⟩ := loneT_of L hok hobj hT nT
    exact end_twoT L' hok' KX gM G.T.b G.T.builtins G.T.nolimit hg hobj hr (G.T.seer hi) hT hC G.T.bmain b0 (hb0 s₁ KX) hF' hTb'
  | none =>
    obtain ⟨H, L, hok⟩ := lone_one (P := l.prog) (w := w) hk hobj hints hsz
    obtain ⟨H', L', hok'⟩ := loneT_of L hok hobj hT nT
    exact end_twoT L' hok' KX gM G.T.b G.T.builtins G.T.nolimit hg hobj hr (G.T.seer hi) hT hC G.T.bmain b0 (hb0 s₁ KX) hF' hTb'
end
end PV
/-! a law's lambdas; repr of an empty dict; what a suite leans on -/
namespace PV
open PySem PySem.Spec PyProof.Rows L2 LamX
/-! ### a law's lambdas -/
structure LamT where
  j : Nat
  q : Str
  e : Expr
  ns : List Str
  ps : List Str
  B : M D
def lamPar : Expr → Arguments
  | .Lambda a _ _ _ => a
  | _ => { posonlyargs := [], args := [], vararg := none, kwonlyargs := [], kw_defaults := [], kwarg := none, defaults := [] }
def lamBody : Expr → Expr
  | .Lambda _ b _ _ => b
  | e => e
def lamScope : Expr → Scope
  | .Lambda _ _ s _ => s
  | _ => { kind := .function, names := [], isGenerator := false, isCoroutine := false, more := [] }
def lamAt (tb : List LamT) (j : Nat) : Option LamT := tb.find? fun t => t.j == j
def lamOf (tb : List LamT) (j : Nat) : Option (Str × Expr × List Str) := (lamAt tb j).map fun t => (t.q, t.e, t.ns)
section
variable [Tb]
def actOf (tb : List LamT) (j : Nat) (ds as : List D) : AR := match lamAt tb j with
  | some t => runA t.B t.ns.length t.ps.length ds as
  | none => .no
end
@[reducible] def tbL (tf : List He.Defn) (tb : List LamT) : Tb := ⟨tbOf tf, lamOf tb, actOf tb, fun _ => none, fun _ => none, False⟩
section
variable {P : Program} {w : World} {K : PySem.W.Frag} {mg : Str → Option Value} {base : Heap} {k : Nat}
/-- a lambda's body is walked -/
def OkT [Tb] (P : Program) (w : World) (K : PySem.W.Frag) (mg : Str → Option Value) (base : Heap) (k : Nat) (t : LamT) : Prop := LamQ (lamScope t.e) t.ns t.ps ∧
  (∀ (cells : List (Str × Addr)) (pm cv ctv : Value) (us : List Value), us.length = t.ps.length → bindArgs (PySem.W.kla_fn "<lambda>" (t.q ++ "<lambda>") (lamPar t.e) (lamBody t.e) (lamScope t.e) cells pm cv ctv) ⟨us, []⟩ = pure (t.ps.zip us)) ∧
  ∀ (cells : List (Str × Addr)) (f c' : Addr) (A : Around) (outer : List PySem.Env) (s : Shared) (H : Hp) (E : XK), Fine (lamC P w K mg base (t.ns ++ t.ps) t.q (lamScope t.e) cells f c' A outer s H E) (fun cl d _ H' => E cl d H') k →
    EV (lamC P w K mg base (t.ns ++ t.ps) t.q (lamScope t.e) cells f c' A outer s H E) (fun cl d _ H' => E cl d H') [] (lamBody t.e) t.B
def OkTs [Tb] (P : Program) (w : World) (K : PySem.W.Frag) (mg : Str → Option Value) (base : Heap) (k : Nat) : List LamT → Prop
  | [] => True
  | t :: r => OkT P w K mg base k t ∧ OkTs P w K mg base k r
theorem OkTs.at [Tb] {t : LamT} : ∀ {tb : List LamT}, OkTs P w K mg base k tb → t ∈ tb → OkT P w K mg base k t
  | [], _, h => by cases h
  | u :: r, h, hm => by
    rcases List.mem_cons.mp hm with rfl | hm
    · exact h.1
    · exact OkTs.at h.2 hm
end
/-! ### repr, of an empty dict too -/
section
variable {X : Cx}
def rReprX (K : PySem.W.Frag) : List V → Hp → VK → Prop := fun xs H Q => rRepr K xs H Q ∨ ∃ a, xs = [.ref a] ∧ H a = some (.dK []) ∧ Q (.str "{}") H
theorem call_reprX (hun : X.A.units + 100 < cLine) (hg : X.A.guards = some []) : CallR X (.builtin "repr") (rReprX X.K) := by
  intro pins s σ H xs us Q I r h
  rcases h with h | ⟨a, rfl, ha, q⟩
  · obtain ⟨x, d, rfl, hd, hc, hdp, hsh, hb, q⟩ := h
    obtain ⟨u, rfl, rx⟩ := vals1 r
    obtain ⟨as, rd⟩ := Dp.reads I d x u hd rx
    have hz : d.shown.length ≤ sizeLine := by
      have e := PyData.shown_le_bulk 2000 (by decide) d (short_of d hc hsh)
      have e2 : (2000 + 2) * d.bulk ≤ 2002 * 8000 := Nat.mul_le_mul (by decide) hb
      rw [sizeLine_eq]
      omega
    have hnd := PyData.hasDict_of_canLay d hc
    cases hd with
    | non => cases rx; exact PySem.P.repr_of_none ⟨.str "None", H, I.tok _, ⟨_, rfl⟩, q⟩
    | bl b => cases rx; exact PySem.P.repr_of_bool ⟨.str _, H, I.tok _, ⟨_, rfl⟩, by cases b <;> exact q⟩
    | int i =>
      obtain ⟨t, rfl⟩ := rx
      have h' : i.natAbs.log2 < 1920 := by simpa only [PyData.showable, decide_eq_true_eq] using hsh
      exact PySem.P.repr_of_int h' ⟨.str _, H, I.tok _, ⟨_, rfl⟩, q⟩
    | str y =>
      obtain ⟨t, rfl⟩ := rx
      exact PySem.P.repr_of_str ⟨.str _, H, I.tok _, ⟨_, rfl⟩, q⟩ hz
    | lst h1 h2 =>
      cases rx
      exact repr_of_reads' rd hsh (PyData.noDict_hsm hnd) hg (by omega) (fun _ _ e => e) (fun h' u tk hk => ⟨.str _, H, I.kept (t' := tk) hk, ⟨_, rfl⟩, q⟩) hz
    | tup h1 h2 =>
      cases rx
      exact repr_of_reads' rd hsh (PyData.noDict_hsm hnd) hg (by omega) (fun _ _ e => e) (fun h' u tk hk => ⟨.str _, H, I.kept (t' := tk) hk, ⟨_, rfl⟩, q⟩) hz
  · obtain ⟨u, rfl, rx⟩ := vals1 r
    cases rx
    obtain ⟨_, hsys, vs, kv, o, es, ep, e1, e2, e3, e4⟩ := I.hok a _ ha
    cases kv
    have e5 : es.toList = [] := by
      have e6 := e4.2.1
      generalize es.toList = l at e6
      cases e6
      rfl
    have rd : Reads s.heap (.ref a) (.dict []) (a :: [] ++ []) := .dict (kvs := []) e1 e2.1 e3 (by rw [e5]; exact .nil) (by rw [e5]; exact .nil)
    have es1 : (PyData.dict []).shown = "{}" := by rfl
    refine repr_of_reads' rd (by rfl) (fun _ z => ?_) hg (Nat.lt_of_le_of_lt (Nat.add_le_add_left (show (PyData.dict []).depth + 1 ≤ 100 by decide) _) hun) (fun _ _ e => e) (fun h' u tk hk => ⟨.str _, H, I.kept (t' := tk) hk, ⟨_, rfl⟩, by rw [es1]; exact q⟩) (by rw [es1]; decide)
    have z : sysModules = a := by simpa using z
    rw [z] at hsys
    simp at hsys
end
variable [Tb]
/-- the classes that a clause catches -/
def ExM (K : PySem.W.Frag) (mg : Str → Option Value) (C : Addr) : List Str → Prop
  | [] => True
  | x :: r => (∃ Cx, mg x = some (.ref Cx) ∧ PySem.W.exmOne K (.ref Cx) (.ref C) = some true) ∧ ExM K mg C r
theorem ExM.at {K : PySem.W.Frag} {mg : Str → Option Value} {C : Addr} : ∀ {xs : List Str}, ExM K mg C xs → ∀ x ∈ xs, ∃ Cx, mg x = some (.ref Cx) ∧ PySem.W.exmOne K (.ref Cx) (.ref C) = some true
  | [], _, _, h => by cases h
  | y :: r, h, x, hx => by
    rcases List.mem_cons.mp hx with e | hx
    · subst e; exact h.1
    · exact ExM.at h.2 x hx
theorem TopTb.gvA {P : Program} {base : Heap} {fs : List Fp} {fn : List He.DefD} {tf : List He.Defn} {gv : List (Str × Str)} {K : PySem.W.Frag} {mg : Str → Option Value} (T : TopTb P base fs fn tf gv K mg) (i : Nat) {x f : Str} (h : gv[i]? = some (x, f) := by rfl) : givB K x f = true := T.gv _ (List.mem_of_getElem? h)
/-! ### rows of facts, one by one -/
theorem xfX_nil {K : PySem.W.Frag} {mg : Str → Option Value} {f : Str} : XfX K mg f [] := trivial
theorem xfX_cons {K : PySem.W.Frag} {mg : Str → Option Value} {f c : Str} {D : Addr} {r : List Str} {p : Prop} (h1 : mg c = some (.ref D)) (h2 : excB K D = true ∧ p) (h3 : PySem.W.findIn K (.ref D) f = some none) (t : XfX K mg f r) : XfX K mg f (c :: r) := ⟨⟨D, h1, h2.1, h3⟩, t⟩
/-! ### what a suite leans on -/
section
variable {X : Cx} {W : WX} {k : Nat} {a : Addr} {pn : List (Addr × Obj)}
theorem Fine.unX (F : Fine X W k) : X.A.units + 100 < cLine := by
  have := F.hr.un
  omega
end
end PV
/-! acts = [lambda: .., ..]; a statement; a statement with f(acts) -/
namespace PV
open PySem PySem.Spec PyProof.Rows L2 LamX
end PV
/-! repr of tuples in which a dict of one text and one number may lie -/
namespace PV
open PySem PySem.Spec PyProof.Rows L2
mutual
/-- a datum without lists, with small dicts, as it is shown -/
def tyD : D → Option PyData
  | .non => some .none
  | .bl b => some (.bool b)
  | .int i => some (.int i)
  | .str x => some (.str x)
  | .tup ds => match tyA ds with
    | some ps => some (.tuple ps)
    | none => none
  | .dic ks ds => match ks, ds with
    | [], [] => some (.dict [])
    | [.inr k], [.int i] => some (.dict [(.str k, .int i)])
    | _, _ => none
  | _ => none
def tyA : List D → Option (List PyData)
  | [] => some []
  | d :: ds => match tyD d, tyA ds with
    | some p, some ps => some (p :: ps)
    | _, _ => none
end
def okTy (p : PyData) : Bool := p.showable && p.leavesShort 2000 && decide (p.depth ≤ 60) && decide (p.bulk ≤ 8000)
def dReprY : List D → Option D
  | [d] => if okr d = true then some (.str d.py.shown) else match tyD d with
    | some p => if okTy p = true then some (.str p.shown) else none
    | none => none
  | _ => none
mutual
inductive Tyd (K : PySem.W.Frag) (H : Hp) : V → PyData → Prop
  | non : Tyd K H .non .none
  | bl (b : Bool) : Tyd K H (.bl b) (.bool b)
  | int (i : Int) : Tyd K H (.int i) (.int i)
  | str (x : Str) : Tyd K H (.str x) (.str x)
  | tup {a : Addr} {xs : List V} {ds : List PyData} : SqT K H a xs → TydA K H xs ds → Tyd K H (.ref a) (.tuple ds)
  | dic0 {a : Addr} : H a = some (.dK []) → Tyd K H (.ref a) (.dict [])
  | dic1 {a : Addr} {k : Str} {i : Int} : H a = some (.dK [(.inr k, .int i)]) → Tyd K H (.ref a) (.dict [(.str k, .int i)])
inductive TydA (K : PySem.W.Frag) (H : Hp) : List V → List PyData → Prop
  | nil : TydA K H [] []
  | cons {v : V} {vs : List V} {d : PyData} {ds : List PyData} : Tyd K H v d → TydA K H vs ds → TydA K H (v :: vs) (d :: ds)
end
section
variable {X : Cx} {pins : List (Addr × Obj)} {σ : L2.St} {H : Hp} {s : Shared}
mutual
theorem Tyd.reads (I : Inv X pins σ H s) : ∀ (d : PyData) (v : V) (u : Value), Tyd X.K H v d → RelV v u → ∃ as, Reads s.heap u d as ∧ sysModules ∉ as
  | .none, _, _, h, r => by
    cases h
    cases r
    exact ⟨_, Reads.none, by simp⟩
  | .bool b, _, _, h, r => by
    cases h
    cases r
    exact ⟨_, Reads.bool b, by simp⟩
  | .int i, _, _, h, r => by
    cases h
    obtain ⟨t, rfl⟩ := r
    exact ⟨_, Reads.int i t, by simp⟩
  | .str x, _, _, h, r => by
    cases h
    obtain ⟨t, rfl⟩ := r
    exact ⟨_, Reads.str x t, by simp⟩
  | .list ds, _, _, h, r => by cases h
  | .tuple ds, _, _, h, r => by
    cases h with
    | tup hs ha =>
      cases r
      obtain ⟨its, rv, ⟨o, ho, hc, n, hd⟩, _⟩ := I.tuple hs
      obtain ⟨as, hr, hn⟩ := TydA.reads I ds _ its ha rv
      exact ⟨_, Reads.tuple ho hc hd hr, hn⟩
  | .dict kvs, _, _, h, r => by
    cases h with
    | @dic0 a ha =>
      cases r
      obtain ⟨_, hsys, vs, kv, o, es, ep, e1, e2, e3, e4, e5, e6⟩ := I.hok a _ ha
      cases kv
      have e5 : es.toList = [] := by
        generalize es.toList = l at e5
        cases e5
        rfl
      refine ⟨a :: [] ++ [], .dict (kvs := []) e1 e2.1 e3 (by rw [e5]; exact .nil) (by rw [e5]; exact .nil), fun z => ?_⟩
      have z : sysModules = a := by simpa using z
      rw [z] at hsys
      simp at hsys
    | @dic1 a k i ha =>
      cases r
      obtain ⟨_, hsys, vs, kv, o, es, ep, e1, e2, e3, e4, e5, e6⟩ := I.hok a _ ha
      cases kv with
      | cons q kv =>
        cases kv
        rename_i p
        obtain ⟨q1, q2⟩ := q
        obtain ⟨t, q2⟩ := q2
        obtain ⟨en, hes, k1, k2⟩ : ∃ en, es.toList = [en] ∧ keyIs (.inr k) en.key = true ∧ en.val = p.2 := by
          generalize es.toList = l at e5
          cases e5 with
          | cons a b c =>
            cases c
            refine ⟨_, rfl, ?_, b⟩
            have : p.1 = .inr k := q1.symm
            rw [this] at a
            exact a
        rcases keyIs_shape k1 with ⟨i', t', z, _⟩ | ⟨x', t', z, z2⟩
        · cases z
        · injection z with z
          subst z
          have r1 : Reads s.heap en.key (.str k) [] := by rw [z2]; exact Reads.str k t'
          have r2 : Reads s.heap en.val (.int i) [] := by rw [k2, q2]; exact Reads.int i t
          refine ⟨a :: ([] ++ []) ++ ([] ++ []), .dict (kvs := [(.str k, .int i)]) e1 e2.1 e3 (by rw [hes]; exact .cons r1 .nil) (by rw [hes]; exact .cons r2 .nil), fun z => ?_⟩
          have z : sysModules = a := by simpa using z
          rw [z] at hsys
          simp at hsys
theorem TydA.reads (I : Inv X pins σ H s) : ∀ (ds : List PyData) (vs : List V) (us : List Value), TydA X.K H vs ds → Vals vs us → ∃ as, ReadsAll s.heap us ds as ∧ sysModules ∉ as
  | [], _, _, h, r => by
    cases h
    cases r
    exact ⟨_, ReadsAll.nil, by simp⟩
  | d :: ds, _, _, h, r => by
    cases h with
    | cons h1 h2 =>
      cases r with
      | cons r1 r2 =>
        obtain ⟨as, q1, n1⟩ := Tyd.reads I d _ _ h1 r1
        obtain ⟨bs, q2, n2⟩ := TydA.reads I ds _ _ h2 r2
        exact ⟨_, ReadsAll.cons q1 q2, fun z => (List.mem_append.mp z).elim n1 n2⟩
end
end
section
variable {X : Cx}
def rReprY (K : PySem.W.Frag) : List V → Hp → VK → Prop := fun xs H Q => rRepr K xs H Q ∨ ∃ x d, xs = [x] ∧ Tyd K H x d ∧ okTy d = true ∧ Q (.str d.shown) H
theorem call_reprY (hun : X.A.units + 100 < cLine) (hg : X.A.guards = some []) : CallR X (.builtin "repr") (rReprY X.K) := by
  intro pins s σ H xs us Q I r h
  rcases h with h | ⟨x, d, rfl, hd, hok, q⟩
  · exact call_reprX hun hg pins s σ H xs us Q I r (.inl h)
  · obtain ⟨u, rfl, rx⟩ := vals1 r
    obtain ⟨as, rd, hn⟩ := Tyd.reads I d x u hd rx
    unfold okTy at hok
    rw [Bool.and_eq_true, Bool.and_eq_true, Bool.and_eq_true] at hok
    obtain ⟨⟨⟨hsh, hls⟩, hdp⟩, hb⟩ := hok
    have hdp := of_decide_eq_true hdp
    have hb := of_decide_eq_true hb
    have hz : d.shown.length ≤ sizeLine := by
      have e := PyData.shown_le_bulk 2000 (by decide) d hls
      have e2 : (2000 + 2) * d.bulk ≤ 2002 * 8000 := Nat.mul_le_mul (by decide) hb
      rw [sizeLine_eq]
      omega
    cases hd with
    | non => cases rx; exact PySem.P.repr_of_none ⟨.str "None", H, I.tok _, ⟨_, rfl⟩, q⟩
    | bl b => cases rx; exact PySem.P.repr_of_bool ⟨.str _, H, I.tok _, ⟨_, rfl⟩, by cases b <;> exact q⟩
    | int i =>
      obtain ⟨t, rfl⟩ := rx
      have h' : i.natAbs.log2 < 1920 := by simpa only [PyData.showable, decide_eq_true_eq] using hsh
      exact PySem.P.repr_of_int h' ⟨.str _, H, I.tok _, ⟨_, rfl⟩, q⟩
    | str y =>
      obtain ⟨t, rfl⟩ := rx
      exact PySem.P.repr_of_str ⟨.str _, H, I.tok _, ⟨_, rfl⟩, q⟩ hz
    | tup h1 h2 =>
      cases rx
      exact repr_of_reads' rd hsh (fun _ => hn) hg (by omega) (fun _ _ e => e) (fun h' u tk hk => ⟨.str _, H, I.kept (t' := tk) hk, ⟨_, rfl⟩, q⟩) hz
    | dic0 h1 =>
      cases rx
      exact repr_of_reads' rd hsh (fun _ => hn) hg (by omega) (fun _ _ e => e) (fun h' u tk hk => ⟨.str _, H, I.kept (t' := tk) hk, ⟨_, rfl⟩, q⟩) hz
    | dic1 h1 =>
      cases rx
      exact repr_of_reads' rd hsh (fun _ => hn) hg (by omega) (fun _ _ e => e) (fun h' u tk hk => ⟨.str _, H, I.kept (t' := tk) hk, ⟨_, rfl⟩, q⟩) hz
end
variable [Tb]
section
variable {m : Addr → Prop} {K : PySem.W.Frag} {g : Str → Option Value} {H : Hp}
mutual
theorem ty_tp : ∀ (d : D) (v : V) (p : PyData), Rp m K g H v d → tyD d = some p → Tyd K H v p
  | .non, _, _, h, e => by cases h; cases e; exact .non
  | .bl b, _, _, h, e => by cases h; cases e; exact .bl b
  | .int i, _, _, h, e => by cases h; cases e; exact .int i
  | .str x, _, _, h, e => by cases h; cases e; exact .str x
  | .tup ds, _, _, h, e => by
    cases h with
    | tup h1 h2 =>
      unfold tyD at e
      split at e
      · rename_i ps e2
        cases e
        exact .tup h1.sq (tyA_tp ds _ ps h2 e2)
      · cases e
  | .dic ks ds, _, _, h, e => by
    cases h with
    | @dic a kvs _ h1 h2 h3 =>
      unfold tyD at e
      split at e
      · rename_i e1
        cases e
        cases kvs with
        | nil => exact .dic0 h2
        | cons q r => cases e1
      · rename_i k i e1
        cases e
        match kvs, e1, h2, h3 with
        | [], e1, _, _ => cases e1
        | [(q1, q2)], e1, h2, h3 =>
          have e1 : q1 = .inr k := by injection e1
          subst e1
          cases h3 with
          | cons h4 h5 =>
            cases h4
            exact .dic1 h2
        | _ :: _ :: _, e1, _, _ => simp at e1
      · cases e
  | .lst ds, _, _, h, e => by cases e
  | .fz ns, _, _, _, e => by cases e
  | .ins c ns ds, _, _, _, e => by cases e
  | .err c ns ds, _, _, _, e => by cases e
  | .fn j ds, _, _, _, e => by cases e
  | .reg j, _, _, _, e => by cases e
theorem tyA_tp : ∀ (ds : List D) (vs : List V) (ps : List PyData), RpA m K g H vs ds → tyA ds = some ps → TydA K H vs ps
  | [], _, _, h, e => by cases h; cases e; exact .nil
  | d :: ds, _, _, h, e => by
    cases h with
    | cons h1 h2 =>
      unfold tyA at e
      split at e
      · rename_i p ps e1 e2
        cases e
        exact .cons (ty_tp d _ p h1 e1) (tyA_tp ds _ ps h2 e2)
      · cases e
end
end
section
variable {X : Cx}
theorem reprY_d : CallD X (rReprY X.K) dReprY := by
  intro m H vs ds dz h e hm Q q
  unfold dReprY at e
  split at e
  · rename_i d
    split at e
    · rename_i ho
      exact .inl (repr_d m H vs _ dz h (by show (if okr d = true then some (D.str d.py.shown) else none) = _; rw [if_pos ho]; exact e) hm Q q)
    · split at e
      · rename_i p hp
        split at e
        · rename_i ho
          cases e
          obtain ⟨v, rfl, h1⟩ := rp1 h
          exact .inr ⟨v, p, rfl, ty_tp d v p h1 hp, ho, q _ H grown_refl (.str _)⟩
        · cases e
      · cases e
  · cases e
end
/-! isinstance of two built-in types -/
end PV
/-! own errors as things: made by position or by name, asked of their class, read -/
namespace PySem
namespace HandSPX
open Builtin Builtin.ObjectAttr
section
variable {prog : Program} {w : World} {A : Around} {E : Value → Shared → Prop} {R : Result → Shared → Prop} {h : Heap} {g : Array GenState} {d : Drawn} {t : Nat} {os : OsState} {kw : List (Str × Value)}
variable {nm q : Str} {C N : Addr} {bs bm bmB : List Value} {hdct : Bool} {sn : List Str} {sub : List Value} {ab : Bool} {col : Option Bool} {dd : Option Addr} {k0 k1 k2 k3 k5 : Option Value} {B newId initId : String}
theorem kwx_check {M : Model} (F : ExcBaseFacts B newId initId bmB) (hT : ∀ X : String, bm.contains (.type X) = bmB.contains (.type X)) {Q : Unit → Shared → Prop} (o : h.get? C = some (excClassObj nm q C N bs bm hdct sn sub ab col dd k0 k1 k2 k3 k5 newId))
    (z : Q () ⟨h, g, d, t, os⟩) : wpAny M A (checkBuiltinCall newId ⟨[.ref C], kw⟩) Q E ⟨h, g, d, t, os⟩ := by
  have c1 : (Value.ref C :: bm).contains (.type B) = true := by
    rw [List.contains_cons, hT, F.hasB, Bool.or_true]
  have c2 := F.noStar
  simp only [checkBuiltinCall, F.newKind, F.newSplit, F.newRow]
  repeat (first | refine wpAny_loadPart_at o ?_ | (refine wpAny_isSubtype_exc o ?_; rw [c1]) | refine wpAny_staticBase_exc o ?_ | refine wpAny_madeBy_exc o ?_ | simp only [bne_self_eq_false, Bool.false_eq_true, if_false] | wp_step)
  exact z
theorem kwx_new (F : ExcBaseFacts B newId initId bmB) (hT : ∀ X : String, bm.contains (.type X) = bmB.contains (.type X)) (o : h.get? C = some (excClassObj nm q C N bs bm hdct sn sub ab col dd k0 k1 k2 k3 k5 newId))
    (z : R (.ok (.ret (.ref (h.objs.size + 1)))) ⟨(h.push (W.kdv_tup [])).push (excO C h.objs.size), g, d, t, os⟩) :
    codeAny (model prog w) A (.builtin newId ⟨[.ref C], kw⟩) R ⟨h, g, d, t, os⟩ := by
  have c0 := F.ends
  have c1 : (Value.ref C :: bm).contains (.type B) = true := by
    rw [List.contains_cons, hT, F.hasB, Bool.or_true]
  have c2 : (Value.ref C :: bm).contains (.type "AttributeError") = false := by
    rw [List.contains_cons, hT, F.noAttr]; rfl
  have c3 : (Value.ref C :: bm).contains (.type "NameError") = false := by
    rw [List.contains_cons, hT, F.noName]; rfl
  refine codeAny_builtinAt F.entry ?_
  unfold Builtin.«BaseException.__new__»
  refine wpAt_bind ?_
  show wpAt _ _ _ (stack >>= _) _ _ _
  refine wpAt_bind (wpAt_stack fun p below => wpAt_of_wpAny ?_)
  wp_walk
  refine wpAt_of_wpAny ?_
  rw [F.owner]
  repeat (first | with_reducible refine wpAny_madeHere_exc F.canon o ?_ | with_reducible refine wpAny_loadPart_at o ?_ | (with_reducible refine wpAny_isSubtype_exc o ?_; first | rw [c1] | rw [c2] | rw [c3]) | wp_step)
  show R _ _
  rw [Heap.size_push]
  exact z
theorem kwx_type (F : ExcBaseFacts B newId initId bmB) (hT : ∀ X : String, bm.contains (.type X) = bmB.contains (.type X)) {fI : Addr} {Q : Fin → Shared → Prop}
    (o : h.get? C = some (excClassObj nm q C N bs bm hdct sn sub ab col dd k0 k1 k2 k3 k5 newId))
    (i : W.Looks (model prog w) h (typeLookup (.ref C) "__init__") (some (.ref fI))) (b : ∀ self, W.Looks (model prog w) h (bindSpecial (.ref fI) self) (.ref fI, [self]))
    (z : codeAny (model prog w) A (.call (.ref fI) ⟨[.ref (h.objs.size + 1)], kw⟩)
      (fun r s' => match r with | .ok (.ret v) => v = .none ∧ Q (.done (.ret (.ref (h.objs.size + 1)))) s' | .ok _ => False | .error e => E e s')
      ⟨(h.push (W.kdv_tup [])).push (excO C h.objs.size), g, d, t, os⟩) :
    wpAny (model prog w) A (Builtin.«type.__call__» ⟨[.ref C], kw⟩) Q E ⟨h, g, d, t, os⟩ := by
  repeat (first | with_reducible refine wpAny_loadPart_at o ?_ | with_reducible refine wpAny_madeBy_exc o ?_ | wp_step)
  refine codeAny_call_builtin_code (Code.quiet_builtin _ F.quiet) (kwx_check F hT o ?_)
  refine kwx_new F hT o ?_
  show wpAny _ _ _ _ _ _
  have up : ∀ c u, h.get? c = some u → ((h.push (W.kdv_tup [])).push (excO C h.objs.size)).get? c = some u := fun c u e => Heap.get?_push_of_some _ (Heap.get?_push_of_some _ e)
  have o2 := up _ _ o
  have made : ((h.push (W.kdv_tup [])).push (excO C h.objs.size)).get? (h.objs.size + 1) = some (excO C h.objs.size) := by heap_get
  have c4 : (Value.ref C :: bm).contains (.ref C) = true := by simp
  have i2 := i.keeps up
  have b2 := (b (.ref (h.objs.size + 1))).keeps up
  unfold isInstance
  repeat (first | with_reducible refine wpAny_loadPart_at made ?_ | (with_reducible refine wpAny_isSubtype_exc o2 ?_; rw [c4]) | wp_step)
  show wpAny _ _ (typeLookup (.ref C) _) _ _ _
  refine i2.at ?_
  refine wpAny_holding (wpAny_bind (b2.at ?_))
  refine wpAny_bind (wpAny_call (codeAny_mono z fun r s' y => ?_))
  rcases r with e | (v | _ | _ | _) <;> first | exact y | exact y.elim | skip
  obtain ⟨rfl, y⟩ := y
  first
    | exact wpAny_pure (wpAny_pure y)
    | (wp_walk; exact y)
theorem kwx_call (F : ExcBaseFacts B newId initId bmB) (hT : ∀ X : String, bm.contains (.type X) = bmB.contains (.type X)) {fI : Addr}
    (o : h.get? C = some (excClassObj nm q C N bs bm hdct sn sub ab col dd k0 k1 k2 k3 k5 newId))
    (i : W.Looks (model prog w) h (typeLookup (.ref C) "__init__") (some (.ref fI))) (b : ∀ self, W.Looks (model prog w) h (bindSpecial (.ref fI) self) (.ref fI, [self]))
    (z : codeAny (model prog w) (A.under (.builtin "type.__call__" ⟨[.ref C], kw⟩)) (.call (.ref fI) ⟨[.ref (h.objs.size + 1)], kw⟩) (W.InitBack (h.objs.size + 1) R)
      ⟨(h.push (W.kdv_tup [])).push (excO C h.objs.size), g, d, t, os⟩) :
    codeAny (model prog w) A (.call (.ref C) ⟨[], kw⟩) R ⟨h, g, d, t, os⟩ := by
  have l1 := tc_lookup
  have l2 := tc_bind (.ref C)
  have ty : (⟨h, g, d, t, os⟩ : Shared).TypeIs (.ref C) "type" := ⟨_, o, rfl⟩
  refine codeAny_of_tree ?_
  show wpAny _ _ (callAny (.ref C) _) _ _ _
  repeat (any_goals (first | assumption | with_reducible refine wpAny_loadPart_at o ?_ | wp_step))
  refine ⟨rfl, ?_⟩
  refine codeAny_call_builtin_at (Code.quiet_builtin _ (by decide +kernel)) entry_typeCall (wpAny_check_type_call_sub o (kwx_type F hT o i b ?_))
  refine codeAny_mono z fun r s' y => ?_
  rcases r with e | (v | _ | _ | _) <;> exact y
end
end HandSPX
end PySem
namespace PV
open PySem PySem.Spec PySem.W PySem.Calls PyProof.Rows PySem.HandSPX L2
section
variable {prog : Program} {w : World} {A : Around} {E : Value → Shared → Prop} {R : Result → Shared → Prop} {s : Shared} {K : PySem.W.Frag} {C fI : Addr} {q f : Str}
theorem giv_initK (hf : okF f) (T : GivC K C fI q f) {x t0 : Addr} {v : Value} (X : K.In s.heap) (hlim : s.heap.NoLimit) (hx : s.heap.get? x = some (excO C t0)) (hnx : K.lookup x = none) (hroom : A.depth < recursionLimit)
    (hq : ∀ h' tk dx, GivEnd f s.heap h' x C dx t0 v → R (.ok (.ret .none)) { s with heap := h', toks := tk }) :
    codeAny (model prog w) A (.call (.ref fI) ⟨[.ref x], [(f, v)]⟩) R s := by
  obtain ⟨nm, q', N, bs, bm, sn, sub, ab, col, dd, k0, k1, k2, k3, k5, hC, hbm⟩ := T.cls
  have hcl : clsIn K C = some { name := nm, bases := bs, mro := .ref C :: bm, ns := N, qualname := q', hasDict := true, slotNames := sn, subclasses := sub, abstract := ab, collection := col, hasDel := false } := by unfold clsIn; rw [hC] <;> rfl
  have hxL : s.heap.objs.size ≠ x := Nat.ne_of_gt (Heap.lt_size hx)
  rcases hf with rfl | rfl
  all_goals
    obtain ⟨oc, od, kV, doc, pm, an, cdv, ct, osl, p1, p2, q1, q2, q3, q4, ho, hcd⟩ := T.fn
  · refine Att.call_fn (binds := [("self", .ref x), ("given", v)]) X hlim ho hcd hroom (BindsTo.of_eq (by first | rfl | with_unfolding_all rfl)) (by first | rfl | decide | with_unfolding_all rfl) (fun s₁ IC => ?_) rfl rfl rfl
    obtain ⟨h₁, tk₁, rfl⟩ := IC.toInCall.same
    have k : ∀ b o, s.heap.get? b = some o → h₁.get? b = some o := IC.toInCall.keep
    have hn := IC.toInCall.ns
    have X₁ : K.In h₁ := X.keeps k
    have hx₁ := k _ _ hx
    show wpAny _ _ (execs _ _) _ _ _
    refine wpAny_execs_cons (plainObj_wpAny_Assign_Attribute ?_)
    refine ldC (v := v) hn (by first | rfl | with_unfolding_all rfl | kernel_rfl) (ldC (v := .ref x) hn (by first | rfl | with_unfolding_all rfl | kernel_rfl) ?_ rfl rfl (by decide)) rfl rfl (by decide)
    refine set_plain X₁ (ox := excO C t0) (od := none) ⟨hx₁, rfl, rfl, trivial⟩ T.sa ?_
    refine exc_osa X₁ hx₁ hcl (show refsVE (.ref C :: bm) = true from hbm) rfl T.noN (fun h₃ tk₃ dx k₃ dn dne hx₃ hn₃ => ?_)
    show wpAny _ _ (execs _ _) _ _ _
    have z : s.heap.objs.size < h₁.objs.size := hn.lt
    exact wpAny_execs_nil (hq h₃ tk₃ dx ⟨fun b o hb e => k₃ b o hb (k b o e), hx₃, Nat.le_of_lt (Nat.lt_of_lt_of_le z dn), dne, hn₃⟩)
  · refine Att.call_fn (binds := [("self", .ref x), ("index", v)]) X hlim ho hcd hroom (BindsTo.of_eq (by first | rfl | with_unfolding_all rfl)) (by first | rfl | decide | with_unfolding_all rfl) (fun s₁ IC => ?_) rfl rfl rfl
    obtain ⟨h₁, tk₁, rfl⟩ := IC.toInCall.same
    have k : ∀ b o, s.heap.get? b = some o → h₁.get? b = some o := IC.toInCall.keep
    have hn := IC.toInCall.ns
    have X₁ : K.In h₁ := X.keeps k
    have hx₁ := k _ _ hx
    show wpAny _ _ (execs _ _) _ _ _
    refine wpAny_execs_cons (plainObj_wpAny_Assign_Attribute ?_)
    refine ldC (v := v) hn (by first | rfl | with_unfolding_all rfl | kernel_rfl) (ldC (v := .ref x) hn (by first | rfl | with_unfolding_all rfl | kernel_rfl) ?_ rfl rfl (by decide)) rfl rfl (by decide)
    refine set_plain X₁ (ox := excO C t0) (od := none) ⟨hx₁, rfl, rfl, trivial⟩ T.sa ?_
    refine exc_osa X₁ hx₁ hcl (show refsVE (.ref C :: bm) = true from hbm) rfl T.noN (fun h₃ tk₃ dx k₃ dn dne hx₃ hn₃ => ?_)
    show wpAny _ _ (execs _ _) _ _ _
    have z : s.heap.objs.size < h₁.objs.size := hn.lt
    exact wpAny_execs_nil (hq h₃ tk₃ dx ⟨fun b o hb e => k₃ b o hb (k b o e), hx₃, Nat.le_of_lt (Nat.lt_of_lt_of_le z dn), dne, hn₃⟩)
theorem giv_madeK (hf : okF f) (T : GivC K C fI q f) {v : Value} (X : K.In s.heap) (hlim : s.heap.NoLimit) (hroom : A.depth + 1 < recursionLimit)
    (hq : ∀ h' tk e d, GivMade f s.heap h' e C d v → R (.ok (.ret (.ref e))) { s with heap := h', toks := tk }) :
    codeAny (model prog w) A (.call (.ref C) ⟨[], [(f, v)]⟩) R s := by
  obtain ⟨nm, q', N, bs, bm, sn, sub, ab, col, dd, k0, k1, k2, k3, k5, hC, hbm⟩ := T.cls
  obtain ⟨hp, g, dr, tk, os⟩ := s
  have k : ∀ b o, hp.get? b = some o → ((hp.push (kdv_tup [])).push (excO C hp.objs.size)).get? b = some o := fun b o e => Heap.get?_push_of_some _ (Heap.get?_push_of_some _ e)
  have hget : ((hp.push (kdv_tup [])).push (excO C hp.objs.size)).get? (hp.objs.size + 1) = some (excO C hp.objs.size) := by heap_get
  have hnx : K.lookup (hp.objs.size + 1) = none := by
    cases e : K.lookup (hp.objs.size + 1) with
    | none => rfl
    | some o =>
      have z : hp.get? (hp.objs.size + 1) = some o := X _ _ e
      exact absurd (Nat.lt_of_succ_lt (Heap.lt_size z)) (Nat.lt_irrefl _)
  refine kwx_call F.excBase_ValueError (fun X => refsVE_contains X bm hbm) (X _ _ hC) (looks_findIn X T.iC) (fun self => bind_fn X self T.tC) ?_
  refine giv_initK (s := ⟨(hp.push (kdv_tup [])).push (excO C hp.objs.size), g, dr, tk, os⟩) hf T (X.keeps k) (hlim.keeps k) hget hnx ?_ fun h' tk' dx ⟨k', hx, dn, dne, hns⟩ => ?_
  · show A.depth + 1 < recursionLimit
    exact hroom
  · have old : ∀ b o, hp.get? b = some o → h'.get? b = some o := fun b o e => k' b o (Nat.ne_of_lt (Nat.lt_succ_of_lt (Heap.lt_size e))) (k b o e)
    have z : hp.objs.size + 1 + 1 ≤ dx := by
      first
        | (simpa only [Heap.size_push] using dn)
        | exact dn
        | (have q := dn; rw [Heap.size_push, Heap.size_push] at q; exact q)
    exact ⟨rfl, hq h' tk' (hp.objs.size + 1) dx ⟨old, Nat.le_succ _, ⟨_, _, hx, rfl, rfl, rfl, rfl⟩, Nat.le_trans (Nat.le_trans (Nat.le_succ _) (Nat.le_succ _)) z, dne, hns⟩⟩
end
section
variable {X : Cx} {C fI : Addr} {q f x : Str}
theorem pmk_givK {a : Expr} {ta : TA} {kpos : Pos} {p pos : Pos} {k : Nat} (hfo : okF f) (T : GivC X.K C fI q f) (gC : X.mg x = some (.ref C)) (hr : Room k X.A) (ha : PK X [⟨some f, a, kpos⟩] ta) (hg : Gl X x) (hdb : (x == ("__debug__" : Str)) = false)
    (hall : (backToKw pos (keywordEach [⟨some f, a, kpos⟩] X.env)).all (·.1.isSome) = true := by rfl) (hks : (backToKw pos (keywordEach [⟨some f, a, kpos⟩] X.env)).filterMap (·.1) = [f] := by rfl)
    (hpl : ((backTo pos (starEach [] X.env)).any (·.1) || (backToKw pos (keywordEach [⟨some f, a, kpos⟩] X.env)).any (·.1.isNone)) = false := by rfl) :
    PMk X (.Call (.Name x p) [] [⟨some f, a, kpos⟩] pos) (tMkGiv C f ta) := by
  intro pins s σ H Q I h
  refine wpAny_Call_Name_kw (ld_glob I hg gC ?_ hdb)
  refine PySem.W.callWith_KW0 (h₀ := X.base) I.ok.mod.kin T.kC hall (thn (ha.run pos pins s σ H _ I h) fun us s1 hh => ?_) hpl
  obtain ⟨vs, H1, I1, r1, v, ev, q1⟩ := hh
  subst ev
  refine ⟨I1.kIn, ?_⟩
  rw [hks]
  cases r1 with
  | cons rv rn =>
    rename_i v' us'
    cases rn
    show wpAny _ _ (call (.ref C) [] [(f, v')]) _ _ _
    have hlim := I1.nolimit
    obtain ⟨hp, g, dr, tk, os⟩ := s1
    refine wpAny_call (giv_madeK hfo T I1.kIn hlim (by have := hr.dp; omega) fun h' tk' e d M => ?_)
    show MkP X pins σ Q (.ref e) ⟨h', g, dr, tk', os⟩
    obtain ⟨oe, fv, hoe, hc, hd, hdat, h1⟩ := M.obj
    have hns := M.ns
    obtain ⟨G', g1, g2⟩ := restrict h' fun b => decide (b ≠ e)
    have gk : ∀ b, b ≠ e → G'.get? b = h'.get? b := fun b hb => g1 b (decide_eq_true hb)
    have ge : G'.get? e = none := g2 e (by simp)
    have old : ∀ b o, hp.get? b = some o → G'.get? b = some o := fun b o q => (gk b (Nat.ne_of_lt (Nat.lt_of_lt_of_le (Heap.lt_size q) M.new))).trans (M.keep b o q)
    have ob : ObjOk X.prog X.w (upd H1 d (.xd [(f, v)])) G' d (.xd [(f, v)]) :=
      ⟨_, hns.at (fun o q => (gk d M.dne).trans q), fun f => relO_giv rv f⟩
    have J : Inv X pins σ (upd H1 d (.xd [(f, v)])) ⟨G', g, dr, tk', os⟩ := I1.laid (t' := tk') old M.dbig ob
    refine ⟨e, oe, fv, ⟨G', g, dr, tk', os⟩, _, .ref C, some d, rfl, J, fun b o q => ?_, ge, hoe, ⟨hc, hd⟩, hdat, h1, ?_, rfl, I1.bare, raises_own T.exC T.tyC, q1 d (I1.hok.fresh M.dbig)⟩
    · by_cases hb : b = e
      · have q' : G'.get? b = some o := q
        rw [hb, ge] at q'; cases q'
      · exact (gk b hb).symm.trans q
    · rw [upd_ne (Ne.symm M.dne)]
      exact I1.hok.fresh M.new
end
variable [Tb]
theorem xo_ok {P : Program} {w : World} {H : Hp} {h : Heap} {a C : Addr} {d : Option Addr} {oe : Obj} {vs : Array Value} (e : h.get? a = some oe) (z : Zc (.ref C) d oe) (hd : oe.data = .fields vs) : ObjOk P w H h a (HO.xo C d a) :=
  ⟨⟨oe, vs, e, z.1, z.2, hd⟩, ⟨oe, e⟩, fun _ _ ⟨o, v, q, r⟩ k => ⟨o, v, k o q, r⟩⟩
/-- what makes an error gives a thing -/
theorem pe_of_mk {X : Cx} {e : Expr} {t : L2.St → Hp → XK → Prop} (h : PMk X e t) : PE X e (fun σ H Q => t σ H fun cls d H' => ∃ C, cls = .ref C ∧ ∀ a, H' a = none → Q (.ref a) (upd H' a (HO.xo C d a))) := by
  refine ⟨fun pins s σ H Q I w => ?_⟩
  refine thn (h pins s σ H _ I w) fun u s1 hu => ?_
  obtain ⟨a, oe, vs, sI, H', cls, d, rfl, J, k, hne, ha, hz, hd, h1, na, os, ag, r, C, rfl, q⟩ := hu
  obtain ⟨hp, g1, d1, t1, os1⟩ := s1
  obtain ⟨hq, g2, d2, t2, os2⟩ := sI
  cases (show os1 = os2 from os)
  have new : ObjOk X.prog X.w (upd H' a (HO.xo C d a)) hp a (HO.xo C d a) := xo_ok ha hz hd
  have J2 : Inv X pins σ (upd H' a (HO.xo C d a)) ⟨hp, g1, d1, t1, os1⟩ := Inv.call (ch := []) (g' := g1) (d' := d1) (t' := t1) J (Un.laidN k hne na) (J.hok.laidN k na new) ag (fun _ z => nomatch z)
  exact ⟨.ref a, _, J2, rfl, q a na⟩
section
variable {X : Cx} {W : WX} {fx : List Nat} {k : Nat} {C fI a : Addr} {q x f x2 : Str} {p p2 pos kpos : Pos} {e : Expr} {fl : M (List D)} {fe : M D} {TY : String}
def mMkE (x f : Str) (fl : M (List D)) : M D := M.bind fl fun ds => match ds with
  | [d] => M.ret (.err x [f] [d])
  | _ => fun _ => .no
theorem mkE_imp (hdyn : Tb.dyn) (gC : X.mg x = some (.ref C)) {σ : L2.St} {H : Hp} {Q : VK} (h : tE (ct X W fx) (mMkE x f fl) σ H Q) :
    tMkGiv C f (tL (ct X W fx) fl) σ H (fun cls d H' => ∃ C, cls = .ref C ∧ ∀ a, H' a = none → Q (.ref a) (upd H' a (HO.xo C d a))) := by
  obtain ⟨m₀, ρ, rr, w⟩ := h
  refine tL.first rr w fun ds ρ1 vs H1 _ r1 h1 s1 w1 => ?_
  match ds, h1, w1 with
  | [], _, w1 => exact w1.elim
  | _ :: _ :: _, _, w1 => exact w1.elim
  | [d], h1, w1 =>
    obtain ⟨v, rfl, hv⟩ := rp1 h1
    refine ⟨v, rfl, fun dx hd => ⟨C, rfl, fun a ha => ?_⟩⟩
    have ne : dx ≠ a := fun z => by rw [← z, upd_same] at ha; cases ha
    have na : H1 a = none := by rw [upd_ne (Ne.symm ne)] at ha; exact ha
    have gr : ∀ b o, H1 b = some o → upd (upd H1 dx (.xd [(f, v)])) a (HO.xo C (some dx) a) b = some o := fun b o e => keep_new ha _ _ (keep_new hd _ _ e)
    have rx : Rp (mm m₀ σ ρ1) X.K X.mg (upd (upd H1 dx (.xd [(f, v)])) a (HO.xo C (some dx) a)) (.ref a) (.err x [f] [d]) :=
      Rp.err (fs := [(f, v)]) (.inr ⟨hdyn, r1.new_out na, upd_same⟩) gC (.inr ⟨dx, rfl, r1.new_out hd, by rw [upd_ne ne]; exact upd_same⟩) (.cons (Rp.mono Sub'.refl (fun b o _ e _ => gr b o e) _ _ hv) .nil)
    exact w1 (.ref a) _ (r1.grown gr) rx (s1.trans (.grown gr))
theorem e_mkE (hdyn : Tb.dyn) (Fi : Fine X W k) (T : GivC X.K C fI q f) (hfo : okF f) (gC : X.mg x = some (.ref C)) (ha : LV X W fx [e] fl) (hg : Gl X x := by rfl) (hdb : (x == ("__debug__" : Str)) = false := by decide)
    (he : starEach (e :: []) X.env = (false, eval e X.env) :: starEach [] X.env := by rfl) (hpl : (backTo p2 (starEach [] X.env)).any (·.1) = false := by rfl) : EV X W fx (.Call (.Name x p) [e] [] p2) (mMkE x f fl) :=
  PE.imp (pe_of_mk (pmk_giv hfo T gC Fi.hr ha hg hdb he hpl)) fun σ H Q h => mkE_imp hdyn gC h
theorem e_mkEk (hdyn : Tb.dyn) (Fi : Fine X W k) (T : GivC X.K C fI q f) (hfo : okF f) (gC : X.mg x = some (.ref C)) (ha : KV X W fx [⟨some f, e, kpos⟩] fl) (hg : Gl X x := by rfl) (hdb : (x == ("__debug__" : Str)) = false := by decide)
    (hall : (backToKw p2 (keywordEach [⟨some f, e, kpos⟩] X.env)).all (·.1.isSome) = true := by rfl) (hks : (backToKw p2 (keywordEach [⟨some f, e, kpos⟩] X.env)).filterMap (·.1) = [f] := by rfl)
    (hpl : ((backTo p2 (starEach [] X.env)).any (·.1) || (backToKw p2 (keywordEach [⟨some f, e, kpos⟩] X.env)).any (·.1.isNone)) = false := by rfl) : EV X W fx (.Call (.Name x p) [] [⟨some f, e, kpos⟩] p2) (mMkE x f fl) :=
  PE.imp (pe_of_mk (pmk_givK hfo T gC Fi.hr ha hg hdb hall hks hpl)) fun σ H Q h => mkE_imp hdyn gC h
theorem e_mkE0 (hdyn : Tb.dyn) (E : ErrC X.K C) (gC : X.mg x = some (.ref C)) (hg : Gl X x := by rfl) (hdb : (x == ("__debug__" : Str)) = false := by decide) : EV X W fx (.Call (.Name x p) [] [] pos) (M.ret (.err x [] [])) := by
  refine PE.imp (pe_of_mk (pmk_own0 E gC hg hdb)) fun σ H Q ⟨m₀, ρ, rr, w⟩ => ⟨C, rfl, fun a ha => ?_⟩
  have gr : ∀ b o, H b = some o → upd H a (HO.xo C none a) b = some o := fun b o e => keep_new ha _ _ e
  exact w (.ref a) _ (rr.grown gr) (Rp.err (fs := []) (.inr ⟨hdyn, rr.new_out ha, upd_same⟩) gC (.inl ⟨rfl, rfl⟩) .nil) (.grown gr)
/-! ### asked of its class, read -/
def rIsV (K : PySem.W.Frag) : List V → Hp → VK → Prop := fun xs H Q => ∃ (a D : Addr) (d : Option Addr) (c : V) (cv : Value) (b : Bool), xs = [.ref a, c] ∧ H a = some (HO.xo D d a) ∧ excB K D = true ∧ XdO H d ∧ (∀ u, RelV c u → u = cv) ∧ PySem.W.kitOne K (.ref D) cv = some b ∧ Q (.bl b) H
theorem call_isV : CallR X (.builtin "isinstance") (rIsV X.K) := by
  intro pins s σ H xs us Q I r h
  obtain ⟨a, D, d, c, cv, b, rfl, ea, hB, hd, hcv, e, q⟩ := h
  cases r with
  | cons rx rr =>
    cases rr with
    | cons rt rr =>
      cases rr
      cases rx
      have ec := hcv _ rt
      subst ec
      obtain ⟨oe, vs, hget, hc1, hc2, hv⟩ := (I.hok a _ ea).1
      have C := excC_of hB
      have hcl : (PySem.W.clsIn X.K D).isSome = true := by
        obtain ⟨cd, hc, _⟩ := PySem.W.any_some C.hd
        rw [hc]; rfl
      have hnc : PySem.W.notCls oe = true := by unfold PySem.W.notCls; rw [hv] <;> rfl
      have J : ∃ od, PySem.W.InstAt s.heap a oe D od := by
        rcases hd with hd | ⟨dx, fs, hd, ea⟩
        · exact ⟨none, hget, hc1, hnc, by rw [hc2, hd]; trivial⟩
        · have hx : ObjOk X.prog X.w H s.heap dx (.xd fs) := I.hok dx _ ea
          obtain ⟨mA, hns, hr⟩ := hx
          obtain ⟨od, ho, hl⟩ := lookIn_ns hns
          exact ⟨some od, hget, hc1, hnc, by rw [hc2, hd]; exact ho⟩
      obtain ⟨od, J⟩ := J
      exact PySem.W.kia_one (PySem.W.kitx_exc hcl C.hg C.hk C.hs C.ha C.hn C.ht C.hm) I.kIn J e (fun z => nomatch z) fun tk => ⟨.bl b, H, I.kept (t' := tk) fun _ _ z => z, rfl, q⟩
theorem errV_inv {m : Addr → Prop} {K : PySem.W.Frag} {g : Str → Option Value} {H : Hp} {v : V} {c : Str} {ns : List Str} {ds : List D} (hx : ∀ a, Tb.ex a = none) (h : Rp m K g H v (.err c ns ds)) :
    ∃ a C d fs, v = .ref a ∧ H a = some (HO.xo C d a) ∧ g c = some (.ref C) ∧ ns = fs.map (·.1) ∧ XdR m H d fs ∧ RpA m K g H (fs.map (·.2)) ds := by
  cases h with
  | @err a C d _ fs _ h1 h2 h3 h4 =>
    rcases h1 with h1 | ⟨_, _, h1⟩
    · rw [hx] at h1; cases h1
    · exact ⟨a, C, d, fs, rfl, h1, h2, rfl, h3, h4⟩
theorem e_isV {tbl : List (Str × Bool)} (hx : ∀ a, Tb.ex a = none) (hB : IsX X.K X.mg (.ref C) tbl) (hm : X.mg "isinstance" = none) (gC : X.mg x2 = some (.ref C)) (he : EV X W fx e fe) (hg : Gl X "isinstance" := by rfl) (hg2 : Gl X x2 := by rfl) (hd2 : (x2 == ("__debug__" : Str)) = false := by decide)
    (hs1 : starEach [e, .Name x2 p2] X.env = (false, eval e X.env) :: starEach [.Name x2 p2] X.env := by rfl) (hs2 : starEach [.Name x2 p2] X.env = (false, eval (.Name x2 p2) X.env) :: starEach [] X.env := by rfl) (hpl : (backTo pos (starEach [.Name x2 p2] X.env)).any (·.1) = false := by rfl) :
    EV X W fx (.Call (.Name "isinstance" p) [e, .Name x2 p2] [] pos) (mUn (dIsE tbl) fe) := by
  refine PE.imp (pe_callB call_isV hg hm PyProof.Rows.boot_isinstance (pa_cons he (pa_cons (pe_glob (v := .ref C) hg2 gC rfl hd2) pa_nil hs2) hs1) (by decide) (by decide) hs1 hpl) fun σ H Q h => ?_
  obtain ⟨m₀, ρ, rr, w⟩ := h
  refine tE.first rr w fun d1 ρ1 v H1 r1 h1 s1 w1 => ?_
  obtain ⟨dz, e1, w2⟩ := Want.lift w1
  cases d1 with
  | err c ns ds =>
    have e1 : (tbl.lookup c).map D.bl = some dz := e1
    cases q : tbl.lookup c with
    | none => rw [q] at e1; cases e1
    | some b =>
      rw [q] at e1; cases e1
      obtain ⟨a, C1, d, fs, rfl, ea, g1, _, hd, _⟩ := errV_inv hx h1
      obtain ⟨D1, b1, b2, b3⟩ := hB.at q
      have g1 : X.mg c = some (.ref C1) := g1
      rw [g1] at b1; cases b1
      exact ⟨a, C1, d, .ref C, .ref C, b, rfl, ea, b2, xdO_of hd, fun u r => r, b3, w2 (.bl b) H1 r1 (.bl b) s1⟩
  | _ => cases e1
theorem e_isVT {tbl : List (Str × Bool)} (hx : ∀ a, Tb.ex a = none) (hB : IsX X.K X.mg (.type TY) tbl) (hm : X.mg "isinstance" = none) (hm2 : X.mg x2 = none) (hv2 : bootBuiltins x2 = some (.type TY)) (he : EV X W fx e fe) (hn2 : x2 ≠ "__name__" := by decide)
    (hg : Gl X "isinstance" := by rfl) (hg2 : Gl X x2 := by rfl) (hd2 : (x2 == ("__debug__" : Str)) = false := by decide)
    (hs1 : starEach [e, .Name x2 p2] X.env = (false, eval e X.env) :: starEach [.Name x2 p2] X.env := by rfl) (hs2 : starEach [.Name x2 p2] X.env = (false, eval (.Name x2 p2) X.env) :: starEach [] X.env := by rfl) (hpl : (backTo pos (starEach [.Name x2 p2] X.env)).any (·.1) = false := by rfl) :
    EV X W fx (.Call (.Name "isinstance" p) [e, .Name x2 p2] [] pos) (mUn (dIsE tbl) fe) := by
  refine PE.imp (pe_callB call_isV hg hm PyProof.Rows.boot_isinstance (pa_cons he (pa_cons (pe_bltn (v := .ty TY) hg2 hm2 hv2 rfl hn2 hd2) pa_nil hs2) hs1) (by decide) (by decide) hs1 hpl) fun σ H Q h => ?_
  obtain ⟨m₀, ρ, rr, w⟩ := h
  refine tE.first rr w fun d1 ρ1 v H1 r1 h1 s1 w1 => ?_
  obtain ⟨dz, e1, w2⟩ := Want.lift w1
  cases d1 with
  | err c ns ds =>
    have e1 : (tbl.lookup c).map D.bl = some dz := e1
    cases q : tbl.lookup c with
    | none => rw [q] at e1; cases e1
    | some b =>
      rw [q] at e1; cases e1
      obtain ⟨a, C1, d, fs, rfl, ea, g1, _, hd, _⟩ := errV_inv hx h1
      obtain ⟨D1, b1, b2, b3⟩ := hB.at q
      have g1 : X.mg c = some (.ref C1) := g1
      rw [g1] at b1; cases b1
      exact ⟨a, C1, d, .ty TY, .type TY, b, rfl, ea, b2, xdO_of hd, fun u r => r, b3, w2 (.bl b) H1 r1 (.bl b) s1⟩
  | _ => cases e1
/-- the attribute of an error -/
theorem pe_xfV {te : TE} {n : Str} (he : PE X e te) (hb : attributeBase e n X.env (eval e X.env) = eval e X.env := by rfl) :
    PE X (.Attribute e n pos) (fun σ H Q => te σ H fun x H1 => ∃ (a C dd : Addr) (fs : List (Str × V)) (v : V), x = .ref a ∧ H1 a = some (HO.xo C (some dd) a) ∧ excB X.K C = true ∧ PySem.W.findIn X.K (.ref C) n = some none ∧ H1 dd = some (.xd fs) ∧ fs.lookup n = some v ∧ Q v H1) := by
  refine ⟨fun pins s σ H Q I h => ?_⟩
  refine attr_of hb (thn (he.run pins s σ H _ I h) fun u s1 hh => ?_)
  obtain ⟨x, H1, I1, rx, a, C, dd, fs, v, rfl, eo, hB, hno, ea, l, q⟩ := hh
  obtain rfl : u = Value.ref a := rx
  have T := excC_of hB
  obtain ⟨oe, vs, ha, hc1, hc2, hd⟩ := (I1.hok a _ eo).1
  have hx : ObjOk X.prog X.w H1 s1.heap dd (.xd fs) := I1.hok dd _ ea
  obtain ⟨mA, hns, hr⟩ := hx
  obtain ⟨od, ho, hl⟩ := lookIn_ns hns
  obtain ⟨u, hu, ru⟩ := RelO.some_of (v := v) (o := mA n) (by rw [← l]; exact hr n)
  have J : PySem.W.InstAt s1.heap a oe C (some od) := ⟨ha, hc1, by unfold PySem.W.notCls; rw [hd] <;> rfl, by rw [hc2]; exact ho⟩
  exact HandSPX.exc_get I1.kIn J T.hg T.hk T.hs (PySem.W.findObj_own T.hd hno rfl (by rw [hl, hu])) (handed_of ru) ⟨v, H1, I1.tok _, ru, q⟩
theorem e_xfV {cs : List Str} (hx : ∀ a, Tb.ex a = none) (hB : XfX X.K X.mg f cs) (he : EV X W fx e fe) (hb : attributeBase e f X.env (eval e X.env) = eval e X.env := by rfl) : EV X W fx (.Attribute e f pos) (mUn (dXf cs f) fe) := by
  refine PE.imp (pe_xfV he hb) fun σ H Q h => ?_
  obtain ⟨m₀, ρ, rr, w⟩ := h
  refine tE.first rr w fun d1 ρ1 v H1 r1 h1 s1 w1 => ?_
  obtain ⟨dz, e1, w2⟩ := Want.lift w1
  cases d1 with
  | err c ns ds =>
    have e1 : (if c ∈ cs then ixF f ns ds else none) = some dz := e1
    split at e1
    · rename_i hc
      obtain ⟨a, C1, d, fs, rfl, ea, g1, rfl, hd, hA⟩ := errV_inv hx h1
      obtain ⟨D1, b1, b2, b3⟩ := hB.at hc
      have g1 : X.mg c = some (.ref C1) := g1
      rw [g1] at b1; cases b1
      obtain ⟨w', l, r⟩ := fld_get hA e1
      rcases hd with ⟨rfl, _⟩ | ⟨dx, rfl, _, q2⟩
      · cases l
      · exact ⟨a, C1, dx, fs, w', rfl, ea, b2, b3, q2, l, w2 w' H1 r1 r s1⟩
    · cases e1
  | _ => cases e1
/-- the tables of facts -/
def GlX (K : PySem.W.Frag) (mg : Str → Option Value) : List Str → Prop
  | [] => True
  | c :: r => mg c = some (.ref (He.fAd K (c, none))) ∧ GlX K mg r
theorem IsX.of {K : PySem.W.Frag} {mg : Str → Option Value} {cv : Value} : ∀ {tbl : List (Str × Bool)}, GlX K mg (tbl.map (·.1)) → (∀ p ∈ tbl, excB K (He.fAd K (p.1, none)) = true ∧ PySem.W.kitOne K (.ref (He.fAd K (p.1, none))) cv = some p.2) → IsX K mg cv tbl
  | [], _, _ => trivial
  | p :: r, g, h => ⟨⟨_, g.1, (h p List.mem_cons_self).1, (h p List.mem_cons_self).2⟩, IsX.of (tbl := r) g.2 fun x hx => h x (List.mem_cons_of_mem _ hx)⟩
end
end PV
namespace PV
open PySem PySem.Spec PyProof.Rows L2
def top (i : Nat) : Stmt := PySem.Challenge.pw_ironships_k01_errors_each_of_its_own.main.body.getD i (.Pass ⟨0, 0, 0, 0⟩)
abbrev s__law_deal : Stmt := top 34
abbrev N__law_deal : List Str := ["_law_lode_here", "_law_many", "_law_factor", "_law_digit"]
abbrev s__law_some : Stmt := top 35
abbrev N__law_some : List Str := ["_law_lode_here", "_law_some_here"]
abbrev s__law_about : Stmt := top 36
abbrev N__law_about : List Str := ["_law_lode_here", "_law_wide", "_law_high"]
abbrev s__law_given : Stmt := top 37
abbrev N__law_given : List Str := ["_law_thing", "_law_one", "_law_two"]
abbrev s__law_marks : Stmt := top 39
abbrev N__law_marks : List Str := ["_law_e", "_law_found"]
abbrev s__law_stand : Stmt := top 40
abbrev N__law_stand : List Str := ["_law_errors", "_law_start", "_law_at", "_law_marks_here", "_law_k"]
abbrev s__law_indexed : Stmt := top 38
abbrev N__law_indexed : List Str := ["_law_thing", "_law_one", "_law_two"]
abbrev s__law_right : Stmt := top 41
abbrev N__law_right : List Str := ["_law_lode_here", "_law_some_here", "_law_errors", "_law_thing", "_law_other", "_law_base", "_law_bare", "_law_e"]
abbrev s__law_lode : Stmt := top 33
abbrev N__law_lode : List Str := ["_law_script", "_law_lap", "_law_cell", "_law_stirred", "_law_each"]
abbrev s_law : Stmt := top 42
abbrev N_law : List Str := ["_law_script", "_law_lap"]
abbrev s_InvalidSurd___init__ : Stmt := (clsBody (top 5)).getD 0 (.Pass ⟨0, 0, 0, 0⟩)
abbrev s_InvalidIndex___init__ : Stmt := (clsBody (top 4)).getD 0 (.Pass ⟨0, 0, 0, 0⟩)
abbrev s_InvalidNumber___init__ : Stmt := (clsBody (top 3)).getD 0 (.Pass ⟨0, 0, 0, 0⟩)
abbrev s_InvalidFraction___init__ : Stmt := (clsBody (top 2)).getD 0 (.Pass ⟨0, 0, 0, 0⟩)
abbrev s_InvalidIron___init__ : Stmt := (clsBody (top 9)).getD 0 (.Pass ⟨0, 0, 0, 0⟩)
abbrev s_InvalidWave___init__ : Stmt := (clsBody (top 8)).getD 0 (.Pass ⟨0, 0, 0, 0⟩)
abbrev s_InvalidCourse___init__ : Stmt := (clsBody (top 7)).getD 0 (.Pass ⟨0, 0, 0, 0⟩)
abbrev s_InvalidHeading___init__ : Stmt := (clsBody (top 6)).getD 0 (.Pass ⟨0, 0, 0, 0⟩)
abbrev s_InvalidForce___init__ : Stmt := (clsBody (top 13)).getD 0 (.Pass ⟨0, 0, 0, 0⟩)
abbrev s_InvalidFive___init__ : Stmt := (clsBody (top 12)).getD 0 (.Pass ⟨0, 0, 0, 0⟩)
abbrev s_InvalidPlace___init__ : Stmt := (clsBody (top 11)).getD 0 (.Pass ⟨0, 0, 0, 0⟩)
abbrev s_InvalidPiece___init__ : Stmt := (clsBody (top 10)).getD 0 (.Pass ⟨0, 0, 0, 0⟩)
abbrev s_InvalidPhrase___init__ : Stmt := (clsBody (top 17)).getD 0 (.Pass ⟨0, 0, 0, 0⟩)
abbrev s_InvalidWish___init__ : Stmt := (clsBody (top 16)).getD 0 (.Pass ⟨0, 0, 0, 0⟩)
abbrev s_InvalidName___init__ : Stmt := (clsBody (top 15)).getD 0 (.Pass ⟨0, 0, 0, 0⟩)
abbrev s_InvalidReading___init__ : Stmt := (clsBody (top 14)).getD 0 (.Pass ⟨0, 0, 0, 0⟩)
abbrev s_HighBelowLow___init__ : Stmt := (clsBody (top 20)).getD 0 (.Pass ⟨0, 0, 0, 0⟩)
abbrev s_NotAWorkshop___init__ : Stmt := (clsBody (top 19)).getD 0 (.Pass ⟨0, 0, 0, 0⟩)
abbrev s_UnknownName___init__ : Stmt := (clsBody (top 18)).getD 0 (.Pass ⟨0, 0, 0, 0⟩)
abbrev s_InUse___init__ : Stmt := (clsBody (top 25)).getD 0 (.Pass ⟨0, 0, 0, 0⟩)
abbrev s_InvalidCounts___init__ : Stmt := (clsBody (top 24)).getD 0 (.Pass ⟨0, 0, 0, 0⟩)
abbrev s_InvalidBox___init__ : Stmt := (clsBody (top 23)).getD 0 (.Pass ⟨0, 0, 0, 0⟩)
abbrev s_InvalidSea___init__ : Stmt := (clsBody (top 22)).getD 0 (.Pass ⟨0, 0, 0, 0⟩)
abbrev s_InvalidReadings___init__ : Stmt := (clsBody (top 21)).getD 0 (.Pass ⟨0, 0, 0, 0⟩)
abbrev s_Broken___init__ : Stmt := (clsBody (top 26)).getD 0 (.Pass ⟨0, 0, 0, 0⟩)
def dd__law_deal : He.DefD := ⟨("_law_deal", none), "_law_deal", "_law_deal", defArgs s__law_deal, defBody s__law_deal, defScope s__law_deal, [], []⟩
def dd__law_some : He.DefD := ⟨("_law_some", none), "_law_some", "_law_some", defArgs s__law_some, defBody s__law_some, defScope s__law_some, [], []⟩
def dd__law_about : He.DefD := ⟨("_law_about", none), "_law_about", "_law_about", defArgs s__law_about, defBody s__law_about, defScope s__law_about, [], []⟩
def dd_InvalidSurd___init__ : He.DefD := ⟨("InvalidSurd", some "__init__"), "__init__", "InvalidSurd.__init__", defArgs s_InvalidSurd___init__, defBody s_InvalidSurd___init__, defScope s_InvalidSurd___init__, [], []⟩
def dd_InvalidIndex___init__ : He.DefD := ⟨("InvalidIndex", some "__init__"), "__init__", "InvalidIndex.__init__", defArgs s_InvalidIndex___init__, defBody s_InvalidIndex___init__, defScope s_InvalidIndex___init__, [], []⟩
def dd_InvalidNumber___init__ : He.DefD := ⟨("InvalidNumber", some "__init__"), "__init__", "InvalidNumber.__init__", defArgs s_InvalidNumber___init__, defBody s_InvalidNumber___init__, defScope s_InvalidNumber___init__, [], []⟩
def dd_InvalidFraction___init__ : He.DefD := ⟨("InvalidFraction", some "__init__"), "__init__", "InvalidFraction.__init__", defArgs s_InvalidFraction___init__, defBody s_InvalidFraction___init__, defScope s_InvalidFraction___init__, [], []⟩
def dd_InvalidIron___init__ : He.DefD := ⟨("InvalidIron", some "__init__"), "__init__", "InvalidIron.__init__", defArgs s_InvalidIron___init__, defBody s_InvalidIron___init__, defScope s_InvalidIron___init__, [], []⟩
def dd_InvalidWave___init__ : He.DefD := ⟨("InvalidWave", some "__init__"), "__init__", "InvalidWave.__init__", defArgs s_InvalidWave___init__, defBody s_InvalidWave___init__, defScope s_InvalidWave___init__, [], []⟩
def dd_InvalidCourse___init__ : He.DefD := ⟨("InvalidCourse", some "__init__"), "__init__", "InvalidCourse.__init__", defArgs s_InvalidCourse___init__, defBody s_InvalidCourse___init__, defScope s_InvalidCourse___init__, [], []⟩
def dd_InvalidHeading___init__ : He.DefD := ⟨("InvalidHeading", some "__init__"), "__init__", "InvalidHeading.__init__", defArgs s_InvalidHeading___init__, defBody s_InvalidHeading___init__, defScope s_InvalidHeading___init__, [], []⟩
def dd_InvalidForce___init__ : He.DefD := ⟨("InvalidForce", some "__init__"), "__init__", "InvalidForce.__init__", defArgs s_InvalidForce___init__, defBody s_InvalidForce___init__, defScope s_InvalidForce___init__, [], []⟩
def dd_InvalidFive___init__ : He.DefD := ⟨("InvalidFive", some "__init__"), "__init__", "InvalidFive.__init__", defArgs s_InvalidFive___init__, defBody s_InvalidFive___init__, defScope s_InvalidFive___init__, [], []⟩
def dd_InvalidPlace___init__ : He.DefD := ⟨("InvalidPlace", some "__init__"), "__init__", "InvalidPlace.__init__", defArgs s_InvalidPlace___init__, defBody s_InvalidPlace___init__, defScope s_InvalidPlace___init__, [], []⟩
def dd_InvalidPiece___init__ : He.DefD := ⟨("InvalidPiece", some "__init__"), "__init__", "InvalidPiece.__init__", defArgs s_InvalidPiece___init__, defBody s_InvalidPiece___init__, defScope s_InvalidPiece___init__, [], []⟩
def dd_InvalidPhrase___init__ : He.DefD := ⟨("InvalidPhrase", some "__init__"), "__init__", "InvalidPhrase.__init__", defArgs s_InvalidPhrase___init__, defBody s_InvalidPhrase___init__, defScope s_InvalidPhrase___init__, [], []⟩
def dd_InvalidWish___init__ : He.DefD := ⟨("InvalidWish", some "__init__"), "__init__", "InvalidWish.__init__", defArgs s_InvalidWish___init__, defBody s_InvalidWish___init__, defScope s_InvalidWish___init__, [], []⟩
def dd_InvalidName___init__ : He.DefD := ⟨("InvalidName", some "__init__"), "__init__", "InvalidName.__init__", defArgs s_InvalidName___init__, defBody s_InvalidName___init__, defScope s_InvalidName___init__, [], []⟩
def dd_InvalidReading___init__ : He.DefD := ⟨("InvalidReading", some "__init__"), "__init__", "InvalidReading.__init__", defArgs s_InvalidReading___init__, defBody s_InvalidReading___init__, defScope s_InvalidReading___init__, [], []⟩
def dd_HighBelowLow___init__ : He.DefD := ⟨("HighBelowLow", some "__init__"), "__init__", "HighBelowLow.__init__", defArgs s_HighBelowLow___init__, defBody s_HighBelowLow___init__, defScope s_HighBelowLow___init__, [], []⟩
def dd_NotAWorkshop___init__ : He.DefD := ⟨("NotAWorkshop", some "__init__"), "__init__", "NotAWorkshop.__init__", defArgs s_NotAWorkshop___init__, defBody s_NotAWorkshop___init__, defScope s_NotAWorkshop___init__, [], []⟩
def dd_UnknownName___init__ : He.DefD := ⟨("UnknownName", some "__init__"), "__init__", "UnknownName.__init__", defArgs s_UnknownName___init__, defBody s_UnknownName___init__, defScope s_UnknownName___init__, [], []⟩
def dd__law_given : He.DefD := ⟨("_law_given", none), "_law_given", "_law_given", defArgs s__law_given, defBody s__law_given, defScope s__law_given, [], []⟩
def dd__law_marks : He.DefD := ⟨("_law_marks", none), "_law_marks", "_law_marks", defArgs s__law_marks, defBody s__law_marks, defScope s__law_marks, [], []⟩
def dd__law_stand : He.DefD := ⟨("_law_stand", none), "_law_stand", "_law_stand", defArgs s__law_stand, defBody s__law_stand, defScope s__law_stand, [], []⟩
def dd_InUse___init__ : He.DefD := ⟨("InUse", some "__init__"), "__init__", "InUse.__init__", defArgs s_InUse___init__, defBody s_InUse___init__, defScope s_InUse___init__, [], []⟩
def dd_InvalidCounts___init__ : He.DefD := ⟨("InvalidCounts", some "__init__"), "__init__", "InvalidCounts.__init__", defArgs s_InvalidCounts___init__, defBody s_InvalidCounts___init__, defScope s_InvalidCounts___init__, [], []⟩
def dd_InvalidBox___init__ : He.DefD := ⟨("InvalidBox", some "__init__"), "__init__", "InvalidBox.__init__", defArgs s_InvalidBox___init__, defBody s_InvalidBox___init__, defScope s_InvalidBox___init__, [], []⟩
def dd_InvalidSea___init__ : He.DefD := ⟨("InvalidSea", some "__init__"), "__init__", "InvalidSea.__init__", defArgs s_InvalidSea___init__, defBody s_InvalidSea___init__, defScope s_InvalidSea___init__, [], []⟩
def dd_InvalidReadings___init__ : He.DefD := ⟨("InvalidReadings", some "__init__"), "__init__", "InvalidReadings.__init__", defArgs s_InvalidReadings___init__, defBody s_InvalidReadings___init__, defScope s_InvalidReadings___init__, [], []⟩
def dd_Broken___init__ : He.DefD := ⟨("Broken", some "__init__"), "__init__", "Broken.__init__", defArgs s_Broken___init__, defBody s_Broken___init__, defScope s_Broken___init__, [], []⟩
def dd__law_indexed : He.DefD := ⟨("_law_indexed", none), "_law_indexed", "_law_indexed", defArgs s__law_indexed, defBody s__law_indexed, defScope s__law_indexed, [], []⟩
def dd__law_right : He.DefD := ⟨("_law_right", none), "_law_right", "_law_right", defArgs s__law_right, defBody s__law_right, defScope s__law_right, [], []⟩
def dd__law_lode : He.DefD := ⟨("_law_lode", none), "_law_lode", "_law_lode", defArgs s__law_lode, defBody s__law_lode, defScope s__law_lode, [], []⟩
def dd_law : He.DefD := ⟨("law", none), "law", "law", defArgs s_law, defBody s_law, defScope s_law, [], []⟩
def fs_0 : List Fp := [.free "range", .free "divmod", .free "int", .fn "_law_deal", .free "len", .fn "_law_some", .fn "_law_about", .fn "InvalidSurd", .fn "InvalidIndex", .fn "InvalidNumber", .fn "InvalidFraction", .fn "InvalidIron", .fn "InvalidWave", .fn "InvalidCourse", .fn "InvalidHeading", .fn "InvalidForce", .fn "InvalidFive", .fn "InvalidPlace", .fn "InvalidPiece", .fn "InvalidPhrase", .fn "InvalidWish", .fn "InvalidName", .fn "InvalidReading", .fn "HighBelowLow", .fn "NotAWorkshop", .fn "UnknownName", .fn "_law_given", .isA "InvalidIndex" [("CompassError", false), ("InvalidFraction", false), ("InvalidNumber", false), ("InvalidIndex", true), ("InvalidSurd", false), ("InvalidHeading", false), ("InvalidCourse", false), ("InvalidWave", false), ("InvalidIron", false), ("InvalidPiece", false), ("InvalidPlace", false), ("InvalidFive", false), ("InvalidForce", false), ("InvalidReading", false), ("InvalidName", false), ("InvalidWish", false), ("InvalidPhrase", false), ("UnknownName", false), ("NotAWorkshop", false), ("HighBelowLow", false), ("InvalidReadings", false), ("InvalidSea", false), ("InvalidBox", false), ("InvalidCounts", false), ("InUse", false), ("Broken", false), ("TooMuchIron", false), ("NotAhead", false), ("SameDip", false), ("NoneFits", false), ("NothingToUndo", false)], .free "isinstance", .isA "InvalidNumber" [("CompassError", false), ("InvalidFraction", false), ("InvalidNumber", true), ("InvalidIndex", false), ("InvalidSurd", false), ("InvalidHeading", false), ("InvalidCourse", false), ("InvalidWave", false), ("InvalidIron", false), ("InvalidPiece", false), ("InvalidPlace", false), ("InvalidFive", false), ("InvalidForce", false), ("InvalidReading", false), ("InvalidName", false), ("InvalidWish", false), ("InvalidPhrase", false), ("UnknownName", false), ("NotAWorkshop", false), ("HighBelowLow", false), ("InvalidReadings", false), ("InvalidSea", false), ("InvalidBox", false), ("InvalidCounts", false), ("InUse", false), ("Broken", false), ("TooMuchIron", false), ("NotAhead", false), ("SameDip", false), ("NoneFits", false), ("NothingToUndo", false)]]
def fs_1 : List Fp := [.isA "InvalidFraction" [("CompassError", false), ("InvalidFraction", true), ("InvalidNumber", false), ("InvalidIndex", false), ("InvalidSurd", false), ("InvalidHeading", false), ("InvalidCourse", false), ("InvalidWave", false), ("InvalidIron", false), ("InvalidPiece", false), ("InvalidPlace", false), ("InvalidFive", false), ("InvalidForce", false), ("InvalidReading", false), ("InvalidName", false), ("InvalidWish", false), ("InvalidPhrase", false), ("UnknownName", false), ("NotAWorkshop", false), ("HighBelowLow", false), ("InvalidReadings", false), ("InvalidSea", false), ("InvalidBox", false), ("InvalidCounts", false), ("InUse", false), ("Broken", false), ("TooMuchIron", false), ("NotAhead", false), ("SameDip", false), ("NoneFits", false), ("NothingToUndo", false)], .isA "InvalidCourse" [("CompassError", false), ("InvalidFraction", false), ("InvalidNumber", false), ("InvalidIndex", false), ("InvalidSurd", false), ("InvalidHeading", false), ("InvalidCourse", true), ("InvalidWave", false), ("InvalidIron", false), ("InvalidPiece", false), ("InvalidPlace", false), ("InvalidFive", false), ("InvalidForce", false), ("InvalidReading", false), ("InvalidName", false), ("InvalidWish", false), ("InvalidPhrase", false), ("UnknownName", false), ("NotAWorkshop", false), ("HighBelowLow", false), ("InvalidReadings", false), ("InvalidSea", false), ("InvalidBox", false), ("InvalidCounts", false), ("InUse", false), ("Broken", false), ("TooMuchIron", false), ("NotAhead", false), ("SameDip", false), ("NoneFits", false), ("NothingToUndo", false)], .isA "InvalidHeading" [("CompassError", false), ("InvalidFraction", false), ("InvalidNumber", false), ("InvalidIndex", false), ("InvalidSurd", false), ("InvalidHeading", true), ("InvalidCourse", false), ("InvalidWave", false), ("InvalidIron", false), ("InvalidPiece", false), ("InvalidPlace", false), ("InvalidFive", false), ("InvalidForce", false), ("InvalidReading", false), ("InvalidName", false), ("InvalidWish", false), ("InvalidPhrase", false), ("UnknownName", false), ("NotAWorkshop", false), ("HighBelowLow", false), ("InvalidReadings", false), ("InvalidSea", false), ("InvalidBox", false), ("InvalidCounts", false), ("InUse", false), ("Broken", false), ("TooMuchIron", false), ("NotAhead", false), ("SameDip", false), ("NoneFits", false), ("NothingToUndo", false)], .isA "InvalidSurd" [("CompassError", false), ("InvalidFraction", false), ("InvalidNumber", false), ("InvalidIndex", false), ("InvalidSurd", true), ("InvalidHeading", false), ("InvalidCourse", false), ("InvalidWave", false), ("InvalidIron", false), ("InvalidPiece", false), ("InvalidPlace", false), ("InvalidFive", false), ("InvalidForce", false), ("InvalidReading", false), ("InvalidName", false), ("InvalidWish", false), ("InvalidPhrase", false), ("UnknownName", false), ("NotAWorkshop", false), ("HighBelowLow", false), ("InvalidReadings", false), ("InvalidSea", false), ("InvalidBox", false), ("InvalidCounts", false), ("InUse", false), ("Broken", false), ("TooMuchIron", false), ("NotAhead", false), ("SameDip", false), ("NoneFits", false), ("NothingToUndo", false)], .isA "InvalidPiece" [("CompassError", false), ("InvalidFraction", false), ("InvalidNumber", false), ("InvalidIndex", false), ("InvalidSurd", false), ("InvalidHeading", false), ("InvalidCourse", false), ("InvalidWave", false), ("InvalidIron", false), ("InvalidPiece", true), ("InvalidPlace", false), ("InvalidFive", false), ("InvalidForce", false), ("InvalidReading", false), ("InvalidName", false), ("InvalidWish", false), ("InvalidPhrase", false), ("UnknownName", false), ("NotAWorkshop", false), ("HighBelowLow", false), ("InvalidReadings", false), ("InvalidSea", false), ("InvalidBox", false), ("InvalidCounts", false), ("InUse", false), ("Broken", false), ("TooMuchIron", false), ("NotAhead", false), ("SameDip", false), ("NoneFits", false), ("NothingToUndo", false)], .isA "InvalidIron" [("CompassError", false), ("InvalidFraction", false), ("InvalidNumber", false), ("InvalidIndex", false), ("InvalidSurd", false), ("InvalidHeading", false), ("InvalidCourse", false), ("InvalidWave", false), ("InvalidIron", true), ("InvalidPiece", false), ("InvalidPlace", false), ("InvalidFive", false), ("InvalidForce", false), ("InvalidReading", false), ("InvalidName", false), ("InvalidWish", false), ("InvalidPhrase", false), ("UnknownName", false), ("NotAWorkshop", false), ("HighBelowLow", false), ("InvalidReadings", false), ("InvalidSea", false), ("InvalidBox", false), ("InvalidCounts", false), ("InUse", false), ("Broken", false), ("TooMuchIron", false), ("NotAhead", false), ("SameDip", false), ("NoneFits", false), ("NothingToUndo", false)], .isA "InvalidWave" [("CompassError", false), ("InvalidFraction", false), ("InvalidNumber", false), ("InvalidIndex", false), ("InvalidSurd", false), ("InvalidHeading", false), ("InvalidCourse", false), ("InvalidWave", true), ("InvalidIron", false), ("InvalidPiece", false), ("InvalidPlace", false), ("InvalidFive", false), ("InvalidForce", false), ("InvalidReading", false), ("InvalidName", false), ("InvalidWish", false), ("InvalidPhrase", false), ("UnknownName", false), ("NotAWorkshop", false), ("HighBelowLow", false), ("InvalidReadings", false), ("InvalidSea", false), ("InvalidBox", false), ("InvalidCounts", false), ("InUse", false), ("Broken", false), ("TooMuchIron", false), ("NotAhead", false), ("SameDip", false), ("NoneFits", false), ("NothingToUndo", false)], .isA "InvalidForce" [("CompassError", false), ("InvalidFraction", false), ("InvalidNumber", false), ("InvalidIndex", false), ("InvalidSurd", false), ("InvalidHeading", false), ("InvalidCourse", false), ("InvalidWave", false), ("InvalidIron", false), ("InvalidPiece", false), ("InvalidPlace", false), ("InvalidFive", false), ("InvalidForce", true), ("InvalidReading", false), ("InvalidName", false), ("InvalidWish", false), ("InvalidPhrase", false), ("UnknownName", false), ("NotAWorkshop", false), ("HighBelowLow", false), ("InvalidReadings", false), ("InvalidSea", false), ("InvalidBox", false), ("InvalidCounts", false), ("InUse", false), ("Broken", false), ("TooMuchIron", false), ("NotAhead", false), ("SameDip", false), ("NoneFits", false), ("NothingToUndo", false)], .isA "InvalidFive" [("CompassError", false), ("InvalidFraction", false), ("InvalidNumber", false), ("InvalidIndex", false), ("InvalidSurd", false), ("InvalidHeading", false), ("InvalidCourse", false), ("InvalidWave", false), ("InvalidIron", false), ("InvalidPiece", false), ("InvalidPlace", false), ("InvalidFive", true), ("InvalidForce", false), ("InvalidReading", false), ("InvalidName", false), ("InvalidWish", false), ("InvalidPhrase", false), ("UnknownName", false), ("NotAWorkshop", false), ("HighBelowLow", false), ("InvalidReadings", false), ("InvalidSea", false), ("InvalidBox", false), ("InvalidCounts", false), ("InUse", false), ("Broken", false), ("TooMuchIron", false), ("NotAhead", false), ("SameDip", false), ("NoneFits", false), ("NothingToUndo", false)], .isA "InvalidPlace" [("CompassError", false), ("InvalidFraction", false), ("InvalidNumber", false), ("InvalidIndex", false), ("InvalidSurd", false), ("InvalidHeading", false), ("InvalidCourse", false), ("InvalidWave", false), ("InvalidIron", false), ("InvalidPiece", false), ("InvalidPlace", true), ("InvalidFive", false), ("InvalidForce", false), ("InvalidReading", false), ("InvalidName", false), ("InvalidWish", false), ("InvalidPhrase", false), ("UnknownName", false), ("NotAWorkshop", false), ("HighBelowLow", false), ("InvalidReadings", false), ("InvalidSea", false), ("InvalidBox", false), ("InvalidCounts", false), ("InUse", false), ("Broken", false), ("TooMuchIron", false), ("NotAhead", false), ("SameDip", false), ("NoneFits", false), ("NothingToUndo", false)], .isA "InvalidWish" [("CompassError", false), ("InvalidFraction", false), ("InvalidNumber", false), ("InvalidIndex", false), ("InvalidSurd", false), ("InvalidHeading", false), ("InvalidCourse", false), ("InvalidWave", false), ("InvalidIron", false), ("InvalidPiece", false), ("InvalidPlace", false), ("InvalidFive", false), ("InvalidForce", false), ("InvalidReading", false), ("InvalidName", false), ("InvalidWish", true), ("InvalidPhrase", false), ("UnknownName", false), ("NotAWorkshop", false), ("HighBelowLow", false), ("InvalidReadings", false), ("InvalidSea", false), ("InvalidBox", false), ("InvalidCounts", false), ("InUse", false), ("Broken", false), ("TooMuchIron", false), ("NotAhead", false), ("SameDip", false), ("NoneFits", false), ("NothingToUndo", false)], .isA "InvalidName" [("CompassError", false), ("InvalidFraction", false), ("InvalidNumber", false), ("InvalidIndex", false), ("InvalidSurd", false), ("InvalidHeading", false), ("InvalidCourse", false), ("InvalidWave", false), ("InvalidIron", false), ("InvalidPiece", false), ("InvalidPlace", false), ("InvalidFive", false), ("InvalidForce", false), ("InvalidReading", false), ("InvalidName", true), ("InvalidWish", false), ("InvalidPhrase", false), ("UnknownName", false), ("NotAWorkshop", false), ("HighBelowLow", false), ("InvalidReadings", false), ("InvalidSea", false), ("InvalidBox", false), ("InvalidCounts", false), ("InUse", false), ("Broken", false), ("TooMuchIron", false), ("NotAhead", false), ("SameDip", false), ("NoneFits", false), ("NothingToUndo", false)], .isA "InvalidReading" [("CompassError", false), ("InvalidFraction", false), ("InvalidNumber", false), ("InvalidIndex", false), ("InvalidSurd", false), ("InvalidHeading", false), ("InvalidCourse", false), ("InvalidWave", false), ("InvalidIron", false), ("InvalidPiece", false), ("InvalidPlace", false), ("InvalidFive", false), ("InvalidForce", false), ("InvalidReading", true), ("InvalidName", false), ("InvalidWish", false), ("InvalidPhrase", false), ("UnknownName", false), ("NotAWorkshop", false), ("HighBelowLow", false), ("InvalidReadings", false), ("InvalidSea", false), ("InvalidBox", false), ("InvalidCounts", false), ("InUse", false), ("Broken", false), ("TooMuchIron", false), ("NotAhead", false), ("SameDip", false), ("NoneFits", false), ("NothingToUndo", false)], .isA "NotAWorkshop" [("CompassError", false), ("InvalidFraction", false), ("InvalidNumber", false), ("InvalidIndex", false), ("InvalidSurd", false), ("InvalidHeading", false), ("InvalidCourse", false), ("InvalidWave", false), ("InvalidIron", false), ("InvalidPiece", false), ("InvalidPlace", false), ("InvalidFive", false), ("InvalidForce", false), ("InvalidReading", false), ("InvalidName", false), ("InvalidWish", false), ("InvalidPhrase", false), ("UnknownName", false), ("NotAWorkshop", true), ("HighBelowLow", false), ("InvalidReadings", false), ("InvalidSea", false), ("InvalidBox", false), ("InvalidCounts", false), ("InUse", false), ("Broken", false), ("TooMuchIron", false), ("NotAhead", false), ("SameDip", false), ("NoneFits", false), ("NothingToUndo", false)], .isA "UnknownName" [("CompassError", false), ("InvalidFraction", false), ("InvalidNumber", false), ("InvalidIndex", false), ("InvalidSurd", false), ("InvalidHeading", false), ("InvalidCourse", false), ("InvalidWave", false), ("InvalidIron", false), ("InvalidPiece", false), ("InvalidPlace", false), ("InvalidFive", false), ("InvalidForce", false), ("InvalidReading", false), ("InvalidName", false), ("InvalidWish", false), ("InvalidPhrase", false), ("UnknownName", true), ("NotAWorkshop", false), ("HighBelowLow", false), ("InvalidReadings", false), ("InvalidSea", false), ("InvalidBox", false), ("InvalidCounts", false), ("InUse", false), ("Broken", false), ("TooMuchIron", false), ("NotAhead", false), ("SameDip", false), ("NoneFits", false), ("NothingToUndo", false)], .isA "InvalidPhrase" [("CompassError", false), ("InvalidFraction", false), ("InvalidNumber", false), ("InvalidIndex", false), ("InvalidSurd", false), ("InvalidHeading", false), ("InvalidCourse", false), ("InvalidWave", false), ("InvalidIron", false), ("InvalidPiece", false), ("InvalidPlace", false), ("InvalidFive", false), ("InvalidForce", false), ("InvalidReading", false), ("InvalidName", false), ("InvalidWish", false), ("InvalidPhrase", true), ("UnknownName", false), ("NotAWorkshop", false), ("HighBelowLow", false), ("InvalidReadings", false), ("InvalidSea", false), ("InvalidBox", false), ("InvalidCounts", false), ("InUse", false), ("Broken", false), ("TooMuchIron", false), ("NotAhead", false), ("SameDip", false), ("NoneFits", false), ("NothingToUndo", false)], .isA "InvalidSea" [("CompassError", false), ("InvalidFraction", false), ("InvalidNumber", false), ("InvalidIndex", false), ("InvalidSurd", false), ("InvalidHeading", false), ("InvalidCourse", false), ("InvalidWave", false), ("InvalidIron", false), ("InvalidPiece", false), ("InvalidPlace", false), ("InvalidFive", false), ("InvalidForce", false), ("InvalidReading", false), ("InvalidName", false), ("InvalidWish", false), ("InvalidPhrase", false), ("UnknownName", false), ("NotAWorkshop", false), ("HighBelowLow", false), ("InvalidReadings", false), ("InvalidSea", true), ("InvalidBox", false), ("InvalidCounts", false), ("InUse", false), ("Broken", false), ("TooMuchIron", false), ("NotAhead", false), ("SameDip", false), ("NoneFits", false), ("NothingToUndo", false)], .fn "InvalidSea", .isA "InvalidReadings" [("CompassError", false), ("InvalidFraction", false), ("InvalidNumber", false), ("InvalidIndex", false), ("InvalidSurd", false), ("InvalidHeading", false), ("InvalidCourse", false), ("InvalidWave", false), ("InvalidIron", false), ("InvalidPiece", false), ("InvalidPlace", false), ("InvalidFive", false), ("InvalidForce", false), ("InvalidReading", false), ("InvalidName", false), ("InvalidWish", false), ("InvalidPhrase", false), ("UnknownName", false), ("NotAWorkshop", false), ("HighBelowLow", false), ("InvalidReadings", true), ("InvalidSea", false), ("InvalidBox", false), ("InvalidCounts", false), ("InUse", false), ("Broken", false), ("TooMuchIron", false), ("NotAhead", false), ("SameDip", false), ("NoneFits", false), ("NothingToUndo", false)], .fn "InvalidReadings", .isA "HighBelowLow" [("CompassError", false), ("InvalidFraction", false), ("InvalidNumber", false), ("InvalidIndex", false), ("InvalidSurd", false), ("InvalidHeading", false), ("InvalidCourse", false), ("InvalidWave", false), ("InvalidIron", false), ("InvalidPiece", false), ("InvalidPlace", false), ("InvalidFive", false), ("InvalidForce", false), ("InvalidReading", false), ("InvalidName", false), ("InvalidWish", false), ("InvalidPhrase", false), ("UnknownName", false), ("NotAWorkshop", false), ("HighBelowLow", true), ("InvalidReadings", false), ("InvalidSea", false), ("InvalidBox", false), ("InvalidCounts", false), ("InUse", false), ("Broken", false), ("TooMuchIron", false), ("NotAhead", false), ("SameDip", false), ("NoneFits", false), ("NothingToUndo", false)], .isA "InUse" [("CompassError", false), ("InvalidFraction", false), ("InvalidNumber", false), ("InvalidIndex", false), ("InvalidSurd", false), ("InvalidHeading", false), ("InvalidCourse", false), ("InvalidWave", false), ("InvalidIron", false), ("InvalidPiece", false), ("InvalidPlace", false), ("InvalidFive", false), ("InvalidForce", false), ("InvalidReading", false), ("InvalidName", false), ("InvalidWish", false), ("InvalidPhrase", false), ("UnknownName", false), ("NotAWorkshop", false), ("HighBelowLow", false), ("InvalidReadings", false), ("InvalidSea", false), ("InvalidBox", false), ("InvalidCounts", false), ("InUse", true), ("Broken", false), ("TooMuchIron", false), ("NotAhead", false), ("SameDip", false), ("NoneFits", false), ("NothingToUndo", false)], .fn "InUse", .isA "InvalidCounts" [("CompassError", false), ("InvalidFraction", false), ("InvalidNumber", false), ("InvalidIndex", false), ("InvalidSurd", false), ("InvalidHeading", false), ("InvalidCourse", false), ("InvalidWave", false), ("InvalidIron", false), ("InvalidPiece", false), ("InvalidPlace", false), ("InvalidFive", false), ("InvalidForce", false), ("InvalidReading", false), ("InvalidName", false), ("InvalidWish", false), ("InvalidPhrase", false), ("UnknownName", false), ("NotAWorkshop", false), ("HighBelowLow", false), ("InvalidReadings", false), ("InvalidSea", false), ("InvalidBox", false), ("InvalidCounts", true), ("InUse", false), ("Broken", false), ("TooMuchIron", false), ("NotAhead", false), ("SameDip", false), ("NoneFits", false), ("NothingToUndo", false)], .fn "InvalidCounts", .isA "InvalidBox" [("CompassError", false), ("InvalidFraction", false), ("InvalidNumber", false), ("InvalidIndex", false), ("InvalidSurd", false), ("InvalidHeading", false), ("InvalidCourse", false), ("InvalidWave", false), ("InvalidIron", false), ("InvalidPiece", false), ("InvalidPlace", false), ("InvalidFive", false), ("InvalidForce", false), ("InvalidReading", false), ("InvalidName", false), ("InvalidWish", false), ("InvalidPhrase", false), ("UnknownName", false), ("NotAWorkshop", false), ("HighBelowLow", false), ("InvalidReadings", false), ("InvalidSea", false), ("InvalidBox", true), ("InvalidCounts", false), ("InUse", false), ("Broken", false), ("TooMuchIron", false), ("NotAhead", false), ("SameDip", false), ("NoneFits", false), ("NothingToUndo", false)], .fn "InvalidBox", .isA "NotAhead" [("CompassError", false), ("InvalidFraction", false), ("InvalidNumber", false), ("InvalidIndex", false), ("InvalidSurd", false), ("InvalidHeading", false), ("InvalidCourse", false), ("InvalidWave", false), ("InvalidIron", false), ("InvalidPiece", false), ("InvalidPlace", false), ("InvalidFive", false), ("InvalidForce", false), ("InvalidReading", false), ("InvalidName", false), ("InvalidWish", false), ("InvalidPhrase", false), ("UnknownName", false), ("NotAWorkshop", false), ("HighBelowLow", false), ("InvalidReadings", false), ("InvalidSea", false), ("InvalidBox", false), ("InvalidCounts", false), ("InUse", false), ("Broken", false), ("TooMuchIron", false), ("NotAhead", true), ("SameDip", false), ("NoneFits", false), ("NothingToUndo", false)], .fn "NotAhead", .isA "TooMuchIron" [("CompassError", false), ("InvalidFraction", false), ("InvalidNumber", false), ("InvalidIndex", false), ("InvalidSurd", false), ("InvalidHeading", false), ("InvalidCourse", false), ("InvalidWave", false), ("InvalidIron", false), ("InvalidPiece", false), ("InvalidPlace", false), ("InvalidFive", false), ("InvalidForce", false), ("InvalidReading", false), ("InvalidName", false), ("InvalidWish", false), ("InvalidPhrase", false), ("UnknownName", false), ("NotAWorkshop", false), ("HighBelowLow", false), ("InvalidReadings", false), ("InvalidSea", false), ("InvalidBox", false), ("InvalidCounts", false), ("InUse", false), ("Broken", false), ("TooMuchIron", true), ("NotAhead", false), ("SameDip", false), ("NoneFits", false), ("NothingToUndo", false)]]
def fs_2 : List Fp := [.fn "TooMuchIron", .isA "Broken" [("CompassError", false), ("InvalidFraction", false), ("InvalidNumber", false), ("InvalidIndex", false), ("InvalidSurd", false), ("InvalidHeading", false), ("InvalidCourse", false), ("InvalidWave", false), ("InvalidIron", false), ("InvalidPiece", false), ("InvalidPlace", false), ("InvalidFive", false), ("InvalidForce", false), ("InvalidReading", false), ("InvalidName", false), ("InvalidWish", false), ("InvalidPhrase", false), ("UnknownName", false), ("NotAWorkshop", false), ("HighBelowLow", false), ("InvalidReadings", false), ("InvalidSea", false), ("InvalidBox", false), ("InvalidCounts", false), ("InUse", false), ("Broken", true), ("TooMuchIron", false), ("NotAhead", false), ("SameDip", false), ("NoneFits", false), ("NothingToUndo", false)], .fn "Broken", .isA "NothingToUndo" [("CompassError", false), ("InvalidFraction", false), ("InvalidNumber", false), ("InvalidIndex", false), ("InvalidSurd", false), ("InvalidHeading", false), ("InvalidCourse", false), ("InvalidWave", false), ("InvalidIron", false), ("InvalidPiece", false), ("InvalidPlace", false), ("InvalidFive", false), ("InvalidForce", false), ("InvalidReading", false), ("InvalidName", false), ("InvalidWish", false), ("InvalidPhrase", false), ("UnknownName", false), ("NotAWorkshop", false), ("HighBelowLow", false), ("InvalidReadings", false), ("InvalidSea", false), ("InvalidBox", false), ("InvalidCounts", false), ("InUse", false), ("Broken", false), ("TooMuchIron", false), ("NotAhead", false), ("SameDip", false), ("NoneFits", false), ("NothingToUndo", true)], .fn "NothingToUndo", .isA "NoneFits" [("CompassError", false), ("InvalidFraction", false), ("InvalidNumber", false), ("InvalidIndex", false), ("InvalidSurd", false), ("InvalidHeading", false), ("InvalidCourse", false), ("InvalidWave", false), ("InvalidIron", false), ("InvalidPiece", false), ("InvalidPlace", false), ("InvalidFive", false), ("InvalidForce", false), ("InvalidReading", false), ("InvalidName", false), ("InvalidWish", false), ("InvalidPhrase", false), ("UnknownName", false), ("NotAWorkshop", false), ("HighBelowLow", false), ("InvalidReadings", false), ("InvalidSea", false), ("InvalidBox", false), ("InvalidCounts", false), ("InUse", false), ("Broken", false), ("TooMuchIron", false), ("NotAhead", false), ("SameDip", false), ("NoneFits", true), ("NothingToUndo", false)], .fn "NoneFits", .isA "SameDip" [("CompassError", false), ("InvalidFraction", false), ("InvalidNumber", false), ("InvalidIndex", false), ("InvalidSurd", false), ("InvalidHeading", false), ("InvalidCourse", false), ("InvalidWave", false), ("InvalidIron", false), ("InvalidPiece", false), ("InvalidPlace", false), ("InvalidFive", false), ("InvalidForce", false), ("InvalidReading", false), ("InvalidName", false), ("InvalidWish", false), ("InvalidPhrase", false), ("UnknownName", false), ("NotAWorkshop", false), ("HighBelowLow", false), ("InvalidReadings", false), ("InvalidSea", false), ("InvalidBox", false), ("InvalidCounts", false), ("InUse", false), ("Broken", false), ("TooMuchIron", false), ("NotAhead", false), ("SameDip", true), ("NoneFits", false), ("NothingToUndo", false)], .fn "SameDip", .fn "_law_marks", .isAT "ValueError" [("CompassError", true), ("InvalidFraction", true), ("InvalidNumber", true), ("InvalidIndex", true), ("InvalidSurd", true), ("InvalidHeading", true), ("InvalidCourse", true), ("InvalidWave", true), ("InvalidIron", true), ("InvalidPiece", true), ("InvalidPlace", true), ("InvalidFive", true), ("InvalidForce", true), ("InvalidReading", true), ("InvalidName", true), ("InvalidWish", true), ("InvalidPhrase", true), ("UnknownName", true), ("NotAWorkshop", true), ("HighBelowLow", true), ("InvalidReadings", true), ("InvalidSea", true), ("InvalidBox", true), ("InvalidCounts", true), ("InUse", true), ("Broken", true), ("TooMuchIron", true), ("NotAhead", true), ("SameDip", true), ("NoneFits", true), ("NothingToUndo", true)], .free "ValueError", .isA "CompassError" [("CompassError", true), ("InvalidFraction", true), ("InvalidNumber", true), ("InvalidIndex", true), ("InvalidSurd", true), ("InvalidHeading", true), ("InvalidCourse", true), ("InvalidWave", true), ("InvalidIron", true), ("InvalidPiece", true), ("InvalidPlace", true), ("InvalidFive", true), ("InvalidForce", true), ("InvalidReading", true), ("InvalidName", true), ("InvalidWish", true), ("InvalidPhrase", true), ("UnknownName", true), ("NotAWorkshop", true), ("HighBelowLow", true), ("InvalidReadings", true), ("InvalidSea", true), ("InvalidBox", true), ("InvalidCounts", true), ("InUse", true), ("Broken", true), ("TooMuchIron", true), ("NotAhead", true), ("SameDip", true), ("NoneFits", true), ("NothingToUndo", true)], .fn "CompassError", .isAT "ArithmeticError" [("CompassError", false), ("InvalidFraction", false), ("InvalidNumber", false), ("InvalidIndex", false), ("InvalidSurd", false), ("InvalidHeading", false), ("InvalidCourse", false), ("InvalidWave", false), ("InvalidIron", false), ("InvalidPiece", false), ("InvalidPlace", false), ("InvalidFive", false), ("InvalidForce", false), ("InvalidReading", false), ("InvalidName", false), ("InvalidWish", false), ("InvalidPhrase", false), ("UnknownName", false), ("NotAWorkshop", false), ("HighBelowLow", false), ("InvalidReadings", false), ("InvalidSea", false), ("InvalidBox", false), ("InvalidCounts", false), ("InUse", false), ("Broken", false), ("TooMuchIron", false), ("NotAhead", false), ("SameDip", false), ("NoneFits", false), ("NothingToUndo", false)], .free "ArithmeticError", .isAT "LookupError" [("CompassError", false), ("InvalidFraction", false), ("InvalidNumber", false), ("InvalidIndex", false), ("InvalidSurd", false), ("InvalidHeading", false), ("InvalidCourse", false), ("InvalidWave", false), ("InvalidIron", false), ("InvalidPiece", false), ("InvalidPlace", false), ("InvalidFive", false), ("InvalidForce", false), ("InvalidReading", false), ("InvalidName", false), ("InvalidWish", false), ("InvalidPhrase", false), ("UnknownName", false), ("NotAWorkshop", false), ("HighBelowLow", false), ("InvalidReadings", false), ("InvalidSea", false), ("InvalidBox", false), ("InvalidCounts", false), ("InUse", false), ("Broken", false), ("TooMuchIron", false), ("NotAhead", false), ("SameDip", false), ("NoneFits", false), ("NothingToUndo", false)], .free "LookupError", .isAT "RuntimeError" [("CompassError", false), ("InvalidFraction", false), ("InvalidNumber", false), ("InvalidIndex", false), ("InvalidSurd", false), ("InvalidHeading", false), ("InvalidCourse", false), ("InvalidWave", false), ("InvalidIron", false), ("InvalidPiece", false), ("InvalidPlace", false), ("InvalidFive", false), ("InvalidForce", false), ("InvalidReading", false), ("InvalidName", false), ("InvalidWish", false), ("InvalidPhrase", false), ("UnknownName", false), ("NotAWorkshop", false), ("HighBelowLow", false), ("InvalidReadings", false), ("InvalidSea", false), ("InvalidBox", false), ("InvalidCounts", false), ("InUse", false), ("Broken", false), ("TooMuchIron", false), ("NotAhead", false), ("SameDip", false), ("NoneFits", false), ("NothingToUndo", false)], .free "RuntimeError", .isAT "TypeError" [("CompassError", false), ("InvalidFraction", false), ("InvalidNumber", false), ("InvalidIndex", false), ("InvalidSurd", false), ("InvalidHeading", false), ("InvalidCourse", false), ("InvalidWave", false), ("InvalidIron", false), ("InvalidPiece", false), ("InvalidPlace", false), ("InvalidFive", false), ("InvalidForce", false), ("InvalidReading", false), ("InvalidName", false), ("InvalidWish", false), ("InvalidPhrase", false), ("UnknownName", false), ("NotAWorkshop", false), ("HighBelowLow", false), ("InvalidReadings", false), ("InvalidSea", false), ("InvalidBox", false), ("InvalidCounts", false), ("InUse", false), ("Broken", false), ("TooMuchIron", false), ("NotAhead", false), ("SameDip", false), ("NoneFits", false), ("NothingToUndo", false)], .free "TypeError", .fn "_law_stand", .isE "InvalidFraction" "InvalidFraction" true, .fa (.noat "InvalidFraction" "given"), .isE "InvalidNumber" "InvalidNumber" true, .fa (.noat "InvalidNumber" "given"), .isE "InvalidIndex" "InvalidIndex" true, .fa (.noat "InvalidIndex" "given"), .isE "InvalidSurd" "InvalidSurd" true]
def fs_3 : List Fp := [.fa (.noat "InvalidSurd" "given"), .isE "InvalidHeading" "InvalidHeading" true, .fa (.noat "InvalidHeading" "given"), .isE "InvalidCourse" "InvalidCourse" true, .fa (.noat "InvalidCourse" "given"), .isE "InvalidWave" "InvalidWave" true, .fa (.noat "InvalidWave" "given"), .isE "InvalidIron" "InvalidIron" true, .fa (.noat "InvalidIron" "given"), .isE "InvalidPiece" "InvalidPiece" true, .fa (.noat "InvalidPiece" "given"), .isE "InvalidPlace" "InvalidPlace" true, .fa (.noat "InvalidPlace" "given"), .isE "InvalidFive" "InvalidFive" true, .fa (.noat "InvalidFive" "given"), .isE "InvalidForce" "InvalidForce" true, .fa (.noat "InvalidForce" "given"), .isE "InvalidReading" "InvalidReading" true, .fa (.noat "InvalidReading" "given"), .isE "InvalidName" "InvalidName" true, .fa (.noat "InvalidName" "given"), .isE "InvalidWish" "InvalidWish" true, .fa (.noat "InvalidWish" "given"), .isE "InvalidPhrase" "InvalidPhrase" true, .fa (.noat "InvalidPhrase" "given"), .isE "UnknownName" "UnknownName" true, .fa (.noat "UnknownName" "given"), .isE "NotAWorkshop" "NotAWorkshop" true, .fa (.noat "NotAWorkshop" "given"), .isE "HighBelowLow" "HighBelowLow" true]
def fs_4 : List Fp := [.fa (.noat "HighBelowLow" "given"), .free "repr", .fn "_law_indexed", .isE "InvalidReadings" "InvalidReadings" true, .fa (.noat "InvalidReadings" "index"), .isE "InvalidSea" "InvalidSea" true, .fa (.noat "InvalidSea" "index"), .isE "InvalidBox" "InvalidBox" true, .fa (.noat "InvalidBox" "index"), .isE "InvalidCounts" "InvalidCounts" true, .fa (.noat "InvalidCounts" "index"), .isE "InUse" "InUse" true, .fa (.noat "InUse" "index"), .isE "Broken" "Broken" true, .fa (.noat "Broken" "index"), .fa (.exc "NothingToUndo"), .fa (.exc "NoneFits"), .fa (.exc "SameDip"), .fa (.exc "NotAhead"), .fa (.exc "TooMuchIron"), .fa (.exc "CompassError"), .fn "_law_right", .free "sum", .free "abs", .fn "_law_lode", .free "all", .fn "law"]
def fs : List Fp := fs_0 ++ fs_1 ++ fs_2 ++ fs_3 ++ fs_4
def fn_0 : List He.DefD := [dd__law_deal, dd__law_some, dd__law_about, dd_InvalidSurd___init__, dd_InvalidIndex___init__, dd_InvalidNumber___init__, dd_InvalidFraction___init__, dd_InvalidIron___init__, dd_InvalidWave___init__, dd_InvalidCourse___init__, dd_InvalidHeading___init__, dd_InvalidForce___init__, dd_InvalidFive___init__, dd_InvalidPlace___init__, dd_InvalidPiece___init__, dd_InvalidPhrase___init__, dd_InvalidWish___init__, dd_InvalidName___init__, dd_InvalidReading___init__, dd_HighBelowLow___init__, dd_NotAWorkshop___init__, dd_UnknownName___init__, dd__law_given, dd__law_marks, dd__law_stand, dd_InUse___init__, dd_InvalidCounts___init__, dd_InvalidBox___init__, dd_InvalidSea___init__, dd_InvalidReadings___init__]
def fn_1 : List He.DefD := [dd_Broken___init__, dd__law_indexed, dd__law_right, dd__law_lode, dd_law]
def fn : List He.DefD := fn_0 ++ fn_1
def tf : List He.Defn := []
def gv : List (Str × Str) := [("InvalidSurd", "given"), ("InvalidIndex", "given"), ("InvalidNumber", "given"), ("InvalidFraction", "given"), ("InvalidIron", "given"), ("InvalidWave", "given"), ("InvalidCourse", "given"), ("InvalidHeading", "given"), ("InvalidForce", "given"), ("InvalidFive", "given"), ("InvalidPlace", "given"), ("InvalidPiece", "given"), ("InvalidPhrase", "given"), ("InvalidWish", "given"), ("InvalidName", "given"), ("InvalidReading", "given"), ("HighBelowLow", "given"), ("NotAWorkshop", "given"), ("UnknownName", "given"), ("InUse", "index"), ("InvalidCounts", "index"), ("InvalidBox", "index"), ("InvalidSea", "index"), ("InvalidReadings", "index"), ("Broken", "index")]
end PV
namespace HT
open PySem PySem.Spec PyProof.Rows L2
set_option maxHeartbeats 0
def names_0 : List PySem.Str := ["__name__", "CompassError", "InvalidFraction", "InvalidNumber", "InvalidIndex", "InvalidSurd", "InvalidHeading", "InvalidCourse", "InvalidWave", "InvalidIron", "InvalidPiece", "InvalidPlace", "InvalidFive", "InvalidForce", "InvalidReading", "InvalidName", "InvalidWish", "InvalidPhrase", "UnknownName", "NotAWorkshop", "HighBelowLow", "InvalidReadings", "InvalidSea", "InvalidBox", "InvalidCounts", "InUse", "Broken", "TooMuchIron", "NotAhead", "SameDip"]
def names_1 : List PySem.Str := ["NoneFits", "NothingToUndo", "_law_lode", "_law_deal", "_law_some", "_law_about", "_law_given", "_law_indexed", "_law_marks", "_law_stand", "_law_right"]
def names : List PySem.Str := names_0 ++ names_1
abbrev R : PySem.W.OpenRow := PySem.W.OpenLaw.row PySem.Challenge.rw_ironships_k01_errors_each_of_its_own
abbrev hk : PySem.W.Hook := PV.hookMT PV.fs PV.fn PV.tf PV.gv
def ob (s : PySem.W.SharedT) : PV.AlP × Bool := PV.obsMT PV.fs PV.fn PV.tf PV.gv (HandSHeadRun.getT s)
theorem ob_eq (s : PySem.W.SharedT) : ob s = hk.obs s.abs := PV.obsMT_eq (HandSHeadRun.getT_eq s)
theorem run0 (w : World) : PV.LkE R (PySem.W.view R.prog [42]) 20000 names w := by
  unfold PV.LkE
  kernel_rfl
theorem run1 (w : World) : PV.ObT R 20000 PV.fs PV.fn (PV.fs.take 49) (PV.fn.take 11) w := by
  unfold PV.ObT
  kernel_rfl
theorem run2 (w : World) : PV.ObT R 20000 PV.fs PV.fn ((PV.fs.drop 49).take 49) ((PV.fn.drop 11).take 11) w := by
  unfold PV.ObT
  kernel_rfl
theorem run3 (w : World) : PV.ObT R 20000 PV.fs PV.fn ((PV.fs.drop 49).drop 49) ((PV.fn.drop 11).drop 11) w := by
  unfold PV.ObT
  kernel_rfl
theorem run4 (w : World) : PV.TbT R 20000 PV.fs PV.fn PV.tf PV.gv w := by
  unfold PV.TbT
  kernel_rfl
theorem run (w : World) : HandSHeadRun.RunEqI R (PySem.W.view R.prog [42]) hk ob 20000 names w := PV.run_cutT 49 49 11 11 (run0 w) (run1 w) (run2 w) (run3 w) (run4 w)
end HT
namespace PV
open PySem PySem.Spec PyProof.Rows L2
noncomputable def m_law_dealB : M Fl := mSeq (mIfS (mTest (mOp dGt (mIxO 0 (M.ret (.int 0))) (M.ret (.int 0)))) (mSeq (mAsg (mCB dDivmod (dCons (mIxO 0 (M.ret (.int 0))) (dCons (dVar 1) (dNil)))) (gT (gsCons (gSub1 0 (M.ret (.int 0))) (gsCons (gN 3) (gsNil))))) (mRet (dVar 3))) (M.ret .nx)) (mSeq (mAsg (mOp dAdd (mIxO 0 (M.ret (.int 2))) (M.ret (.int 1))) (gSub1 0 (M.ret (.int 2)))) (mSeq (mSet 2 (mOp dAdd (mOp dMod (mCB dInt (dCons (mIxO 0 (M.ret (.int 1))) (dNil))) (M.ret (.int 17011))) (M.ret (.int 23003)))) (mSeq (mAsg (mOp dMod (mCB dInt (dCons (mOp dAdd (mOp dAdd (mOp dMul (mIxO 0 (M.ret (.int 1))) (dVar 2)) (mOp dMul (M.ret (.int 60013)) (mIxO 0 (M.ret (.int 2))))) (M.ret (.int 41))) (dNil))) (M.ret (.int 2147483477))) (gSub1 0 (M.ret (.int 1)))) (mRet (mOp dMod (mCB dInt (dCons (mOp dDiv (mIxO 0 (M.ret (.int 1))) (M.ret (.int 89))) (dNil))) (dVar 1))))))
noncomputable def m_law_deal : M D := fnB [0] 2 2 (asRet m_law_dealB)
noncomputable def m_law_someB : M Fl := mRet (mOp dIx (dVar 1) (mOwned 0 (M.bind (dCons (mCB dLen (dCons (dVar 1) (dNil))) (dNil)) (callO 2 m_law_deal 0))))
noncomputable def m_law_some : M D := fnB [0] 2 0 (asRet m_law_someB)
noncomputable def m_law_aboutB : M Fl := mSeq (mIfS (mTest (mOp dLt (dVar 1) (mOp dPow (M.ret (.int 10)) (M.ret (.int 5))))) (mRet (mOp dSub (mOwned 0 (M.bind (dCons (mOp dAdd (mOp dMul (M.ret (.int 2)) (dVar 1)) (M.ret (.int 1))) (dNil)) (callO 2 m_law_deal 0))) (dVar 1))) (M.ret .nx)) (mSeq (mSet 2 (mOwned 0 (M.bind (dCons (M.ret (.int 64007)) (dNil)) (callO 2 m_law_deal 0)))) (mRet (mOp dSub (mOp dMod (mCB dInt (dCons (mOp dAdd (mOp dMul (dVar 2) (M.ret (.int 64007))) (mOwned 0 (M.bind (dCons (M.ret (.int 64007)) (dNil)) (callO 2 m_law_deal 0)))) (dNil))) (mOp dAdd (mOp dMul (M.ret (.int 2)) (dVar 1)) (M.ret (.int 1)))) (dVar 1))))
noncomputable def m_law_about : M D := fnB [0] 2 1 (asRet m_law_aboutB)
noncomputable def m_law_givenB : M Fl := mSeq (mSet 1 (mLst (dCons (mMkE "InvalidFraction" "given" (dCons (dVar 0) (dNil))) (dCons (mMkE "InvalidNumber" "given" (dCons (dVar 0) (dNil))) (dCons (mMkE "InvalidIndex" "given" (dCons (dVar 0) (dNil))) (dCons (mMkE "InvalidSurd" "given" (dCons (dVar 0) (dNil))) (dNil))))))) (mSeq (mSet 1 (mOp dAdd (dVar 1) (mLst (dCons (mMkE "InvalidHeading" "given" (dCons (dVar 0) (dNil))) (dCons (mMkE "InvalidCourse" "given" (dCons (dVar 0) (dNil))) (dCons (mMkE "InvalidWave" "given" (dCons (dVar 0) (dNil))) (dCons (mMkE "InvalidIron" "given" (dCons (dVar 0) (dNil))) (dNil)))))))) (mSeq (mSet 1 (mOp dAdd (dVar 1) (mLst (dCons (mMkE "InvalidPiece" "given" (dCons (dVar 0) (dNil))) (dCons (mMkE "InvalidPlace" "given" (dCons (dVar 0) (dNil))) (dCons (mMkE "InvalidFive" "given" (dCons (dVar 0) (dNil))) (dCons (mMkE "InvalidForce" "given" (dCons (dVar 0) (dNil))) (dNil)))))))) (mSeq (mSet 1 (mOp dAdd (dVar 1) (mLst (dCons (mMkE "InvalidReading" "given" (dCons (dVar 0) (dNil))) (dCons (mMkE "InvalidName" "given" (dCons (dVar 0) (dNil))) (dCons (mMkE "InvalidWish" "given" (dCons (dVar 0) (dNil))) (dCons (mMkE "InvalidPhrase" "given" (dCons (dVar 0) (dNil))) (dNil)))))))) (mSeq (mSet 1 (mOp dAdd (dVar 1) (mLst (dCons (mMkE "UnknownName" "given" (dCons (dVar 0) (dNil))) (dCons (mMkE "NotAWorkshop" "given" (dCons (dVar 0) (dNil))) (dCons (mMkE "HighBelowLow" "given" (dCons (dVar 0) (dNil))) (dNil))))))) (mSeq (mSet 2 (mLst (dCons (mMkE "InvalidFraction" "given" (dCons (dVar 0) (dNil))) (dCons (mMkE "InvalidNumber" "given" (dCons (dVar 0) (dNil))) (dCons (mMkE "InvalidIndex" "given" (dCons (dVar 0) (dNil))) (dNil)))))) (mSeq (mSet 2 (mOp dAdd (dVar 2) (mLst (dCons (mMkE "InvalidSurd" "given" (dCons (dVar 0) (dNil))) (dCons (mMkE "InvalidHeading" "given" (dCons (dVar 0) (dNil))) (dCons (mMkE "InvalidCourse" "given" (dCons (dVar 0) (dNil))) (dNil))))))) (mSeq (mSet 2 (mOp dAdd (dVar 2) (mLst (dCons (mMkE "InvalidWave" "given" (dCons (dVar 0) (dNil))) (dCons (mMkE "InvalidIron" "given" (dCons (dVar 0) (dNil))) (dCons (mMkE "InvalidPiece" "given" (dCons (dVar 0) (dNil))) (dNil))))))) (mSeq (mSet 2 (mOp dAdd (dVar 2) (mLst (dCons (mMkE "InvalidPlace" "given" (dCons (dVar 0) (dNil))) (dCons (mMkE "InvalidFive" "given" (dCons (dVar 0) (dNil))) (dCons (mMkE "InvalidForce" "given" (dCons (dVar 0) (dNil))) (dNil))))))) (mSeq (mSet 2 (mOp dAdd (dVar 2) (mLst (dCons (mMkE "InvalidReading" "given" (dCons (dVar 0) (dNil))) (dCons (mMkE "InvalidName" "given" (dCons (dVar 0) (dNil))) (dCons (mMkE "InvalidWish" "given" (dCons (dVar 0) (dNil))) (dNil))))))) (mSeq (mSet 2 (mOp dAdd (dVar 2) (mLst (dCons (mMkE "InvalidPhrase" "given" (dCons (dVar 0) (dNil))) (dCons (mMkE "UnknownName" "given" (dCons (dVar 0) (dNil))) (dCons (mMkE "NotAWorkshop" "given" (dCons (dVar 0) (dNil))) (dNil))))))) (mRet (mLst (dCons (dVar 1) (dCons (mOp dAdd (dVar 2) (mLst (dCons (mMkE "HighBelowLow" "given" (dCons (dVar 0) (dNil))) (dNil)))) (dNil)))))))))))))))
noncomputable def m_law_given : M D := fnB [] 1 2 (asRet m_law_givenB)
noncomputable def m_law_marksB : M Fl := mSeq (mSet 1 (mLst (dCons (mUn (dIsE [("CompassError", false), ("InvalidFraction", true), ("InvalidNumber", false), ("InvalidIndex", false), ("InvalidSurd", false), ("InvalidHeading", false), ("InvalidCourse", false), ("InvalidWave", false), ("InvalidIron", false), ("InvalidPiece", false), ("InvalidPlace", false), ("InvalidFive", false), ("InvalidForce", false), ("InvalidReading", false), ("InvalidName", false), ("InvalidWish", false), ("InvalidPhrase", false), ("UnknownName", false), ("NotAWorkshop", false), ("HighBelowLow", false), ("InvalidReadings", false), ("InvalidSea", false), ("InvalidBox", false), ("InvalidCounts", false), ("InUse", false), ("Broken", false), ("TooMuchIron", false), ("NotAhead", false), ("SameDip", false), ("NoneFits", false), ("NothingToUndo", false)]) (dVar 0)) (dCons (mUn (dIsE [("CompassError", false), ("InvalidFraction", false), ("InvalidNumber", true), ("InvalidIndex", false), ("InvalidSurd", false), ("InvalidHeading", false), ("InvalidCourse", false), ("InvalidWave", false), ("InvalidIron", false), ("InvalidPiece", false), ("InvalidPlace", false), ("InvalidFive", false), ("InvalidForce", false), ("InvalidReading", false), ("InvalidName", false), ("InvalidWish", false), ("InvalidPhrase", false), ("UnknownName", false), ("NotAWorkshop", false), ("HighBelowLow", false), ("InvalidReadings", false), ("InvalidSea", false), ("InvalidBox", false), ("InvalidCounts", false), ("InUse", false), ("Broken", false), ("TooMuchIron", false), ("NotAhead", false), ("SameDip", false), ("NoneFits", false), ("NothingToUndo", false)]) (dVar 0)) (dCons (mUn (dIsE [("CompassError", false), ("InvalidFraction", false), ("InvalidNumber", false), ("InvalidIndex", true), ("InvalidSurd", false), ("InvalidHeading", false), ("InvalidCourse", false), ("InvalidWave", false), ("InvalidIron", false), ("InvalidPiece", false), ("InvalidPlace", false), ("InvalidFive", false), ("InvalidForce", false), ("InvalidReading", false), ("InvalidName", false), ("InvalidWish", false), ("InvalidPhrase", false), ("UnknownName", false), ("NotAWorkshop", false), ("HighBelowLow", false), ("InvalidReadings", false), ("InvalidSea", false), ("InvalidBox", false), ("InvalidCounts", false), ("InUse", false), ("Broken", false), ("TooMuchIron", false), ("NotAhead", false), ("SameDip", false), ("NoneFits", false), ("NothingToUndo", false)]) (dVar 0)) (dNil)))))) (mSeq (mSet 1 (mOp dAdd (dVar 1) (mLst (dCons (mUn (dIsE [("CompassError", false), ("InvalidFraction", false), ("InvalidNumber", false), ("InvalidIndex", false), ("InvalidSurd", true), ("InvalidHeading", false), ("InvalidCourse", false), ("InvalidWave", false), ("InvalidIron", false), ("InvalidPiece", false), ("InvalidPlace", false), ("InvalidFive", false), ("InvalidForce", false), ("InvalidReading", false), ("InvalidName", false), ("InvalidWish", false), ("InvalidPhrase", false), ("UnknownName", false), ("NotAWorkshop", false), ("HighBelowLow", false), ("InvalidReadings", false), ("InvalidSea", false), ("InvalidBox", false), ("InvalidCounts", false), ("InUse", false), ("Broken", false), ("TooMuchIron", false), ("NotAhead", false), ("SameDip", false), ("NoneFits", false), ("NothingToUndo", false)]) (dVar 0)) (dCons (mUn (dIsE [("CompassError", false), ("InvalidFraction", false), ("InvalidNumber", false), ("InvalidIndex", false), ("InvalidSurd", false), ("InvalidHeading", true), ("InvalidCourse", false), ("InvalidWave", false), ("InvalidIron", false), ("InvalidPiece", false), ("InvalidPlace", false), ("InvalidFive", false), ("InvalidForce", false), ("InvalidReading", false), ("InvalidName", false), ("InvalidWish", false), ("InvalidPhrase", false), ("UnknownName", false), ("NotAWorkshop", false), ("HighBelowLow", false), ("InvalidReadings", false), ("InvalidSea", false), ("InvalidBox", false), ("InvalidCounts", false), ("InUse", false), ("Broken", false), ("TooMuchIron", false), ("NotAhead", false), ("SameDip", false), ("NoneFits", false), ("NothingToUndo", false)]) (dVar 0)) (dCons (mUn (dIsE [("CompassError", false), ("InvalidFraction", false), ("InvalidNumber", false), ("InvalidIndex", false), ("InvalidSurd", false), ("InvalidHeading", false), ("InvalidCourse", true), ("InvalidWave", false), ("InvalidIron", false), ("InvalidPiece", false), ("InvalidPlace", false), ("InvalidFive", false), ("InvalidForce", false), ("InvalidReading", false), ("InvalidName", false), ("InvalidWish", false), ("InvalidPhrase", false), ("UnknownName", false), ("NotAWorkshop", false), ("HighBelowLow", false), ("InvalidReadings", false), ("InvalidSea", false), ("InvalidBox", false), ("InvalidCounts", false), ("InUse", false), ("Broken", false), ("TooMuchIron", false), ("NotAhead", false), ("SameDip", false), ("NoneFits", false), ("NothingToUndo", false)]) (dVar 0)) (dNil))))))) (mSeq (mSet 1 (mOp dAdd (dVar 1) (mLst (dCons (mUn (dIsE [("CompassError", false), ("InvalidFraction", false), ("InvalidNumber", false), ("InvalidIndex", false), ("InvalidSurd", false), ("InvalidHeading", false), ("InvalidCourse", false), ("InvalidWave", true), ("InvalidIron", false), ("InvalidPiece", false), ("InvalidPlace", false), ("InvalidFive", false), ("InvalidForce", false), ("InvalidReading", false), ("InvalidName", false), ("InvalidWish", false), ("InvalidPhrase", false), ("UnknownName", false), ("NotAWorkshop", false), ("HighBelowLow", false), ("InvalidReadings", false), ("InvalidSea", false), ("InvalidBox", false), ("InvalidCounts", false), ("InUse", false), ("Broken", false), ("TooMuchIron", false), ("NotAhead", false), ("SameDip", false), ("NoneFits", false), ("NothingToUndo", false)]) (dVar 0)) (dCons (mUn (dIsE [("CompassError", false), ("InvalidFraction", false), ("InvalidNumber", false), ("InvalidIndex", false), ("InvalidSurd", false), ("InvalidHeading", false), ("InvalidCourse", false), ("InvalidWave", false), ("InvalidIron", true), ("InvalidPiece", false), ("InvalidPlace", false), ("InvalidFive", false), ("InvalidForce", false), ("InvalidReading", false), ("InvalidName", false), ("InvalidWish", false), ("InvalidPhrase", false), ("UnknownName", false), ("NotAWorkshop", false), ("HighBelowLow", false), ("InvalidReadings", false), ("InvalidSea", false), ("InvalidBox", false), ("InvalidCounts", false), ("InUse", false), ("Broken", false), ("TooMuchIron", false), ("NotAhead", false), ("SameDip", false), ("NoneFits", false), ("NothingToUndo", false)]) (dVar 0)) (dCons (mUn (dIsE [("CompassError", false), ("InvalidFraction", false), ("InvalidNumber", false), ("InvalidIndex", false), ("InvalidSurd", false), ("InvalidHeading", false), ("InvalidCourse", false), ("InvalidWave", false), ("InvalidIron", false), ("InvalidPiece", true), ("InvalidPlace", false), ("InvalidFive", false), ("InvalidForce", false), ("InvalidReading", false), ("InvalidName", false), ("InvalidWish", false), ("InvalidPhrase", false), ("UnknownName", false), ("NotAWorkshop", false), ("HighBelowLow", false), ("InvalidReadings", false), ("InvalidSea", false), ("InvalidBox", false), ("InvalidCounts", false), ("InUse", false), ("Broken", false), ("TooMuchIron", false), ("NotAhead", false), ("SameDip", false), ("NoneFits", false), ("NothingToUndo", false)]) (dVar 0)) (dNil))))))) (mSeq (mSet 1 (mOp dAdd (dVar 1) (mLst (dCons (mUn (dIsE [("CompassError", false), ("InvalidFraction", false), ("InvalidNumber", false), ("InvalidIndex", false), ("InvalidSurd", false), ("InvalidHeading", false), ("InvalidCourse", false), ("InvalidWave", false), ("InvalidIron", false), ("InvalidPiece", false), ("InvalidPlace", true), ("InvalidFive", false), ("InvalidForce", false), ("InvalidReading", false), ("InvalidName", false), ("InvalidWish", false), ("InvalidPhrase", false), ("UnknownName", false), ("NotAWorkshop", false), ("HighBelowLow", false), ("InvalidReadings", false), ("InvalidSea", false), ("InvalidBox", false), ("InvalidCounts", false), ("InUse", false), ("Broken", false), ("TooMuchIron", false), ("NotAhead", false), ("SameDip", false), ("NoneFits", false), ("NothingToUndo", false)]) (dVar 0)) (dCons (mUn (dIsE [("CompassError", false), ("InvalidFraction", false), ("InvalidNumber", false), ("InvalidIndex", false), ("InvalidSurd", false), ("InvalidHeading", false), ("InvalidCourse", false), ("InvalidWave", false), ("InvalidIron", false), ("InvalidPiece", false), ("InvalidPlace", false), ("InvalidFive", true), ("InvalidForce", false), ("InvalidReading", false), ("InvalidName", false), ("InvalidWish", false), ("InvalidPhrase", false), ("UnknownName", false), ("NotAWorkshop", false), ("HighBelowLow", false), ("InvalidReadings", false), ("InvalidSea", false), ("InvalidBox", false), ("InvalidCounts", false), ("InUse", false), ("Broken", false), ("TooMuchIron", false), ("NotAhead", false), ("SameDip", false), ("NoneFits", false), ("NothingToUndo", false)]) (dVar 0)) (dCons (mUn (dIsE [("CompassError", false), ("InvalidFraction", false), ("InvalidNumber", false), ("InvalidIndex", false), ("InvalidSurd", false), ("InvalidHeading", false), ("InvalidCourse", false), ("InvalidWave", false), ("InvalidIron", false), ("InvalidPiece", false), ("InvalidPlace", false), ("InvalidFive", false), ("InvalidForce", true), ("InvalidReading", false), ("InvalidName", false), ("InvalidWish", false), ("InvalidPhrase", false), ("UnknownName", false), ("NotAWorkshop", false), ("HighBelowLow", false), ("InvalidReadings", false), ("InvalidSea", false), ("InvalidBox", false), ("InvalidCounts", false), ("InUse", false), ("Broken", false), ("TooMuchIron", false), ("NotAhead", false), ("SameDip", false), ("NoneFits", false), ("NothingToUndo", false)]) (dVar 0)) (dNil))))))) (mSeq (mSet 1 (mOp dAdd (dVar 1) (mLst (dCons (mUn (dIsE [("CompassError", false), ("InvalidFraction", false), ("InvalidNumber", false), ("InvalidIndex", false), ("InvalidSurd", false), ("InvalidHeading", false), ("InvalidCourse", false), ("InvalidWave", false), ("InvalidIron", false), ("InvalidPiece", false), ("InvalidPlace", false), ("InvalidFive", false), ("InvalidForce", false), ("InvalidReading", true), ("InvalidName", false), ("InvalidWish", false), ("InvalidPhrase", false), ("UnknownName", false), ("NotAWorkshop", false), ("HighBelowLow", false), ("InvalidReadings", false), ("InvalidSea", false), ("InvalidBox", false), ("InvalidCounts", false), ("InUse", false), ("Broken", false), ("TooMuchIron", false), ("NotAhead", false), ("SameDip", false), ("NoneFits", false), ("NothingToUndo", false)]) (dVar 0)) (dCons (mUn (dIsE [("CompassError", false), ("InvalidFraction", false), ("InvalidNumber", false), ("InvalidIndex", false), ("InvalidSurd", false), ("InvalidHeading", false), ("InvalidCourse", false), ("InvalidWave", false), ("InvalidIron", false), ("InvalidPiece", false), ("InvalidPlace", false), ("InvalidFive", false), ("InvalidForce", false), ("InvalidReading", false), ("InvalidName", true), ("InvalidWish", false), ("InvalidPhrase", false), ("UnknownName", false), ("NotAWorkshop", false), ("HighBelowLow", false), ("InvalidReadings", false), ("InvalidSea", false), ("InvalidBox", false), ("InvalidCounts", false), ("InUse", false), ("Broken", false), ("TooMuchIron", false), ("NotAhead", false), ("SameDip", false), ("NoneFits", false), ("NothingToUndo", false)]) (dVar 0)) (dCons (mUn (dIsE [("CompassError", false), ("InvalidFraction", false), ("InvalidNumber", false), ("InvalidIndex", false), ("InvalidSurd", false), ("InvalidHeading", false), ("InvalidCourse", false), ("InvalidWave", false), ("InvalidIron", false), ("InvalidPiece", false), ("InvalidPlace", false), ("InvalidFive", false), ("InvalidForce", false), ("InvalidReading", false), ("InvalidName", false), ("InvalidWish", true), ("InvalidPhrase", false), ("UnknownName", false), ("NotAWorkshop", false), ("HighBelowLow", false), ("InvalidReadings", false), ("InvalidSea", false), ("InvalidBox", false), ("InvalidCounts", false), ("InUse", false), ("Broken", false), ("TooMuchIron", false), ("NotAhead", false), ("SameDip", false), ("NoneFits", false), ("NothingToUndo", false)]) (dVar 0)) (dNil))))))) (mSeq (mSet 1 (mOp dAdd (dVar 1) (mLst (dCons (mUn (dIsE [("CompassError", false), ("InvalidFraction", false), ("InvalidNumber", false), ("InvalidIndex", false), ("InvalidSurd", false), ("InvalidHeading", false), ("InvalidCourse", false), ("InvalidWave", false), ("InvalidIron", false), ("InvalidPiece", false), ("InvalidPlace", false), ("InvalidFive", false), ("InvalidForce", false), ("InvalidReading", false), ("InvalidName", false), ("InvalidWish", false), ("InvalidPhrase", true), ("UnknownName", false), ("NotAWorkshop", false), ("HighBelowLow", false), ("InvalidReadings", false), ("InvalidSea", false), ("InvalidBox", false), ("InvalidCounts", false), ("InUse", false), ("Broken", false), ("TooMuchIron", false), ("NotAhead", false), ("SameDip", false), ("NoneFits", false), ("NothingToUndo", false)]) (dVar 0)) (dCons (mUn (dIsE [("CompassError", false), ("InvalidFraction", false), ("InvalidNumber", false), ("InvalidIndex", false), ("InvalidSurd", false), ("InvalidHeading", false), ("InvalidCourse", false), ("InvalidWave", false), ("InvalidIron", false), ("InvalidPiece", false), ("InvalidPlace", false), ("InvalidFive", false), ("InvalidForce", false), ("InvalidReading", false), ("InvalidName", false), ("InvalidWish", false), ("InvalidPhrase", false), ("UnknownName", true), ("NotAWorkshop", false), ("HighBelowLow", false), ("InvalidReadings", false), ("InvalidSea", false), ("InvalidBox", false), ("InvalidCounts", false), ("InUse", false), ("Broken", false), ("TooMuchIron", false), ("NotAhead", false), ("SameDip", false), ("NoneFits", false), ("NothingToUndo", false)]) (dVar 0)) (dCons (mUn (dIsE [("CompassError", false), ("InvalidFraction", false), ("InvalidNumber", false), ("InvalidIndex", false), ("InvalidSurd", false), ("InvalidHeading", false), ("InvalidCourse", false), ("InvalidWave", false), ("InvalidIron", false), ("InvalidPiece", false), ("InvalidPlace", false), ("InvalidFive", false), ("InvalidForce", false), ("InvalidReading", false), ("InvalidName", false), ("InvalidWish", false), ("InvalidPhrase", false), ("UnknownName", false), ("NotAWorkshop", true), ("HighBelowLow", false), ("InvalidReadings", false), ("InvalidSea", false), ("InvalidBox", false), ("InvalidCounts", false), ("InUse", false), ("Broken", false), ("TooMuchIron", false), ("NotAhead", false), ("SameDip", false), ("NoneFits", false), ("NothingToUndo", false)]) (dVar 0)) (dNil))))))) (mSeq (mSet 1 (mOp dAdd (dVar 1) (mLst (dCons (mUn (dIsE [("CompassError", false), ("InvalidFraction", false), ("InvalidNumber", false), ("InvalidIndex", false), ("InvalidSurd", false), ("InvalidHeading", false), ("InvalidCourse", false), ("InvalidWave", false), ("InvalidIron", false), ("InvalidPiece", false), ("InvalidPlace", false), ("InvalidFive", false), ("InvalidForce", false), ("InvalidReading", false), ("InvalidName", false), ("InvalidWish", false), ("InvalidPhrase", false), ("UnknownName", false), ("NotAWorkshop", false), ("HighBelowLow", true), ("InvalidReadings", false), ("InvalidSea", false), ("InvalidBox", false), ("InvalidCounts", false), ("InUse", false), ("Broken", false), ("TooMuchIron", false), ("NotAhead", false), ("SameDip", false), ("NoneFits", false), ("NothingToUndo", false)]) (dVar 0)) (dCons (mUn (dIsE [("CompassError", false), ("InvalidFraction", false), ("InvalidNumber", false), ("InvalidIndex", false), ("InvalidSurd", false), ("InvalidHeading", false), ("InvalidCourse", false), ("InvalidWave", false), ("InvalidIron", false), ("InvalidPiece", false), ("InvalidPlace", false), ("InvalidFive", false), ("InvalidForce", false), ("InvalidReading", false), ("InvalidName", false), ("InvalidWish", false), ("InvalidPhrase", false), ("UnknownName", false), ("NotAWorkshop", false), ("HighBelowLow", false), ("InvalidReadings", true), ("InvalidSea", false), ("InvalidBox", false), ("InvalidCounts", false), ("InUse", false), ("Broken", false), ("TooMuchIron", false), ("NotAhead", false), ("SameDip", false), ("NoneFits", false), ("NothingToUndo", false)]) (dVar 0)) (dCons (mUn (dIsE [("CompassError", false), ("InvalidFraction", false), ("InvalidNumber", false), ("InvalidIndex", false), ("InvalidSurd", false), ("InvalidHeading", false), ("InvalidCourse", false), ("InvalidWave", false), ("InvalidIron", false), ("InvalidPiece", false), ("InvalidPlace", false), ("InvalidFive", false), ("InvalidForce", false), ("InvalidReading", false), ("InvalidName", false), ("InvalidWish", false), ("InvalidPhrase", false), ("UnknownName", false), ("NotAWorkshop", false), ("HighBelowLow", false), ("InvalidReadings", false), ("InvalidSea", true), ("InvalidBox", false), ("InvalidCounts", false), ("InUse", false), ("Broken", false), ("TooMuchIron", false), ("NotAhead", false), ("SameDip", false), ("NoneFits", false), ("NothingToUndo", false)]) (dVar 0)) (dNil))))))) (mSeq (mSet 1 (mOp dAdd (dVar 1) (mLst (dCons (mUn (dIsE [("CompassError", false), ("InvalidFraction", false), ("InvalidNumber", false), ("InvalidIndex", false), ("InvalidSurd", false), ("InvalidHeading", false), ("InvalidCourse", false), ("InvalidWave", false), ("InvalidIron", false), ("InvalidPiece", false), ("InvalidPlace", false), ("InvalidFive", false), ("InvalidForce", false), ("InvalidReading", false), ("InvalidName", false), ("InvalidWish", false), ("InvalidPhrase", false), ("UnknownName", false), ("NotAWorkshop", false), ("HighBelowLow", false), ("InvalidReadings", false), ("InvalidSea", false), ("InvalidBox", true), ("InvalidCounts", false), ("InUse", false), ("Broken", false), ("TooMuchIron", false), ("NotAhead", false), ("SameDip", false), ("NoneFits", false), ("NothingToUndo", false)]) (dVar 0)) (dCons (mUn (dIsE [("CompassError", false), ("InvalidFraction", false), ("InvalidNumber", false), ("InvalidIndex", false), ("InvalidSurd", false), ("InvalidHeading", false), ("InvalidCourse", false), ("InvalidWave", false), ("InvalidIron", false), ("InvalidPiece", false), ("InvalidPlace", false), ("InvalidFive", false), ("InvalidForce", false), ("InvalidReading", false), ("InvalidName", false), ("InvalidWish", false), ("InvalidPhrase", false), ("UnknownName", false), ("NotAWorkshop", false), ("HighBelowLow", false), ("InvalidReadings", false), ("InvalidSea", false), ("InvalidBox", false), ("InvalidCounts", true), ("InUse", false), ("Broken", false), ("TooMuchIron", false), ("NotAhead", false), ("SameDip", false), ("NoneFits", false), ("NothingToUndo", false)]) (dVar 0)) (dCons (mUn (dIsE [("CompassError", false), ("InvalidFraction", false), ("InvalidNumber", false), ("InvalidIndex", false), ("InvalidSurd", false), ("InvalidHeading", false), ("InvalidCourse", false), ("InvalidWave", false), ("InvalidIron", false), ("InvalidPiece", false), ("InvalidPlace", false), ("InvalidFive", false), ("InvalidForce", false), ("InvalidReading", false), ("InvalidName", false), ("InvalidWish", false), ("InvalidPhrase", false), ("UnknownName", false), ("NotAWorkshop", false), ("HighBelowLow", false), ("InvalidReadings", false), ("InvalidSea", false), ("InvalidBox", false), ("InvalidCounts", false), ("InUse", true), ("Broken", false), ("TooMuchIron", false), ("NotAhead", false), ("SameDip", false), ("NoneFits", false), ("NothingToUndo", false)]) (dVar 0)) (dNil))))))) (mSeq (mSet 1 (mOp dAdd (dVar 1) (mLst (dCons (mUn (dIsE [("CompassError", false), ("InvalidFraction", false), ("InvalidNumber", false), ("InvalidIndex", false), ("InvalidSurd", false), ("InvalidHeading", false), ("InvalidCourse", false), ("InvalidWave", false), ("InvalidIron", false), ("InvalidPiece", false), ("InvalidPlace", false), ("InvalidFive", false), ("InvalidForce", false), ("InvalidReading", false), ("InvalidName", false), ("InvalidWish", false), ("InvalidPhrase", false), ("UnknownName", false), ("NotAWorkshop", false), ("HighBelowLow", false), ("InvalidReadings", false), ("InvalidSea", false), ("InvalidBox", false), ("InvalidCounts", false), ("InUse", false), ("Broken", true), ("TooMuchIron", false), ("NotAhead", false), ("SameDip", false), ("NoneFits", false), ("NothingToUndo", false)]) (dVar 0)) (dCons (mUn (dIsE [("CompassError", false), ("InvalidFraction", false), ("InvalidNumber", false), ("InvalidIndex", false), ("InvalidSurd", false), ("InvalidHeading", false), ("InvalidCourse", false), ("InvalidWave", false), ("InvalidIron", false), ("InvalidPiece", false), ("InvalidPlace", false), ("InvalidFive", false), ("InvalidForce", false), ("InvalidReading", false), ("InvalidName", false), ("InvalidWish", false), ("InvalidPhrase", false), ("UnknownName", false), ("NotAWorkshop", false), ("HighBelowLow", false), ("InvalidReadings", false), ("InvalidSea", false), ("InvalidBox", false), ("InvalidCounts", false), ("InUse", false), ("Broken", false), ("TooMuchIron", true), ("NotAhead", false), ("SameDip", false), ("NoneFits", false), ("NothingToUndo", false)]) (dVar 0)) (dCons (mUn (dIsE [("CompassError", false), ("InvalidFraction", false), ("InvalidNumber", false), ("InvalidIndex", false), ("InvalidSurd", false), ("InvalidHeading", false), ("InvalidCourse", false), ("InvalidWave", false), ("InvalidIron", false), ("InvalidPiece", false), ("InvalidPlace", false), ("InvalidFive", false), ("InvalidForce", false), ("InvalidReading", false), ("InvalidName", false), ("InvalidWish", false), ("InvalidPhrase", false), ("UnknownName", false), ("NotAWorkshop", false), ("HighBelowLow", false), ("InvalidReadings", false), ("InvalidSea", false), ("InvalidBox", false), ("InvalidCounts", false), ("InUse", false), ("Broken", false), ("TooMuchIron", false), ("NotAhead", true), ("SameDip", false), ("NoneFits", false), ("NothingToUndo", false)]) (dVar 0)) (dNil))))))) (mRet (mOp dAdd (dVar 1) (mLst (dCons (mUn (dIsE [("CompassError", false), ("InvalidFraction", false), ("InvalidNumber", false), ("InvalidIndex", false), ("InvalidSurd", false), ("InvalidHeading", false), ("InvalidCourse", false), ("InvalidWave", false), ("InvalidIron", false), ("InvalidPiece", false), ("InvalidPlace", false), ("InvalidFive", false), ("InvalidForce", false), ("InvalidReading", false), ("InvalidName", false), ("InvalidWish", false), ("InvalidPhrase", false), ("UnknownName", false), ("NotAWorkshop", false), ("HighBelowLow", false), ("InvalidReadings", false), ("InvalidSea", false), ("InvalidBox", false), ("InvalidCounts", false), ("InUse", false), ("Broken", false), ("TooMuchIron", false), ("NotAhead", false), ("SameDip", true), ("NoneFits", false), ("NothingToUndo", false)]) (dVar 0)) (dCons (mUn (dIsE [("CompassError", false), ("InvalidFraction", false), ("InvalidNumber", false), ("InvalidIndex", false), ("InvalidSurd", false), ("InvalidHeading", false), ("InvalidCourse", false), ("InvalidWave", false), ("InvalidIron", false), ("InvalidPiece", false), ("InvalidPlace", false), ("InvalidFive", false), ("InvalidForce", false), ("InvalidReading", false), ("InvalidName", false), ("InvalidWish", false), ("InvalidPhrase", false), ("UnknownName", false), ("NotAWorkshop", false), ("HighBelowLow", false), ("InvalidReadings", false), ("InvalidSea", false), ("InvalidBox", false), ("InvalidCounts", false), ("InUse", false), ("Broken", false), ("TooMuchIron", false), ("NotAhead", false), ("SameDip", false), ("NoneFits", true), ("NothingToUndo", false)]) (dVar 0)) (dCons (mUn (dIsE [("CompassError", false), ("InvalidFraction", false), ("InvalidNumber", false), ("InvalidIndex", false), ("InvalidSurd", false), ("InvalidHeading", false), ("InvalidCourse", false), ("InvalidWave", false), ("InvalidIron", false), ("InvalidPiece", false), ("InvalidPlace", false), ("InvalidFive", false), ("InvalidForce", false), ("InvalidReading", false), ("InvalidName", false), ("InvalidWish", false), ("InvalidPhrase", false), ("UnknownName", false), ("NotAWorkshop", false), ("HighBelowLow", false), ("InvalidReadings", false), ("InvalidSea", false), ("InvalidBox", false), ("InvalidCounts", false), ("InUse", false), ("Broken", false), ("TooMuchIron", false), ("NotAhead", false), ("SameDip", false), ("NoneFits", false), ("NothingToUndo", true)]) (dVar 0)) (dNil)))))))))))))))
noncomputable def m_law_marks : M D := fnB [] 1 1 (asRet m_law_marksB)
noncomputable def m_law_standB : M Fl := mSeq (mFor (mIter' rng1 (dCons (mCB dLen (dCons (dVar 0) (dNil))) (dNil))) (gN 2) (mSeq (mSet 3 (M.bind (dCons (mOp dIx (dVar 0) (dVar 2)) (dNil)) (callV 1 m_law_marks))) (mSeq (mIfS (mTest (mOp dNe (mLst (mLc 5 [4] (mIter' rng1 (dCons (mCB dLen (dCons (dVar 3) (dNil))) (dNil))) (gN 4) (mTest (mOp dIx (dVar 3) (dVar 4))) (dVar 4))) (mLst (dCons (mOp dAdd (dVar 1) (dVar 2)) (dNil))))) (mRet (M.ret (.bl false))) (M.ret .nx)) (mSeq (mIfS (mOrT (mNotT (mTest (mUn (dIsE [("CompassError", true), ("InvalidFraction", true), ("InvalidNumber", true), ("InvalidIndex", true), ("InvalidSurd", true), ("InvalidHeading", true), ("InvalidCourse", true), ("InvalidWave", true), ("InvalidIron", true), ("InvalidPiece", true), ("InvalidPlace", true), ("InvalidFive", true), ("InvalidForce", true), ("InvalidReading", true), ("InvalidName", true), ("InvalidWish", true), ("InvalidPhrase", true), ("UnknownName", true), ("NotAWorkshop", true), ("HighBelowLow", true), ("InvalidReadings", true), ("InvalidSea", true), ("InvalidBox", true), ("InvalidCounts", true), ("InUse", true), ("Broken", true), ("TooMuchIron", true), ("NotAhead", true), ("SameDip", true), ("NoneFits", true), ("NothingToUndo", true)]) (mOp dIx (dVar 0) (dVar 2))))) (mNotT (mTest (mUn (dIsE [("CompassError", true), ("InvalidFraction", true), ("InvalidNumber", true), ("InvalidIndex", true), ("InvalidSurd", true), ("InvalidHeading", true), ("InvalidCourse", true), ("InvalidWave", true), ("InvalidIron", true), ("InvalidPiece", true), ("InvalidPlace", true), ("InvalidFive", true), ("InvalidForce", true), ("InvalidReading", true), ("InvalidName", true), ("InvalidWish", true), ("InvalidPhrase", true), ("UnknownName", true), ("NotAWorkshop", true), ("HighBelowLow", true), ("InvalidReadings", true), ("InvalidSea", true), ("InvalidBox", true), ("InvalidCounts", true), ("InUse", true), ("Broken", true), ("TooMuchIron", true), ("NotAhead", true), ("SameDip", true), ("NoneFits", true), ("NothingToUndo", true)]) (mOp dIx (dVar 0) (dVar 2)))))) (mRet (M.ret (.bl false))) (M.ret .nx)) (mSeq (mIfS (mOrT (mTest (mUn (dIsE [("CompassError", false), ("InvalidFraction", false), ("InvalidNumber", false), ("InvalidIndex", false), ("InvalidSurd", false), ("InvalidHeading", false), ("InvalidCourse", false), ("InvalidWave", false), ("InvalidIron", false), ("InvalidPiece", false), ("InvalidPlace", false), ("InvalidFive", false), ("InvalidForce", false), ("InvalidReading", false), ("InvalidName", false), ("InvalidWish", false), ("InvalidPhrase", false), ("UnknownName", false), ("NotAWorkshop", false), ("HighBelowLow", false), ("InvalidReadings", false), ("InvalidSea", false), ("InvalidBox", false), ("InvalidCounts", false), ("InUse", false), ("Broken", false), ("TooMuchIron", false), ("NotAhead", false), ("SameDip", false), ("NoneFits", false), ("NothingToUndo", false)]) (mOp dIx (dVar 0) (dVar 2)))) (mTest (mUn (dIsE [("CompassError", false), ("InvalidFraction", false), ("InvalidNumber", false), ("InvalidIndex", false), ("InvalidSurd", false), ("InvalidHeading", false), ("InvalidCourse", false), ("InvalidWave", false), ("InvalidIron", false), ("InvalidPiece", false), ("InvalidPlace", false), ("InvalidFive", false), ("InvalidForce", false), ("InvalidReading", false), ("InvalidName", false), ("InvalidWish", false), ("InvalidPhrase", false), ("UnknownName", false), ("NotAWorkshop", false), ("HighBelowLow", false), ("InvalidReadings", false), ("InvalidSea", false), ("InvalidBox", false), ("InvalidCounts", false), ("InUse", false), ("Broken", false), ("TooMuchIron", false), ("NotAhead", false), ("SameDip", false), ("NoneFits", false), ("NothingToUndo", false)]) (mOp dIx (dVar 0) (dVar 2))))) (mRet (M.ret (.bl false))) (M.ret .nx)) (mIfS (mOrT (mTest (mUn (dIsE [("CompassError", false), ("InvalidFraction", false), ("InvalidNumber", false), ("InvalidIndex", false), ("InvalidSurd", false), ("InvalidHeading", false), ("InvalidCourse", false), ("InvalidWave", false), ("InvalidIron", false), ("InvalidPiece", false), ("InvalidPlace", false), ("InvalidFive", false), ("InvalidForce", false), ("InvalidReading", false), ("InvalidName", false), ("InvalidWish", false), ("InvalidPhrase", false), ("UnknownName", false), ("NotAWorkshop", false), ("HighBelowLow", false), ("InvalidReadings", false), ("InvalidSea", false), ("InvalidBox", false), ("InvalidCounts", false), ("InUse", false), ("Broken", false), ("TooMuchIron", false), ("NotAhead", false), ("SameDip", false), ("NoneFits", false), ("NothingToUndo", false)]) (mOp dIx (dVar 0) (dVar 2)))) (mTest (mUn (dIsE [("CompassError", false), ("InvalidFraction", false), ("InvalidNumber", false), ("InvalidIndex", false), ("InvalidSurd", false), ("InvalidHeading", false), ("InvalidCourse", false), ("InvalidWave", false), ("InvalidIron", false), ("InvalidPiece", false), ("InvalidPlace", false), ("InvalidFive", false), ("InvalidForce", false), ("InvalidReading", false), ("InvalidName", false), ("InvalidWish", false), ("InvalidPhrase", false), ("UnknownName", false), ("NotAWorkshop", false), ("HighBelowLow", false), ("InvalidReadings", false), ("InvalidSea", false), ("InvalidBox", false), ("InvalidCounts", false), ("InUse", false), ("Broken", false), ("TooMuchIron", false), ("NotAhead", false), ("SameDip", false), ("NoneFits", false), ("NothingToUndo", false)]) (mOp dIx (dVar 0) (dVar 2))))) (mRet (M.ret (.bl false))) (M.ret .nx))))))) (mRet (M.ret (.bl true)))
noncomputable def m_law_stand : M D := fnB [] 2 3 (asRet m_law_standB)
noncomputable def m_law_indexedB : M Fl := mSeq (mSet 1 (mLst (dCons (mMkE "InvalidReadings" "index" (dCons (dVar 0) (dNil))) (dCons (mMkE "InvalidSea" "index" (dCons (dVar 0) (dNil))) (dCons (mMkE "InvalidBox" "index" (dCons (dVar 0) (dNil))) (dCons (mMkE "InvalidCounts" "index" (dCons (dVar 0) (dNil))) (dCons (mMkE "InUse" "index" (dCons (dVar 0) (dNil))) (dNil)))))))) (mSeq (mSet 2 (mLst (dCons (mMkE "InvalidReadings" "index" (dCons (dVar 0) (dNil))) (dCons (mMkE "InvalidSea" "index" (dCons (dVar 0) (dNil))) (dCons (mMkE "InvalidBox" "index" (dCons (dVar 0) (dNil))) (dNil)))))) (mRet (mLst (dCons (mOp dAdd (dVar 1) (mLst (dCons (mMkE "Broken" "index" (dCons (dVar 0) (dNil))) (dNil)))) (dCons (mOp dAdd (dVar 2) (mLst (dCons (mMkE "InvalidCounts" "index" (dCons (dVar 0) (dNil))) (dCons (mMkE "InUse" "index" (dCons (dVar 0) (dNil))) (dCons (mMkE "Broken" "index" (dCons (dVar 0) (dNil))) (dNil)))))) (dNil))))))
noncomputable def m_law_indexed : M D := fnB [] 1 2 (asRet m_law_indexedB)
noncomputable def m_law_right_v80B : M Fl := mSeq (mSet 1 (mLst (dCons (M.ret .non) (dCons (M.ret (.bl true)) (dCons (mUn dNeg (M.ret (.int 7))) (dCons (M.ret (.str "")) (dCons (M.ret (.str "card")) (dCons (mTup (dNil)) (dCons (mTup (dCons (M.ret (.int 1)) (dCons (M.ret (.int 0)) (dCons (mUn dNeg (M.ret (.int 2))) (dNil))))) (dCons (mLst (dNil)) (dCons (mLst (dCons (M.ret (.int 1)) (dCons (mLst (dCons (M.ret (.int 2)) (dNil))) (dNil)))) (dCons (M.ret (.dic [.inr "x"] [.int 1])) (dCons (mTup (dCons (mTup (dCons (M.ret (.int 0)) (dCons (M.ret (.int 1)) (dNil)))) (dCons (M.ret .non) (dNil)))) (dNil)))))))))))))) (mSeq (mAsg (mTup (dCons (mOwned 0 (M.bind (dCons (mOp dAdd (dVar 1) (mLst (dCons (mOwned 0 (M.bind (dCons (mOp dPow (M.ret (.int 10)) (M.ret (.int 9))) (dNil)) (callO 2 m_law_about 0))) (dNil)))) (dNil)) (callO 2 m_law_some 0))) (dCons (mOwned 0 (M.bind (dCons (dVar 1) (dNil)) (callO 2 m_law_some 0))) (dNil)))) (gT (gsCons (gN 3) (gsCons (gN 4) (gsNil))))) (mSeq (mFor (mIter (M.bind (dCons (dVar 3) (dNil)) (callV 1 m_law_given))) (gN 2) (mIfS (mOrT (mTest (mOp dNeL (mLst (mLc 8 [7] (mIter (dVar 2)) (gN 7) (mTest (mOp dNe (mCB dReprY (dCons (mUn (dXf ["InvalidFraction", "InvalidNumber", "InvalidIndex", "InvalidSurd", "InvalidHeading", "InvalidCourse", "InvalidWave", "InvalidIron", "InvalidPiece", "InvalidPlace", "InvalidFive", "InvalidForce", "InvalidReading", "InvalidName", "InvalidWish", "InvalidPhrase", "UnknownName", "NotAWorkshop", "HighBelowLow"] "given") (dVar 7)) (dNil))) (mCB dReprY (dCons (dVar 3) (dNil))))) (mUn (dXf ["InvalidFraction", "InvalidNumber", "InvalidIndex", "InvalidSurd", "InvalidHeading", "InvalidCourse", "InvalidWave", "InvalidIron", "InvalidPiece", "InvalidPlace", "InvalidFive", "InvalidForce", "InvalidReading", "InvalidName", "InvalidWish", "InvalidPhrase", "UnknownName", "NotAWorkshop", "HighBelowLow"] "given") (dVar 7)))) (mLst (dNil)))) (mNotT (mTest (M.bind (dCons (dVar 2) (dCons (M.ret (.int 0)) (dNil))) (callV 2 m_law_stand))))) (mRet (M.ret (.bl false))) (M.ret .nx))) (mSeq (mFor (mIter (M.bind (dCons (dVar 4) (dNil)) (callV 1 m_law_indexed))) (gN 2) (mIfS (mOrT (mTest (mOp dNeL (mLst (mLc 8 [7] (mIter (dVar 2)) (gN 7) (mTest (mOp dNe (mCB dReprY (dCons (mUn (dXf ["InvalidReadings", "InvalidSea", "InvalidBox", "InvalidCounts", "InUse", "Broken"] "index") (dVar 7)) (dNil))) (mCB dReprY (dCons (dVar 4) (dNil))))) (mUn (dXf ["InvalidReadings", "InvalidSea", "InvalidBox", "InvalidCounts", "InUse", "Broken"] "index") (dVar 7)))) (mLst (dNil)))) (mNotT (mTest (M.bind (dCons (dVar 2) (dCons (M.ret (.int 19)) (dNil))) (callV 2 m_law_stand))))) (mRet (M.ret (.bl false))) (M.ret .nx))) (mSeq (mPar 5 6 (dCons (M.ret (.err "CompassError" [] [])) (dCons (mLst (dCons (M.ret (.err "TooMuchIron" [] [])) (dCons (M.ret (.err "NotAhead" [] [])) (dCons (M.ret (.err "SameDip" [] [])) (dCons (M.ret (.err "NoneFits" [] [])) (dCons (M.ret (.err "NothingToUndo" [] [])) (dNil))))))) (dNil)))) (mSeq (mIfS (mOrT (mNotT (mTest (M.bind (dCons (dVar 6) (dCons (M.ret (.int 25)) (dNil))) (callV 2 m_law_stand)))) (mTest (mOp dIn (M.ret (.bl true)) (M.bind (dCons (dVar 5) (dNil)) (callV 1 m_law_marks))))) (mRet (M.ret (.bl false))) (M.ret .nx)) (mRet (mAnd (mUn (dIsE [("CompassError", true), ("InvalidFraction", true), ("InvalidNumber", true), ("InvalidIndex", true), ("InvalidSurd", true), ("InvalidHeading", true), ("InvalidCourse", true), ("InvalidWave", true), ("InvalidIron", true), ("InvalidPiece", true), ("InvalidPlace", true), ("InvalidFive", true), ("InvalidForce", true), ("InvalidReading", true), ("InvalidName", true), ("InvalidWish", true), ("InvalidPhrase", true), ("UnknownName", true), ("NotAWorkshop", true), ("HighBelowLow", true), ("InvalidReadings", true), ("InvalidSea", true), ("InvalidBox", true), ("InvalidCounts", true), ("InUse", true), ("Broken", true), ("TooMuchIron", true), ("NotAhead", true), ("SameDip", true), ("NoneFits", true), ("NothingToUndo", true)]) (dVar 5)) (mNot (mUn (dIsE [("CompassError", false), ("InvalidFraction", false), ("InvalidNumber", false), ("InvalidIndex", false), ("InvalidSurd", false), ("InvalidHeading", false), ("InvalidCourse", false), ("InvalidWave", false), ("InvalidIron", false), ("InvalidPiece", false), ("InvalidPlace", false), ("InvalidFive", false), ("InvalidForce", false), ("InvalidReading", false), ("InvalidName", false), ("InvalidWish", false), ("InvalidPhrase", false), ("UnknownName", false), ("NotAWorkshop", false), ("HighBelowLow", false), ("InvalidReadings", false), ("InvalidSea", false), ("InvalidBox", false), ("InvalidCounts", false), ("InUse", false), ("Broken", false), ("TooMuchIron", false), ("NotAhead", false), ("SameDip", false), ("NoneFits", false), ("NothingToUndo", false)]) (dVar 5))))))))))
noncomputable def m_law_right_v80 : M D := fnB [0] 1 7 (asRet m_law_right_v80B)
noncomputable def mN_law_lodeB : M Fl := mSeq (mSet 2 (mIf (mTest (mOp dLt (dVar 1) (mCB dLen (dCons (dVar 0) (dNil))))) (mCB dInt (dCons (mOp dIx (dVar 0) (dVar 1)) (dNil))) (mOp dAdd (mOp dAdd (mOp dMul (M.ret (.int 6113)) (dVar 1)) (M.ret (.int 41))) (mOp dMod (mCB dInt (dCons (mCB dSum (dCons (mSl (dVar 0) (oNone) (oSome (M.ret (.int 5)))) (dNil))) (dNil))) (M.ret (.int 1000133)))))) (mSeq (mSet 3 (mOp dAdd (M.ret (.int 27191)) (mOp dMul (M.ret (.int 1409)) (dVar 1)))) (mSeq (mFor (mIter (mOp dAdd (mSl (dVar 0) (oNone) (oSome (M.ret (.int 11)))) (mLst (dCons (dVar 2) (dNil))))) (gN 4) (mSet 3 (mOp dMod (mCB dInt (dCons (mOp dAdd (mOp dAdd (mOp dMul (dVar 3) (M.ret (.int 39373))) (mOp dMod (mCB dInt (dCons (dVar 4) (dNil))) (M.ret (.int 2147483477)))) (M.ret (.int 17))) (dNil))) (M.ret (.int 2147483477))))) (mRetO (dCons (mIf (mOrT (mTest (mOp dLt (dVar 2) (M.ret (.int 0)))) (mTest (mOp dGe (dVar 2) (mOp dPow (M.ret (.int 10)) (M.ret (.int 18)))))) (mCB dAbs (dCons (dVar 2) (dNil))) (M.ret (.int 0))) (dCons (dVar 3) (dCons (M.ret (.int 0)) (dNil)))))))
noncomputable def mN_law_lode : M (List D) := fnB [] 2 3 (asRetO mN_law_lodeB)
noncomputable def m_law_v80B : M Fl := mRet (mCB dAll (dCons (mLst (mLc 2 [1] (mIter' rng1 (dCons (M.ret (.int 2)) (dNil))) (gN 1) (M.ret true) (M.bind (M.bind (dCons (dVar 0) (dCons (dVar 1) (dNil))) (callL 2 mN_law_lode)) (callN 1 m_law_right_v80)))) (dNil)))
noncomputable def m_law_v80 : M D := fnB [] 1 1 (asRet m_law_v80B)
end PV
namespace PB
open PV PySem PySem.Spec L2
local macro_rules | `(tactic| simp! [$as,*]) => `(tactic| try simp (maxSteps := 2000000) (disch := first | decide +kernel | assumption | omega) only [↓stuck_O, ↓stuck_W, ↓wp_ret, ↓wp_bind, ↓wp_lift, ↓wp_op, ↓wp_un, ↓wp_cb, ↓wp_test, ↓ow_asB, ↓wp_if, ↓wp_and, ↓wp_or, ↓wp_not, ↓wp_andT, ↓wp_orT,
  ↓wp_notT, ↓wp_chain, ↓wp_nil, ↓wp_cons, ↓wp_tup, ↓wp_lst, ↓wp_oNone, ↓wp_oSome, ↓wp_sl, ↓wp_seq, ↓flw_nx, ↓flw_bk, ↓flw_ct, ↓flw_rt,
  ↓flw_ro, ↓hp_set, ↓hp_own, ↓wp_rett, ↓wp_retO, ↓wp_expr, ↓wp_ifS, ↓wp_asg, ↓l2w_mk, ↓l3w_mk, ↓hp_iNil, ↓hp_ei, ↓eiw_own, ↓eiw_val, ↓hp_iD, ↓hp_iN, ↓i2w_mk, ↓i3w_mk, ↓hp_j2, ↓hp_j3, ↓setw_d, ↓setw_n, ↓hp_listN, ↓ow_bits, ↓ow_repT5, ↓hp_par, ↓hp_par3, ↓hp_gN, ↓wp_gsNil,
  ↓wp_gsCons, ↓wp_gT, ↓wp_gTl, ↓hp_owned, ↓hp_at, ↓hp_ixO, ↓hp_lenO, ↓hp_gSub, ↓hp_app, ↓wp_iter, ↓wp_iter', ↓wp_for, ↓turnw_nx, ↓turnw_ct, ↓turnw_bk,
  ↓turnw_rt, ↓turnw_ro, ↓wp_callK, ↓retw_rt, ↓retw_nx, ↓retOw_ro, ↓ohn_mk, ↓hv0, ↓ho0, ↓hs0, ↓hr0, ↓hv1, ↓ho1, ↓hs1,
  ↓hr1, ↓hv2, ↓ho2, ↓hs2, ↓hr2, ↓hv3, ↓ho3, ↓hs3, ↓hr3, ↓hv4, ↓ho4, ↓hs4, ↓hr4, ↓hv5,
  ↓ho5, ↓hs5, ↓hr5, ↓hv6, ↓ho6, ↓hs6, ↓hr6, ↓hv7, ↓ho7, ↓hs7, ↓hr7, ↓hv8, ↓ho8, ↓hs8,
  ↓hr8, ↓hv9, ↓ho9, ↓hs9, ↓hr9, ↓hv10, ↓ho10, ↓hs10, ↓hr10, ↓hv11, ↓ho11, ↓hs11, ↓hr11, ↓hv12,
  ↓ho12, ↓hs12, ↓hr12, ↓hv13, ↓ho13, ↓hs13, ↓hr13, ↓hv14, ↓ho14, ↓hs14, ↓hr14, ↓hv15, ↓ho15, ↓hs15,
  ↓hr15, ↓hv16, ↓ho16, ↓hs16, ↓hr16, ↓hv17, ↓ho17, ↓hs17, ↓hr17, ↓hv18, ↓ho18, ↓hs18, ↓hr18, ↓hv19,
  ↓ho19, ↓hs19, ↓hr19, ↓hv20, ↓ho20, ↓hs20, ↓hr20, ↓hv21, ↓ho21, ↓hs21, ↓hr21, ↓hv22, ↓ho22, ↓hs22,
  ↓hr22, ↓hv23, ↓ho23, ↓hs23, ↓hr23, ↓hv24, ↓ho24, ↓hs24, ↓hr24, ↓hv25, ↓ho25, ↓hs25, ↓hr25, ↓hv26,
  ↓ho26, ↓hs26, ↓hr26, ↓hv27, ↓ho27, ↓hs27, ↓hr27, ↓ow_zip_tup, ↓ow_zip_lst, ↓ow_pow', ↓ow_add, ↓ow_sub, ↓ow_neg, ↓ow_mul, ↓ow_div, ↓ow_mod, ↓ow_lt,
  ↓ow_le, ↓ow_gt, ↓ow_ge, ↓ow_isNon, ↓ow_isNotNon, ↓ow_isBl, ↓ow_isNotBl, ↓ow_items_tup, ↓ow_items_lst, ↓ow_items_R, ↓ow_len_tup, ↓ow_len_lst, ↓ow_len_fz, ↓ow_len_R,
  ↓ow_abs, ↓ow_min, ↓ow_max, ↓ow_int, ↓ow_divmod, ↓ow_gcd, ↓ow_tuple_lst, ↓ow_tuple_tup, ↓ow_list_lst, ↓ow_list_tup, ↓ow_all, ↓ow_all0, ↓ow_all1, ↓ow_all2,
  ↓ow_all3, ↓ow_all4, ↓ow_all5, ↓ow_any0, ↓ow_any1, ↓ow_any2, ↓ow_any3, ↓ow_eq_str, ↓ow_ne_str, ↓ow_some, ↓ow_sum, ↓ow_setAt0, ↓ow_setAt1, ↓ow_setAt2, ↓ow_setAt3, ↓ow_setAt4, ↓ow_setAt5, ↓ow_R0, ↓ow_R1, ↓ow_ix_tup0,
  ↓ow_ix_tup1, ↓ow_ix_tup2, ↓ow_ix_tup3, ↓ow_ix_tup4, ↓ow_ix_tup5, ↓ow_ix_lst0, ↓ow_ix_lst1, ↓ow_ix_lst2, ↓ow_ix_lst3, ↓ow_ix_lst4, ↓ow_ix_lst5, ↓isi_tt, ↓isi_it, ↓isi_bt,
  ↓isi_ti, ↓isi_ii, ↓isi_bi, ↓isi_tn, ↓isi_in, ↓isi_bn, ↓isi_tl, ↓isi_il, ↓isi_bl, ↓isi_tb, ↓isi_ib, ↓isi_bb, ↓isi_ts, ↓isi_is,
  ↓isi_bs, ↓isi_tR, ↓isi_iR, ↓isi_bR, ↓ex_int, wp_var, slw_val, slw_own, wp_put, ownw_mk, isNon_non, isNon_int, isNon_bl, isNon_tup,
  isNon_lst, isNon_str, isNon_R, pairs_cons, pairs_nil, pk_some, pick_nil, pick_cons, kwOf_eq, eqD_int, eqD_bl, eqD_non, eqD_str, eqD_non_tup, eqD_tup_non, eqD_non_int,
  eqD_int_non, eqD_int_tup, eqD_tup_int, eqD_tup0, eqD_tup01, eqD_tup10, eqD_tup1, eqD_lst0, eqD_lst01, eqD_lst10, eqD_lst1, eqD_R, eqD_R_non, eqD_non_R,
  List.getElem?_cons_zero, List.getElem?_cons_succ, List.getElem?_nil, List.set_cons_zero, List.set_cons_succ, List.length_cons, List.length_nil, List.map_cons, List.map_nil, List.cons_append, List.nil_append, List.append_nil, List.replicate_succ, List.replicate_zero,
  List.length_set, Nat.reduceAdd, Nat.reduceLeDiff, Nat.reduceEqDiff, Nat.zero_lt_succ, Nat.reduceSub, Nat.le_refl, Nat.zero_add, Nat.lt_add_one, Nat.zero_le, Nat.le_add_left, Nat.reduceLT, Int.reducePow, Int.reduceNeg, Int.reduceLE,
  Int.reduceLT, Int.reduceToNat, List.flatten_cons, List.flatten_nil, Int.cast_ofNat_Int, Bool.true_eq_false, reduceCtorEq, true_and, and_true, if_true, if_false, decide_true, decide_false, decide_eq_true_eq,
  Bool.true_and, Bool.and_true, Bool.false_and, Bool.and_false, Bool.not_true, Bool.not_false, Bool.false_eq_true, ↓reduceIte, and_self, Bool.not_eq_true', decide_eq_false_iff_not, $as,*])
def Lode (n : Nat) (L : List D) : Prop := ∃ c s k : Int, L = [.int c, .int s, .int k] ∧ 0 ≤ c ∧ 0 ≤ s ∧ s < 2147483477 ∧ 0 ≤ k ∧ k + n ≤ 18446744073709551616
theorem Lode.mono {n m : Nat} {L : List D} (h : Lode n L) (l : m ≤ n) : Lode m L := by
  obtain ⟨c, s, k, e, h1, h2, h3, h4, h5⟩ := h
  exact ⟨c, s, k, e, h1, h2, h3, h4, by omega⟩
theorem natAbs_lt_pow {x : Int} {b : Nat} (h1 : -(2 ^ b : Int) < x) (h2 : x < 2 ^ b) : x.natAbs < 2 ^ b := by
  have : ((2 ^ b : Nat) : Int) = (2 : Int) ^ b := by rw [Int.natCast_pow]; rfl
  omega
theorem divOk_lit {j : Int} (h0 : 0 < j) (h : j < 18446744073709551616) : divOk j = true := divOk_of (a := 64) (by omega) (natAbs_lt_pow (by omega) (by omega)) (by decide)
theorem mulOk_lit {i j : Int} (h1 : -18446744073709551617 < i) (h2 : i < 18446744073709551617) (h3 : -18446744073709551617 < j) (h4 : j < 18446744073709551617) : mulOk i j = true := mulOk_of (a := 65) (b := 65) (natAbs_lt_pow (by omega) (by omega)) (natAbs_lt_pow (by omega) (by omega)) (by decide)
theorem log2_lit {j : Int} (h0 : 0 < j) (h : j < 18446744073709551616) : j.natAbs.log2 < 9000 := by
  have h1 : j.natAbs < 2 ^ 64 := by omega
  have := (Nat.log2_lt (n := j.natAbs) (by omega)).mpr h1
  omega
theorem sp_law_deal {i n : Nat} {L : List D} {m : Int} {ρ : En} {Q : D → En → Prop} (e : ρ[i]? = some (.own L)) (hL : Lode (n + 1) L) (hm : 1 ≤ m) (hm2 : m < 18446744073709551616)
    (hQ : ∀ (d : Int) (L' : List D), 0 ≤ d → d < m → Lode n L' → Q (.int d) (ρ.set i (.own L'))) : wp (callO 2 m_law_deal i [.int m]) ρ Q := by
  obtain ⟨c, s, k, rfl, h1, h2, h3, h4, h5⟩ := hL
  unfold m_law_deal m_law_dealB
  rw [wp_O, e]
  simp! []
  split
  · rename_i hc
    refine ⟨⟨by omega, log2_lit (by omega) hm2⟩, ?_⟩
    try simp! []
    exact hQ (c % m) [.int (c / m), .int s, .int k] (Int.emod_nonneg _ (by omega)) (Int.emod_lt_of_pos _ (by omega)) ⟨_, _, _, rfl, Int.ediv_nonneg h1 (by omega), h2, h3, h4, by omega⟩
  · rename_i hc
    have f1 : s.fmod 17011 = s % 17011 := Int.fmod_eq_emod_of_nonneg _ (by decide)
    simp! [f1]
    have g1 : 0 ≤ s % 17011 := Int.emod_nonneg _ (by decide)
    have g2 : s % 17011 < 17011 := Int.emod_lt_of_pos _ (by decide)
    refine ⟨by decide, mulOk_lit (by omega) (by omega) (by omega) (by omega), mulOk_lit (by omega) (by omega) (by omega) (by omega), by decide, divOk_lit (by decide) (by decide), by omega, ?_⟩
    generalize (s * (s % 17011 + 23003) + 60013 * (k + 1) + 41) = z
    rw [Int.fmod_eq_emod_of_nonneg z (by decide), Int.fmod_eq_emod_of_nonneg _ (by omega)]
    have z1 : 0 ≤ z % 2147483477 := Int.emod_nonneg _ (by decide)
    have z2 : z % 2147483477 < 2147483477 := Int.emod_lt_of_pos _ (by decide)
    exact hQ (_ % m) [.int c, .int (z % 2147483477), .int (k + 1)] (Int.emod_nonneg _ (by omega)) (Int.emod_lt_of_pos _ (by omega)) ⟨_, _, _, rfl, h1, z1, z2, by omega, by omega⟩
theorem sp_law_some {i n : Nat} {L ds : List D} {ρ : En} {Q : D → En → Prop} (e : ρ[i]? = some (.own L)) (hL : Lode (n + 1) L) (h0 : 0 < ds.length) (h1 : ds.length < 1000000)
    (hQ : ∀ d L', d ∈ ds → Lode n L' → Q d (ρ.set i (.own L'))) : wp (callO 2 m_law_some i [.lst ds]) ρ Q := by
  unfold m_law_some m_law_someB
  rw [wp_O, e]
  simp! []
  refine sp_law_deal rfl hL (by omega) (by omega) fun d L' d0 d1 hL' => ?_
  simp! []
  obtain ⟨k, rfl⟩ : ∃ k : Nat, d = k := ⟨d.toNat, by omega⟩
  have hk : k < ds.length := by omega
  rw [ow_of (show dIx (.lst ds) (.int (k : Int)) = some ds[k] from PV.atI_nat (List.getElem?_eq_getElem hk))]
  simp! []
  exact hQ _ _ (List.getElem_mem hk) hL'
theorem sp_law_about {i n : Nat} {L : List D} {w : Int} {ρ : En} {Q : D → En → Prop} (e : ρ[i]? = some (.own L)) (hL : Lode (n + 2) L) (h0 : 0 ≤ w) (h1 : w < 1000000000000)
    (hQ : ∀ (d : Int) L', -w ≤ d → d ≤ w → Lode n L' → Q (.int d) (ρ.set i (.own L'))) : wp (callO 2 m_law_about i [.int w]) ρ Q := by
  unfold m_law_about m_law_aboutB
  rw [wp_O, e]
  simp! []
  split
  · refine ⟨mulOk_lit (by omega) (by omega) (by omega) (by omega), ?_⟩
    refine sp_law_deal rfl (hL.mono (by omega : n + 1 ≤ n + 2)) (by omega) (by omega) fun d L' d0 d1 hL' => ?_
    simp! []
    exact hQ _ _ (by omega) (by omega) hL'
  · refine sp_law_deal rfl hL (by omega) (by omega) fun d L' d0 d1 hL' => ?_
    simp! []
    refine ⟨mulOk_lit (by omega) (by omega) (by omega) (by omega), ?_⟩
    refine sp_law_deal rfl hL' (by omega) (by omega) fun d2 L2 d20 d21 hL2 => ?_
    simp! []
    refine ⟨mulOk_lit (by omega) (by omega) (by omega) (by omega), by omega, ?_⟩
    rw [Int.fmod_eq_emod_of_nonneg _ (by omega)]
    have z1 := Int.emod_nonneg (d * 64007 + d2) (b := 2 * w + 1) (by omega)
    have z2 := Int.emod_lt_of_pos (d * 64007 + d2) (b := 2 * w + 1) (by omega)
    exact hQ _ _ (by omega) (by omega) hL2
theorem _root_.PV.Bd.divInt {n m : Int} {b : Nat} (hm : m ≠ 0) (h1 : n.natAbs < 2 ^ b) (h2 : m.natAbs < 2 ^ b) : Bd b (Rat.divInt n m) := by
  refine ⟨?_, ?_⟩
  · rw [Rat.num_divInt]
    refine Nat.lt_of_le_of_lt (natAbs_ediv_le _ _) ?_
    rw [Int.natAbs_mul]
    have h3 : m.sign.natAbs ≤ 1 := by
      rcases Int.lt_trichotomy m 0 with z | z | z
      · rw [Int.sign_eq_neg_one_of_neg z]; decide
      · rw [z]; decide
      · rw [Int.sign_eq_one_of_pos z]; decide
    have h4 := Nat.mul_le_mul_right n.natAbs h3
    omega
  · rw [Rat.den_divInt, if_neg hm]
    exact Nat.lt_of_le_of_lt (Nat.div_le_self _ _) h2
theorem div_mul_self2 {x y : Rat} (hy : y ≠ 0) : x / y * y = x := Rat.div_mul_cancel hy
theorem cutD_ints (ns : List Int) (lo hi : Option Int) : ∃ ms : List Int, cutD (ns.map .int) lo hi = ms.map .int ∧ ms.length ≤ ns.length := by
  unfold cutD
  rw [← List.map_drop, ← List.map_take]
  exact ⟨_, rfl, by rw [List.length_take, List.length_drop]; omega⟩
theorem ow_sl_fz {ns : List Int} {lo hi : Option Int} {P : D → Prop} : ow (dSl lo hi (.fz ns)) P ↔ P (.lst (cutD (ns.map .int) lo hi)) := ow_some
theorem ow_ix_fz {ns : List Int} {i : Int} {P : D → Prop} (h0 : 0 ≤ i) (h1 : i < ns.length) : ow (dIx (.fz ns) (.int i)) P ↔ P (.int (ns.getD i.toNat 0)) := by
  obtain ⟨k, rfl⟩ : ∃ k : Nat, i = k := ⟨i.toNat, by omega⟩
  have hk : k < ns.length := by omega
  have e : dIx (.fz ns) (.int (k : Int)) = some (.int ns[k]) := by
    show (atI ns (k : Int)).map D.int = _
    rw [PV.atI_nat (List.getElem?_eq_getElem hk)]; rfl
  rw [ow_of e]
  simp [List.getD_eq_getElem?_getD, List.getElem?_eq_getElem hk]
theorem ow_add_lst {xs ys : List D} {P : D → Prop} : ow (dAdd (.lst xs) (.lst ys)) P ↔ xs.length + ys.length ≤ 1000000 ∧ P (.lst (xs ++ ys)) := by
  unfold dAdd; rw [ow_ite, ow_some]
theorem ow_rng1 {j : Int} {P : List D → Prop} (h0 : 0 ≤ j) (h : j ≤ 1000) : ow (rng1 [.int j]) P ↔ P (upto 0 j.toNat) := by
  unfold rng1
  show ow (if _ then _ else none) P ↔ _
  rw [ow_ite, ow_some]
  exact ⟨fun q => q.2, fun q => ⟨by omega, q⟩⟩
theorem upto_length (lo : Int) (n : Nat) : (upto lo n).length = n := by unfold upto; rw [List.length_map, List.length_range]
theorem mem_upto {lo : Int} {n : Nat} {d : D} (h : d ∈ upto lo n) : ∃ i : Nat, i < n ∧ d = .int (lo + i) := by
  unfold upto at h
  rw [List.mem_map] at h
  obtain ⟨i, h1, rfl⟩ := h
  exact ⟨i, List.mem_range.mp h1, rfl⟩
theorem sp_law_lode {ns : List Int} {lap : Int} {ρ : En} {Q : List D → En → Prop} (h63 : ns.length ≤ 63) (h0 : 0 ≤ lap) (h1 : lap < 1000) (hQ : ∀ L, Lode 1000000 L → Q L ρ) : wp (callL 2 mN_law_lode [.fz ns, .int lap]) ρ Q := by
  obtain ⟨m5, e5, l5⟩ := cutD_ints ns none (some 5)
  obtain ⟨m11, e11, l11⟩ := cutD_ints ns none (some 11)
  unfold mN_law_lode mN_law_lodeB
  rw [wp_L]
  refine ⟨rfl, seq_cut (fun r => ∃ c : Int, r = [.val (.fz ns), .val (.int lap), .val (.int c), .no, .no]) ?_ ?_⟩
  · simp! []
    split
    · rw [ow_ix_fz h0 (by omega)]
      simp! []
      exact ⟨_, rfl⟩
    · refine ⟨mulOk_lit (by omega) (by omega) (by omega) (by omega), ?_⟩
      simp! [↓ow_sl_fz, e5]
      exact ⟨by decide, _, rfl⟩
  rintro r ⟨c, rfl⟩
  refine seq_cut (fun r => r = [.val (.fz ns), .val (.int lap), .val (.int c), .val (.int (27191 + 1409 * lap)), .no]) ?_ ?_
  · simp! []
    exact mulOk_lit (by omega) (by omega) (by omega) (by omega)
  rintro r rfl
  refine seq_cut (fun r => ∃ s x, r = [.val (.fz ns), .val (.int lap), .val (.int c), .val (.int s), x] ∧ 0 ≤ s ∧ s < 2147483477) ?_ ?_
  · simp! [↓ow_sl_fz, e11, ↓ow_add_lst]
    refine ⟨by rw [List.length_map]; omega, ?_⟩
    refine wp_loop (fun ds r => (∀ d ∈ ds, ∃ i, d = .int i) ∧ ∃ s x, r = [.val (.fz ns), .val (.int lap), .val (.int c), .val (.int s), x] ∧ 0 ≤ s ∧ s < 2147483477) ⟨?_, _, _, rfl, by omega, by omega⟩ ?_ ?_
    · intro d hd
      rw [List.mem_append, List.mem_map] at hd
      rcases hd with ⟨i, _, rfl⟩ | hd
      · exact ⟨i, rfl⟩
      · rw [List.mem_singleton] at hd; exact ⟨_, hd⟩
    · rintro d ds r ⟨hd, s, x, rfl, s0, s1⟩
      obtain ⟨i, rfl⟩ := hd d List.mem_cons_self
      simp! []
      refine ⟨mulOk_lit (by omega) (by omega) (by omega) (by omega), by decide, by decide, fun d hd' => hd d (List.mem_cons_of_mem _ hd'), _, _, rfl, ?_⟩
      rw [Int.fmod_eq_emod_of_nonneg _ (by decide)]
      exact ⟨Int.emod_nonneg _ (by decide), Int.emod_lt_of_pos _ (by decide)⟩
    · rintro r ⟨_, s, x, rfl, s0, s1⟩
      exact ⟨rfl, s, x, rfl, s0, s1⟩
  rintro r ⟨s, x, rfl, s0, s1⟩
  simp! []
  have k1 : Q [.int (c.natAbs : Int), .int s, .int 0] ρ := hQ _ ⟨_, _, _, rfl, by omega, s0, s1, by omega, by omega⟩
  have k2 : Q [.int 0, .int s, .int 0] ρ := hQ _ ⟨_, _, _, rfl, by omega, s0, s1, by omega, by omega⟩
  split
  · exact k1
  · split
    · exact k1
    · exact k2
theorem good_of {n : Nat} {F : M D} (h : ∀ ns : List Int, ns.length ≤ n → wp (callV 1 F [.fz ns]) [] fun d _ => d = .bl true) : Good n F := fun ns hn => by
  obtain ⟨_, a, r, e, rfl⟩ := wp_callV.mp (h ns hn)
  exact ⟨r, e⟩
theorem all_true {yss : List (List D)} {ds : List D} (h : All2 (fun _ ys => ys = [D.bl true]) ds yss) : yss.flatten = (List.replicate ds.length true).map D.bl := by
  induction h with
  | nil => rfl
  | cons h1 h2 ih => rw [List.flatten_cons, ih, h1]; rfl
theorem laps_true {T : M D} {W : M (List D)} {ds : List D} {ns : List Int} (hds : ∀ d ∈ ds, ∃ i : Int, 0 ≤ i ∧ i < 1000 ∧ d = .int i)
    (hW : ∀ (i : Int) (ρ : En) (Q : List D → En → Prop), 0 ≤ i → i < 1000 → (∀ L, Lode 1000000 L → Q L ρ) → wp (callL 2 W [.fz ns, .int i]) ρ Q)
    (hT : ∀ (L : List D) (ρ : En) (Q : D → En → Prop), Lode 1000000 L → Q (.bl true) ρ → wp (callN 1 T L) ρ Q) {x : Sl} (hx : isOwn [.val (.fz ns), x] 1 = false) {Q : List D → En → Prop} (hQ : ∀ x, isOwn [.val (.fz ns), x] 1 = false → Q ((List.replicate ds.length true).map D.bl) [.val (.fz ns), x]) :
    wp (lcL 2 [1] (gN 1) (M.ret true) (M.bind (M.bind (dCons (dVar 0) (dCons (dVar 1) (dNil))) (callL 2 W)) (callN 1 T)) ds) [.val (.fz ns), x] Q := by
  refine wp_mono (wp_lcs (fun r => ∃ x, isOwn [.val (.fz ns), x] 1 = false ∧ r = [.val (.fz ns), x]) (fun _ ys => ys = [.bl true]) ⟨x, hx, rfl⟩ ?_) ?_
  · rintro d hd r ⟨x, hx, rfl⟩
    obtain ⟨i, i0, i1, rfl⟩ := hds d hd
    simp! [wipeE, List.all_cons, List.all_nil, hx]
    refine hW i _ _ i0 i1 fun L hL => ?_
    refine hT L _ _ hL ⟨⟨.val (.int i), rfl, rfl⟩, rfl⟩
  · rintro ys r ⟨⟨x, hx, rfl⟩, yss, rfl, h⟩
    rw [all_true h]
    exact hQ x hx
theorem all_rep (n : Nat) : (List.replicate n true).all id = true := by
  rw [List.all_eq_true]; intro x hx; exact (List.mem_replicate.mp hx).2
abbrev five (a b c d e : Rat) : D := .tup [Fr a, Fr b, Fr c, Fr d, Fr e]
def nor (a b c d e x y : Rat) : Rat := 1 + b * x - c * y + d * (x * x - y * y) - e * (x * y + y * x)
def eas (a b c d e x y : Rat) : Rat := a + b * y + c * x + d * (x * y + y * x) + e * (x * x - y * y)
instance Bd.nor {a b c d e x y : Rat} {k1 k2 k3 k4 k5 k6 k7 : Nat} [Bd k1 a] [Bd k2 b] [Bd k3 c] [Bd k4 d] [Bd k5 e] [Bd k6 x] [Bd k7 y] : Bd (k2 + k3 + k4 + k5 + 5 * k6 + 5 * k7 + 7) (nor a b c d e x y) := Bd.mono (by unfold PB.nor; infer_instance) (by omega)
instance Bd.eas {a b c d e x y : Rat} {k1 k2 k3 k4 k5 k6 k7 : Nat} [Bd k1 a] [Bd k2 b] [Bd k3 c] [Bd k4 d] [Bd k5 e] [Bd k6 x] [Bd k7 y] : Bd (k1 + k2 + k3 + k4 + k5 + 5 * k6 + 5 * k7 + 6) (eas a b c d e x y) := Bd.mono (by unfold PB.eas; infer_instance) (by omega)
def ahd (a b d e x y : Rat) : Rat := 0 + b + (1 + d) * x + (a - e) * y
def asd (a c d e x y : Rat) : Rat := 0 + c + (a + e) * x + (d - 1) * y
instance Bd.ahd {a b d e x y : Rat} {k1 k2 k4 k5 k6 k7 : Nat} [Bd k1 a] [Bd k2 b] [Bd k4 d] [Bd k5 e] [Bd k6 x] [Bd k7 y] : Bd (k1 + k2 + k4 + k5 + k6 + k7 + 7) (ahd a b d e x y) := Bd.mono (by unfold PB.ahd; infer_instance) (by omega)
instance Bd.asd {a c d e x y : Rat} {k1 k3 k4 k5 k6 k7 : Nat} [Bd k1 a] [Bd k3 c] [Bd k4 d] [Bd k5 e] [Bd k6 x] [Bd k7 y] : Bd (k1 + k3 + k4 + k5 + k6 + k7 + 7) (asd a c d e x y) := Bd.mono (by unfold PB.asd; infer_instance) (by omega)
def sgn (n : Int) : Int := if 0 < n then 1 else if n < 0 then -1 else 0
instance {s : Str} : Shw s.cps.size (.str s) := ⟨fun _ => ⟨rfl, Nat.le_refl _⟩⟩
instance : Eqb 0 (.str "east") := ⟨by decide +kernel⟩
instance : Eqb 0 (.str "west") := ⟨by decide +kernel⟩
instance : Eqb 0 (.str "plain") := ⟨by decide +kernel⟩
instance : Eqb 0 (.str "against") := ⟨by decide +kernel⟩
instance : Eqb 0 (.str "dead") := ⟨by decide +kernel⟩
instance : Eqb 0 (.str "round") := ⟨by decide +kernel⟩
instance : Eqb 0 (.str "backward") := ⟨by decide +kernel⟩
instance : Eqb 0 (.str "swings") := ⟨by decide +kernel⟩
instance : Eqb 0 (.str "stuck") := ⟨by decide +kernel⟩
instance : Eqb 0 (.str "all") := ⟨by decide +kernel⟩
instance : Eqb 0 (.str "endless") := ⟨by decide +kernel⟩
instance : Eqb 0 (.str "sure") := ⟨by decide +kernel⟩
instance : Eqb 0 (.str "never") := ⟨by decide +kernel⟩
instance : Eqb 0 (.str "open") := ⟨by decide +kernel⟩
def FiveS (S : Nat) (f : D) : Prop := ∃ a b c d e k1 k2 k3 k4 k5, f = five a b c d e ∧ Bd k1 a ∧ Bd k2 b ∧ Bd k3 c ∧ Bd k4 d ∧ Bd k5 e ∧ k1 + k2 + k3 + k4 + k5 ≤ S
theorem FiveS.mono {S T : Nat} {f : D} (h : FiveS S f) (l : S ≤ T) : FiveS T f := by
  obtain ⟨a, b, c, d, e, k1, k2, k3, k4, k5, r, h1, h2, h3, h4, h5, hs⟩ := h
  exact ⟨a, b, c, d, e, k1, k2, k3, k4, k5, r, h1, h2, h3, h4, h5, by omega⟩
def way (p q : Int) : D := .tup [.int (p.fdiv (Int.gcd p q : Int)), .int (q.fdiv (Int.gcd p q : Int))]
class Ib (b : outParam Nat) (p : Int) : Prop where
  n : p.natAbs < 2 ^ b
instance {b : Nat} {p : Int} [h : Ib b p] : Shw (8001 * (b / 1901)) (.int p) := ⟨fun l => by
  have hb : b ≤ 1900 := by omega
  refine ⟨?_, Nat.zero_le _⟩
  show decide (p.natAbs.log2 < 1920) = true
  rw [decide_eq_true_eq]
  by_cases h0 : p.natAbs = 0
  · rw [h0]; decide
  · have := (Nat.log2_lt h0).mpr h.n
    omega⟩
instance {p q : Int} : Eqb 1 (way p q) := ⟨rfl⟩
noncomputable instance : DecidableEq D := Classical.typeDecidableEq D
def ahd' (a b d e x y : Rat) : Rat := b + ((1 + d) * x + (a - e) * y)
def asd' (a c d e x y : Rat) : Rat := c + ((a + e) * x + (d - 1) * y)
theorem ahd_eq {a b d e x y : Rat} : ahd' a b d e x y = ahd a b d e x y := by unfold ahd ahd'; grind
theorem asd_eq {a c d e x y : Rat} : asd' a c d e x y = asd a c d e x y := by unfold asd asd'; grind
instance Bd.ahd' {a b d e x y : Rat} {k1 k2 k4 k5 k6 k7 : Nat} [Bd k1 a] [Bd k2 b] [Bd k4 d] [Bd k5 e] [Bd k6 x] [Bd k7 y] : Bd (k1 + k2 + k4 + k5 + k6 + k7 + 7) (ahd' a b d e x y) := by rw [ahd_eq]; infer_instance
instance Bd.asd' {a c d e x y : Rat} {k1 k3 k4 k5 k6 k7 : Nat} [Bd k1 a] [Bd k3 c] [Bd k4 d] [Bd k5 e] [Bd k6 x] [Bd k7 y] : Bd (k1 + k3 + k4 + k5 + k6 + k7 + 7) (asd' a c d e x y) := by rw [asd_eq]; infer_instance
def stg (a e : Rat) : Rat := 1 + 1 / 2 * (a + e)
instance Bd.stg {a e : Rat} {k1 k2 : Nat} [Bd k1 a] [Bd k2 e] : Bd (k1 + k2 + 7) (stg a e) := Bd.mono (by unfold PB.stg; infer_instance) (by omega)
def qtr (c s : Rat) : Int := if 0 < c ∧ 0 ≤ s then 0 else if 0 < s then 1 else if c < 0 then 2 else 3
theorem qtr_bd (c s : Rat) : 0 ≤ qtr c s ∧ qtr c s ≤ 3 := by
  unfold qtr; split <;> (try split) <;> (try split) <;> decide
instance {c s : Rat} : Ib 3 (qtr c s) := ⟨by have := qtr_bd c s; omega⟩
def ordr (c1 s1 c2 s2 : Rat) : Int := if qtr c1 s1 < qtr c2 s2 then -1 else if qtr c2 s2 < qtr c1 s1 then 1 else sgn (s1 * c2 - c1 * s2).num
theorem sgn_bd (n : Int) : sgn n = 0 ∨ sgn n = 1 ∨ sgn n = -1 := by
  unfold sgn; split <;> (try split) <;> omega
theorem ordr_bd (c1 s1 c2 s2 : Rat) : ordr c1 s1 c2 s2 = 0 ∨ ordr c1 s1 c2 s2 = 1 ∨ ordr c1 s1 c2 s2 = -1 := by
  unfold ordr; split
  · simp
  · split
    · simp
    · exact sgn_bd _
instance {c1 s1 c2 s2 : Rat} : Ib 3 (ordr c1 s1 c2 s2) := ⟨by have := ordr_bd c1 s1 c2 s2; omega⟩
def rt (n : Int) : Int := (Float64.isqrt n.toNat : Nat)
def WayC (k : Nat) (d : D) : Prop := ∃ p q : Int, d = .tup [.int p, .int q] ∧ Int.gcd p q = 1 ∧ p.natAbs < 2 ^ k ∧ q.natAbs < 2 ^ k
theorem WayC.mono {j k : Nat} {d : D} (h : WayC j d) (l : j ≤ k) : WayC k d := by
  obtain ⟨p, q, e, g, h1, h2⟩ := h
  have := Nat.pow_le_pow_right (show 0 < 2 by decide) l
  exact ⟨p, q, e, g, by omega, by omega⟩
def wnm (a d e : Rat) : Rat := 1 + a * a - (d * d + e * e)
def tn1 (a b c d e : Rat) : Rat := b + a * c - (d * b + e * c)
def tn2 (a b c d e : Rat) : Rat := c + d * c - (a * b + e * b)
instance Bd.wnm {a d e : Rat} {k1 k4 k5 : Nat} [Bd k1 a] [Bd k4 d] [Bd k5 e] : Bd (2 * k1 + 2 * k4 + 2 * k5 + 4) (wnm a d e) := Bd.mono (by unfold PB.wnm; infer_instance) (by omega)
instance Bd.tn1 {a b c d e : Rat} {k1 k2 k3 k4 k5 : Nat} [Bd k1 a] [Bd k2 b] [Bd k3 c] [Bd k4 d] [Bd k5 e] : Bd (k1 + 2 * k2 + 2 * k3 + k4 + k5 + 3) (tn1 a b c d e) := Bd.mono (by unfold PB.tn1; infer_instance) (by omega)
instance Bd.tn2 {a b c d e : Rat} {k1 k2 k3 k4 k5 : Nat} [Bd k1 a] [Bd k2 b] [Bd k3 c] [Bd k4 d] [Bd k5 e] : Bd (k1 + 2 * k2 + 2 * k3 + k4 + k5 + 3) (tn2 a b c d e) := Bd.mono (by unfold PB.tn2; infer_instance) (by omega)
def St (n : Nat) (L : List D) : Prop := ∃ c s k : Int, L = [.int c, .int s, .int k] ∧ 0 ≤ c ∧ 0 ≤ s ∧ s < 2147483629 ∧ 0 ≤ k ∧ k + n ≤ 18446744073709551616
theorem St.mono {n m : Nat} {L : List D} (h : St n L) (l : m ≤ n) : St m L := by
  obtain ⟨c, s, k, e, h1, h2, h3, h4, h5⟩ := h
  exact ⟨c, s, k, e, h1, h2, h3, h4, by omega⟩
theorem Bd_lit {q : Rat} {k : Nat} (h1 : q.num.natAbs < 2 ^ k) (h2 : q.den < 2 ^ k) : Bd k q := ⟨h1, h2⟩
def Uh (c s : Rat) : Prop := ∃ X Y M : Int, M ≠ 0 ∧ X.natAbs < 2 ^ 15 ∧ Y.natAbs < 2 ^ 15 ∧ M.natAbs < 2 ^ 15 ∧ c = Rat.divInt X M ∧ s = Rat.divInt Y M
theorem divInt_mul {n m : Int} (hm : m ≠ 0) : Rat.divInt n m * m = n := by
  have hm' : (m : Rat) ≠ 0 := fun z => hm (by rw [← Rat.intCast_inj]; exact z)
  rw [Rat.divInt_eq_div]
  exact div_mul_self2 hm'
def wth (p q r s t x y : Rat) : Rat := 0 + p + q * x + r * y + s * (x * x - y * y) + t * (2 * (x * y))
instance Bd.wth {p q r s t x y : Rat} {k1 k2 k3 k4 k5 k6 k7 : Nat} [Bd k1 p] [Bd k2 q] [Bd k3 r] [Bd k4 s] [Bd k5 t] [Bd k6 x] [Bd k7 y] : Bd (k1 + k2 + k3 + k4 + k5 + 4 * k6 + 4 * k7 + 15) (wth p q r s t x y) := Bd.mono (by unfold PB.wth; infer_instance) (by omega)
def fw0 (a b c d e : Rat) : Rat := 1 + a * a + b * b + c * c + d * d + e * e
def fw1 (a b c d e : Rat) : Rat := 2 * (b + a * c + (b * d + c * e))
def fw2 (a b c d e : Rat) : Rat := 2 * (a * b - c + (c * d - b * e))
def fw3 (a d e : Rat) : Rat := 2 * (d + a * e)
def fw4 (a d e : Rat) : Rat := 2 * (a * d - e)
instance Bd.fw0 {a b c d e : Rat} {k1 k2 k3 k4 k5 : Nat} [Bd k1 a] [Bd k2 b] [Bd k3 c] [Bd k4 d] [Bd k5 e] : Bd (2 * k1 + 2 * k2 + 2 * k3 + 2 * k4 + 2 * k5 + 6) (fw0 a b c d e) := Bd.mono (by unfold PB.fw0; infer_instance) (by omega)
instance Bd.fw1 {a b c d e : Rat} {k1 k2 k3 k4 k5 : Nat} [Bd k1 a] [Bd k2 b] [Bd k3 c] [Bd k4 d] [Bd k5 e] : Bd (k1 + 2 * k2 + 2 * k3 + k4 + k5 + 6) (fw1 a b c d e) := Bd.mono (by unfold PB.fw1; infer_instance) (by omega)
instance Bd.fw2 {a b c d e : Rat} {k1 k2 k3 k4 k5 : Nat} [Bd k1 a] [Bd k2 b] [Bd k3 c] [Bd k4 d] [Bd k5 e] : Bd (k1 + 2 * k2 + 2 * k3 + k4 + k5 + 6) (fw2 a b c d e) := Bd.mono (by unfold PB.fw2; infer_instance) (by omega)
instance Bd.fw3 {a d e : Rat} {k1 k4 k5 : Nat} [Bd k1 a] [Bd k4 d] [Bd k5 e] : Bd (k1 + k4 + k5 + 4) (fw3 a d e) := Bd.mono (by unfold PB.fw3; infer_instance) (by omega)
instance Bd.fw4 {a d e : Rat} {k1 k4 k5 : Nat} [Bd k1 a] [Bd k4 d] [Bd k5 e] : Bd (k1 + k4 + k5 + 4) (fw4 a d e) := Bd.mono (by unfold PB.fw4; infer_instance) (by omega)
def Ch (a b c : Rat) : Prop := ∃ N A B C : Int, N ≠ 0 ∧ N.natAbs < 2 ^ 30 ∧ A.natAbs < 2 ^ 31 ∧ B.natAbs < 2 ^ 31 ∧ C.natAbs < 2 ^ 31 ∧ a * N = A ∧ b * N = B ∧ c * N = C
theorem na_mono {x : Int} {k l : Nat} (hx : x.natAbs < 2 ^ k) (h : k ≤ l) : x.natAbs < 2 ^ l := Nat.lt_of_lt_of_le hx (Nat.pow_le_pow_right (by decide) h)
theorem Ch.one {c s : Rat} (h : Uh c s) : Ch (-1) c s := by
  obtain ⟨X, Y, M, hM, hX, hY, hM2, rfl, rfl⟩ := h
  refine ⟨M, -M, X, Y, hM, na_mono hM2 (by decide), by rw [Int.natAbs_neg]; exact na_mono hM2 (by decide), na_mono hX (by decide), na_mono hY (by decide), ?_, divInt_mul hM, divInt_mul hM⟩
  rw [Rat.intCast_neg]; grind
def hA0 (a o x : Rat) : Rat := 0 + 1 * x + a * x + 1 * o
def hA1 (b c y z : Rat) : Rat := 0 + b * y + c * z
def hA2 (b c y z : Rat) : Rat := b * z - c * y
def hR0 (e f j k y z : Rat) : Rat := y + 1 / 2 * (0 + e * y + f * z + (k * y - j * z))
def hR1 (d u x : Rat) : Rat := 0 + d * x + 1 * u
def hR2 (g v x : Rat) : Rat := -(0 + g * x + 1 * v)
def hR3 (e f j k y z : Rat) : Rat := 1 / 2 * (0 + e * y + f * z - (k * y - j * z))
def hR4 (e f j k y z : Rat) : Rat := 1 / 2 * (0 + e * z + -f * y + -j * y + -k * z)
def hv (s t A R : Rat) : Rat := 0 + s * A + t * R
instance Bd.hA0 {a o x : Rat} {k1 k2 k3 : Nat} [Bd k1 a] [Bd k2 o] [Bd k3 x] : Bd (k1 + k2 + 2 * k3 + 10) (hA0 a o x) := Bd.mono (by unfold PB.hA0; infer_instance) (by omega)
instance Bd.hA1 {b c y z : Rat} {k1 k2 k3 k4 : Nat} [Bd k1 b] [Bd k2 c] [Bd k3 y] [Bd k4 z] : Bd (k1 + k2 + k3 + k4 + 5) (hA1 b c y z) := Bd.mono (by unfold PB.hA1; infer_instance) (by omega)
instance Bd.hA2 {b c y z : Rat} {k1 k2 k3 k4 : Nat} [Bd k1 b] [Bd k2 c] [Bd k3 y] [Bd k4 z] : Bd (k1 + k2 + k3 + k4 + 5) (hA2 b c y z) := Bd.mono (by unfold PB.hA2; infer_instance) (by omega)
instance Bd.hR0 {e f j k y z : Rat} {k1 k2 k3 k4 k5 k6 : Nat} [Bd k1 e] [Bd k2 f] [Bd k3 j] [Bd k4 k] [Bd k5 y] [Bd k6 z] : Bd (k1 + k2 + k3 + k4 + 3 * k5 + 2 * k6 + 14) (hR0 e f j k y z) := Bd.mono (by unfold PB.hR0; infer_instance) (by omega)
instance Bd.hR1 {d u x : Rat} {k1 k2 k3 : Nat} [Bd k1 d] [Bd k2 u] [Bd k3 x] : Bd (k1 + k2 + k3 + 8) (hR1 d u x) := Bd.mono (by unfold PB.hR1; infer_instance) (by omega)
instance Bd.hR2 {g v x : Rat} {k1 k2 k3 : Nat} [Bd k1 g] [Bd k2 v] [Bd k3 x] : Bd (k1 + k2 + k3 + 8) (hR2 g v x) := Bd.mono (by unfold PB.hR2; infer_instance) (by omega)
instance Bd.hR3 {e f j k y z : Rat} {k1 k2 k3 k4 k5 k6 : Nat} [Bd k1 e] [Bd k2 f] [Bd k3 j] [Bd k4 k] [Bd k5 y] [Bd k6 z] : Bd (k1 + k2 + k3 + k4 + 2 * k5 + 2 * k6 + 14) (hR3 e f j k y z) := Bd.mono (by unfold PB.hR3; infer_instance) (by omega)
instance Bd.hR4 {e f j k y z : Rat} {k1 k2 k3 k4 k5 k6 : Nat} [Bd k1 e] [Bd k2 f] [Bd k3 j] [Bd k4 k] [Bd k5 y] [Bd k6 z] : Bd (k1 + k2 + k3 + k4 + 2 * k5 + 2 * k6 + 14) (hR4 e f j k y z) := Bd.mono (by unfold PB.hR4; infer_instance) (by omega)
instance Bd.hv {s t A R : Rat} {k1 k2 k3 k4 : Nat} [Bd k1 s] [Bd k2 t] [Bd k3 A] [Bd k4 R] : Bd (k1 + k2 + k3 + k4 + 5) (hv s t A R) := Bd.mono (by unfold PB.hv; infer_instance) (by omega)
def IronK (n : Nat) (a b c o d e f u g j k v : Rat) : Prop := Bd n a ∧ Bd n b ∧ Bd n c ∧ Bd n o ∧ Bd n d ∧ Bd n e ∧ Bd n f ∧ Bd n u ∧ Bd n g ∧ Bd n j ∧ Bd n k ∧ Bd n v
theorem IronK.mono {n m : Nat} {a b c o d e f u g j k v : Rat} (h : IronK n a b c o d e f u g j k v) (l : n ≤ m) : IronK m a b c o d e f u g j k v := by
  obtain ⟨h1, h2, h3, h4, h5, h6, h7, h8, h9, h10, h11, h12⟩ := h
  exact ⟨h1.mono l, h2.mono l, h3.mono l, h4.mono l, h5.mono l, h6.mono l, h7.mono l, h8.mono l, h9.mono l, h10.mono l, h11.mono l, h12.mono l⟩
instance Bd35 : Bd 5 (3 / 5 : Rat) := Bd_lit (by decide +kernel) (by decide +kernel)
instance Bd45 : Bd 5 (4 / 5 : Rat) := Bd_lit (by decide +kernel) (by decide +kernel)
instance Bd2425 : Bd 5 (24 / 25 : Rat) := Bd_lit (by decide +kernel) (by decide +kernel)
theorem wp_rfl {F : M D} {d x : D} {n : Nat} {ds : List D} {ρ r : En} {Q : D → En → Prop} (hl : ds.length = n) (e : F (ds.map .val) = .ok x r) : wp (callV n F ds) ρ Q ↔ Q x ρ := by
  rw [wp_callV]
  constructor
  · rintro ⟨_, a, r', e', q⟩
    rw [e] at e'
    cases e'
    exact q
  · exact fun q => ⟨hl, _, _, e, q⟩
theorem ofString_small (s : String) : ∀ x ∈ (Str.ofString s).cps.toList, x < 0x110000 := by
  rw [Str.ofString_eq_toList]
  intro x hx
  obtain ⟨c, _, rfl⟩ := List.mem_map.mp (show x ∈ s.toList.map Char.toNat from hx)
  have v : Nat.isValidChar c.val.toNat := c.valid
  unfold Nat.isValidChar at v
  show c.val.toNat < _
  omega
theorem strOk_of {s : Str} (h : ∀ x ∈ s.cps.toList, x < 0x110000) : PyData.strOk s = true := by
  unfold PyData.strOk
  rw [← Array.all_toList, List.all_eq_true]
  intro x hx
  exact decide_eq_true (h x hx)
def cpOk (x : Str) : Prop := ∀ c ∈ x.cps.toList, c < 0x110000
theorem cpOk_iff {x : Str} : cpOk x ↔ PyData.strOk x = true := by
  constructor
  · exact fun h => strOk_of h
  · intro h
    unfold PyData.strOk at h
    rw [← Array.all_toList, List.all_eq_true] at h
    exact fun c hc => of_decide_eq_true (h c hc)
theorem cpOk_app {a b : Str} (ha : cpOk a) (hb : cpOk b) : cpOk (a ++ b) := by
  intro c hc
  rw [show (a ++ b).cps.toList = a.cps.toList ++ b.cps.toList from Array.toList_append] at hc
  exact (List.mem_append.mp hc).elim (ha c) (hb c)
theorem cpOk_lit (s : String) : cpOk (Str.ofString s) := ofString_small s
theorem toNat_small (ch : Char) : ch.toNat < 0x110000 := by
  have v : Nat.isValidChar ch.val.toNat := ch.valid
  unfold Nat.isValidChar at v
  show ch.val.toNat < _
  omega
theorem reprChar_ok {q c : Nat} (hq : q < 0x110000) (hc : c < 0x110000) : ∀ y ∈ PySem.Builtin.Str.reprChar q c, y < 0x110000 := by
  have hx : ∀ w : Nat, ∀ y ∈ List.replicate (w - ((Nat.toDigits 16 c).map Char.toNat).length) 48 ++ (Nat.toDigits 16 c).map Char.toNat, y < 0x110000 := by
    intro w y hy
    rcases List.mem_append.mp hy with h | h
    · rw [List.mem_replicate] at h; omega
    · obtain ⟨ch, _, rfl⟩ := List.mem_map.mp h; exact toNat_small ch
  have h2 : ∀ a b : Nat, a < 0x110000 → b < 0x110000 → ∀ y ∈ [a, b], y < 0x110000 := by
    intro a b ha hb y hy
    simp only [List.mem_cons, List.not_mem_nil, or_false] at hy
    rcases hy with rfl | rfl <;> assumption
  have h3 : ∀ a b w : Nat, a < 0x110000 → b < 0x110000 → ∀ y ∈ [a, b] ++ (List.replicate (w - ((Nat.toDigits 16 c).map Char.toNat).length) 48 ++ (Nat.toDigits 16 c).map Char.toNat), y < 0x110000 := by
    intro a b w ha hb y hy
    rcases List.mem_append.mp hy with h | h
    · exact h2 a b ha hb y h
    · exact hx w y h
  unfold PySem.Builtin.Str.reprChar
  dsimp only
  repeat' split
  · exact h2 _ _ (by decide) hc
  · exact h2 _ _ (by decide) (by decide)
  · exact h2 _ _ (by decide) (by decide)
  · exact h2 _ _ (by decide) (by decide)
  · intro y hy; rw [List.mem_singleton] at hy; omega
  · exact h3 _ _ 2 (by decide) (by decide)
  · exact h3 _ _ 4 (by decide) (by decide)
  · exact h3 _ _ 8 (by decide) (by decide)
theorem reprText_ok {x : Str} (h : cpOk x) : cpOk (reprText x) := by
  have hq : reprQuote x < 0x110000 := by unfold reprQuote; split <;> decide
  have go : ∀ (l : List Nat) (acc : Array Nat), (∀ c ∈ l, c < 0x110000) → (∀ c ∈ acc.toList, c < 0x110000) → ∀ c ∈ (l.foldl (fun out c => out ++ (PySem.Builtin.Str.reprChar (reprQuote x) c).toArray) acc).toList, c < 0x110000 := by
    intro l
    induction l with
    | nil => intro acc _ ha; exact ha
    | cons y r ih =>
      intro acc hl ha
      rw [List.foldl_cons]
      refine ih _ (fun c hc => hl c (List.mem_cons_of_mem _ hc)) fun c hc => ?_
      rw [Array.toList_append] at hc
      rcases List.mem_append.mp hc with h1 | h1
      · exact ha c h1
      · exact reprChar_ok hq (hl y List.mem_cons_self) c (by simpa using h1)
  unfold reprText cpOk
  intro c hc
  rw [Array.toList_push] at hc
  rcases List.mem_append.mp hc with h1 | h1
  · rw [← Array.foldl_toList] at h1
    exact go _ _ h (fun c hc => by simp at hc; omega) c h1
  · rw [List.mem_singleton] at h1; omega
theorem join_ok {s : Str} (hs : cpOk s) : ∀ ts : List Str, (∀ t ∈ ts, cpOk t) → cpOk (Str.join s ts)
  | [], _ => fun c hc => by cases hc
  | [x], h => h x (by simp)
  | x :: y :: r, h => by
    show cpOk (x ++ s ++ Str.join s (y :: r))
    exact cpOk_app (cpOk_app (h x (by simp)) hs) (join_ok hs (y :: r) fun t ht => h t (List.mem_cons_of_mem _ ht))
theorem textFrom_ok : ∀ (ts : List Str) (k : Nat) (acc : Str), cpOk acc → (∀ t ∈ ts, cpOk t) → cpOk (textFrom k acc ts)
  | [], _, _, ha, _ => ha
  | t :: r, k, acc, ha, h => by
    show cpOk (textFrom (k + 1) (acc ++ (if k > 0 then ", " else "" : String) ++ t) r)
    exact textFrom_ok r _ _ (cpOk_app (cpOk_app ha (cpOk_lit _)) (h t (by simp))) fun t ht => h t (List.mem_cons_of_mem _ ht)
theorem listText_ok {ts : List Str} (h : ∀ t ∈ ts, cpOk t) : cpOk (listText ts) := cpOk_app (textFrom_ok ts 0 _ (cpOk_lit _) h) (cpOk_lit _)
theorem tupleText_ok {ts : List Str} (h : ∀ t ∈ ts, cpOk t) : cpOk (tupleText ts) := cpOk_app (cpOk_app (cpOk_lit _) (join_ok (cpOk_lit _) ts h)) (cpOk_lit _)
theorem dictText_ok {ts : List Str} (h : ∀ t ∈ ts, cpOk t) : cpOk (dictText ts) := cpOk_app (cpOk_app (cpOk_lit _) (join_ok (cpOk_lit _) ts h)) (cpOk_lit _)
def vL : Nat → D → Bool
  | _, .non => true
  | _, .bl _ => true
  | _, .int i => decide (i.natAbs < 2 ^ 250)
  | _, .str x => PyData.strOk x
  | n + 1, .lst xs => xs.all (vL n)
  | n + 1, .tup xs => xs.all (vL n)
  | _, _ => false
def vT : Nat → D → Bool
  | _, .non => true
  | _, .bl _ => true
  | _, .int i => decide (i.natAbs < 2 ^ 250)
  | _, .str x => PyData.strOk x
  | n + 1, .tup xs => xs.all (vT n)
  | _, .dic [] [] => true
  | _, .dic [.inr k] [.int i] => PyData.strOk k && decide (i.natAbs < 2 ^ 250)
  | _, _ => false
def bkD : Nat → D → Nat
  | _, .str x => x.cps.size
  | n + 1, .lst xs => (xs.map fun d => bkD n d + 1).sum
  | n + 1, .tup xs => (xs.map fun d => bkD n d + 1).sum
  | _, .dic [.inr k] [.int _] => k.cps.size + 2
  | _, _ => 0
theorem log_1920 {i : Int} (h : i.natAbs < 2 ^ 250) : i.natAbs.log2 < 1920 := by
  by_cases h0 : i.natAbs = 0
  · rw [h0]; decide
  · exact (Nat.log2_lt h0).mpr (Nat.lt_of_lt_of_le h (Nat.pow_le_pow_right (by decide) (by decide)))
theorem pyA_map : ∀ xs : List D, D.pyA xs = xs.map D.py
  | [] => rfl
  | x :: r => by unfold D.pyA; rw [pyA_map r]; rfl
def Shn (n : Nat) (b : Nat) (p : PyData) : Prop := p.showable = true ∧ p.leavesShort 2000 = true ∧ p.depth ≤ n ∧ p.bulk = b ∧ cpOk p.shown
theorem shn_all {n : Nat} {b : D → Nat} {f : D → PyData} : ∀ {xs : List D}, (∀ x ∈ xs, Shn n (b x) (f x)) →
    PyData.showableAll (xs.map f) = true ∧ PyData.leavesShortAll 2000 (xs.map f) = true ∧ PyData.depthAll (xs.map f) ≤ n ∧ PyData.bulkAll (xs.map f) = (xs.map fun d => b d + 1).sum ∧ ∀ t ∈ PyData.shownAll (xs.map f), cpOk t
  | [], _ => ⟨rfl, rfl, Nat.zero_le _, rfl, fun t h => by cases h⟩
  | x :: r, h => by
    obtain ⟨a1, a2, a3, a4, a5⟩ := h x List.mem_cons_self
    obtain ⟨b1, b2, b3, b4, b5⟩ := shn_all (xs := r) fun y hy => h y (List.mem_cons_of_mem _ hy)
    refine ⟨?_, ?_, ?_, ?_, ?_⟩
    · show ((f x).showable && PyData.showableAll (r.map f)) = true
      rw [a1, b1]; rfl
    · show ((f x).leavesShort 2000 && PyData.leavesShortAll 2000 (r.map f)) = true
      rw [a2, b2]; rfl
    · show max (f x).depth (PyData.depthAll (r.map f)) ≤ n
      omega
    · show (f x).bulk + 1 + PyData.bulkAll (r.map f) = (b x + 1) + (r.map fun d => b d + 1).sum
      omega
    · intro t ht
      rcases List.mem_cons.mp (show t ∈ (f x).shown :: PyData.shownAll (r.map f) from ht) with rfl | ht
      · exact a5
      · exact b5 t ht
theorem shn_int {n : Nat} {i : Int} (h : i.natAbs < 2 ^ 250) : Shn n 0 (.int i) := by
  have e : PyData.showable (.int i) = true := by simpa only [PyData.showable, decide_eq_true_eq] using log_1920 h
  exact ⟨e, short_of _ rfl e, Nat.zero_le _, rfl, cpOk_lit _⟩
theorem shn_str {n : Nat} {x : Str} (h : PyData.strOk x = true) : Shn n x.cps.size (.str x) := ⟨rfl, short_of (.str x) h rfl, Nat.zero_le _, rfl, reprText_ok (cpOk_iff.mpr h)⟩
theorem vL_shn : ∀ (n : Nat) (d : D), vL n d = true → (∀ m, n ≤ m → okq m d = true) ∧ Shn n (bkD n d) d.py := by
  intro n
  induction n with
  | zero =>
    intro d h
    cases d with
    | non => exact ⟨fun m _ => by cases m <;> rfl, rfl, rfl, Nat.zero_le _, rfl, cpOk_lit _⟩
    | bl b => exact ⟨fun m _ => by cases m <;> rfl, rfl, rfl, Nat.zero_le _, rfl, by cases b <;> exact cpOk_lit _⟩
    | int i => exact ⟨fun m _ => by cases m <;> rfl, shn_int (of_decide_eq_true h)⟩
    | str x => exact ⟨fun m _ => by cases m <;> exact h, shn_str h⟩
    | _ => cases h
  | succ n ih =>
    intro d h
    cases d with
    | non => exact ⟨fun m _ => by cases m <;> rfl, rfl, rfl, Nat.zero_le _, rfl, cpOk_lit _⟩
    | bl b => exact ⟨fun m _ => by cases m <;> rfl, rfl, rfl, Nat.zero_le _, rfl, by cases b <;> exact cpOk_lit _⟩
    | int i => exact ⟨fun m _ => by cases m <;> rfl, shn_int (of_decide_eq_true h)⟩
    | str x => exact ⟨fun m _ => by cases m <;> exact h, shn_str h⟩
    | lst xs =>
      have h' : xs.all (vL n) = true := h
      rw [List.all_eq_true] at h'
      obtain ⟨c1, c2, c3, c4, c5⟩ := shn_all (n := n) (b := bkD n) (f := D.py) (xs := xs) fun x hx => (ih x (h' x hx)).2
      have k : ∀ m, n ≤ m → ∀ ys : List D, (∀ y ∈ ys, okq m y = true) → okqA m ys = true := by
        intro m _ ys
        induction ys with
        | nil => intro _; unfold okqA; rfl
        | cons y r ihr => intro hy; unfold okqA; rw [hy y List.mem_cons_self, ihr fun z hz => hy z (List.mem_cons_of_mem _ hz)]; rfl
      refine ⟨fun m hm => ?_, ?_⟩
      · cases m with
        | zero => omega
        | succ m => exact k m (by omega) xs fun x hx => (ih x (h' x hx)).1 m (by omega)
      show Shn (n + 1) _ (.list (D.pyA xs))
      rw [pyA_map]
      exact ⟨c1, c2, Nat.succ_le_succ c3, c4, listText_ok c5⟩
    | tup xs =>
      have h' : xs.all (vL n) = true := h
      rw [List.all_eq_true] at h'
      obtain ⟨c1, c2, c3, c4, c5⟩ := shn_all (n := n) (b := bkD n) (f := D.py) (xs := xs) fun x hx => (ih x (h' x hx)).2
      have k : ∀ m, n ≤ m → ∀ ys : List D, (∀ y ∈ ys, okq m y = true) → okqA m ys = true := by
        intro m _ ys
        induction ys with
        | nil => intro _; unfold okqA; rfl
        | cons y r ihr => intro hy; unfold okqA; rw [hy y List.mem_cons_self, ihr fun z hz => hy z (List.mem_cons_of_mem _ hz)]; rfl
      refine ⟨fun m hm => ?_, ?_⟩
      · cases m with
        | zero => omega
        | succ m => exact k m (by omega) xs fun x hx => (ih x (h' x hx)).1 m (by omega)
      show Shn (n + 1) _ (.tuple (D.pyA xs))
      rw [pyA_map]
      exact ⟨c1, c2, Nat.succ_le_succ c3, c4, tupleText_ok c5⟩
    | _ => cases h
theorem vT_shn : ∀ (n : Nat) (d : D), vT n d = true → ∃ p, tyD d = some p ∧ Shn (n + 1) (bkD n d) p := by
  have dic : ∀ (n : Nat) (ks : List Key) (vs : List D), vT n (.dic ks vs) = true → ∃ p, tyD (.dic ks vs) = some p ∧ Shn (n + 1) (bkD n (.dic ks vs)) p := by
    intro n ks vs h
    cases ks with
    | nil =>
      cases vs with
      | nil => exact ⟨.dict [], rfl, rfl, rfl, Nat.succ_le_succ (Nat.zero_le _), by cases n <;> rfl, dictText_ok fun t ht => by cases ht⟩
      | cons v r => cases n <;> cases h
    | cons k kr =>
      cases kr with
      | cons k2 kr => cases n <;> cases k <;> cases h
      | nil =>
        cases k with
        | inl i => cases n <;> cases h
        | inr k =>
          cases vs with
          | nil => cases n <;> cases h
          | cons v vr =>
            cases vr with
            | cons v2 vr => cases n <;> cases v <;> cases h
            | nil =>
              cases v with
              | int i =>
                  have h' : (PyData.strOk k && decide (i.natAbs < 2 ^ 250)) = true := by cases n <;> exact h
                  rw [Bool.and_eq_true] at h'
                  obtain ⟨a1, a2, a3, a4, a5⟩ := shn_str (n := 0) h'.1
                  obtain ⟨b1, b2, b3, b4, b5⟩ := shn_int (n := 0) (of_decide_eq_true h'.2)
                  refine ⟨.dict [(.str k, .int i)], rfl, ?_, ?_, ?_, ?_, ?_⟩
                  · show ((PyData.str k).showable && (PyData.int i).showable && true) = true
                    rw [a1, b1]; rfl
                  · show ((PyData.str k).leavesShort 2000 && (PyData.int i).leavesShort 2000 && true) = true
                    rw [a2, b2]; rfl
                  · exact Nat.succ_le_succ (Nat.zero_le _)
                  · cases n <;> rfl
                  · exact dictText_ok fun t ht => by
                      have ht' : t ∈ [(PyData.str k).shown ++ ": " ++ (PyData.int i).shown] := ht
                      rw [List.mem_singleton] at ht'
                      subst ht'
                      exact cpOk_app (cpOk_app a5 (cpOk_lit _)) b5
              | _ => cases n <;> cases h
  intro n
  induction n with
  | zero =>
    intro d h
    cases d with
    | non => exact ⟨_, rfl, rfl, rfl, Nat.zero_le _, rfl, cpOk_lit _⟩
    | bl b => exact ⟨_, rfl, rfl, rfl, Nat.zero_le _, rfl, by cases b <;> exact cpOk_lit _⟩
    | int i => exact ⟨_, rfl, shn_int (of_decide_eq_true h)⟩
    | str x => exact ⟨_, rfl, shn_str h⟩
    | dic ks vs => exact dic 0 ks vs h
    | _ => cases h
  | succ n ih =>
    intro d h
    cases d with
    | non => exact ⟨_, rfl, rfl, rfl, Nat.zero_le _, rfl, cpOk_lit _⟩
    | bl b => exact ⟨_, rfl, rfl, rfl, Nat.zero_le _, rfl, by cases b <;> exact cpOk_lit _⟩
    | int i => exact ⟨_, rfl, shn_int (of_decide_eq_true h)⟩
    | str x => exact ⟨_, rfl, shn_str h⟩
    | dic ks vs => exact dic (n + 1) ks vs h
    | tup xs =>
      have h' : xs.all (vT n) = true := h
      rw [List.all_eq_true] at h'
      have k : ∀ ys : List D, (∀ y ∈ ys, vT n y = true) → ∃ ps, tyA ys = some ps ∧ PyData.showableAll ps = true ∧ PyData.leavesShortAll 2000 ps = true ∧ PyData.depthAll ps ≤ n + 1 ∧ PyData.bulkAll ps = (ys.map fun d => bkD n d + 1).sum ∧ ∀ t ∈ PyData.shownAll ps, cpOk t := by
        intro ys
        induction ys with
        | nil => exact fun _ => ⟨[], rfl, rfl, rfl, Nat.zero_le _, rfl, fun t h => by cases h⟩
        | cons y r ihr =>
          intro hy
          obtain ⟨p, e, a1, a2, a3, a4, a5⟩ := ih y (hy y List.mem_cons_self)
          obtain ⟨ps, e2, b1, b2, b3, b4, b5⟩ := ihr fun z hz => hy z (List.mem_cons_of_mem _ hz)
          refine ⟨p :: ps, by unfold tyA; rw [e, e2], ?_, ?_, ?_, ?_, ?_⟩
          · show (p.showable && PyData.showableAll ps) = true
            rw [a1, b1]; rfl
          · show (p.leavesShort 2000 && PyData.leavesShortAll 2000 ps) = true
            rw [a2, b2]; rfl
          · show max p.depth (PyData.depthAll ps) ≤ n + 1
            omega
          · show p.bulk + 1 + PyData.bulkAll ps = (bkD n y + 1) + (r.map fun d => bkD n d + 1).sum
            omega
          · intro t ht
            rcases List.mem_cons.mp (show t ∈ p.shown :: PyData.shownAll ps from ht) with rfl | ht
            · exact a5
            · exact b5 t ht
      obtain ⟨ps, e, c1, c2, c3, c4, c5⟩ := k xs h'
      exact ⟨.tuple ps, by unfold tyD; rw [e], c1, c2, Nat.succ_le_succ c3, c4, tupleText_ok c5⟩
    | _ => cases h
theorem vT_vL : ∀ (n : Nat) (d : D) (m : Nat), vT n d = true → okq m d = true → vL n d = true := by
  intro n
  induction n with
  | zero =>
    intro d m h h2
    cases d with
    | dic ks vs => cases m <;> cases h2
    | non => rfl
    | bl b => rfl
    | int i => exact h
    | str x => exact h
    | _ => cases h
  | succ n ih =>
    intro d m h h2
    cases d with
    | dic ks vs => cases m <;> cases h2
    | non => rfl
    | bl b => rfl
    | int i => exact h
    | str x => exact h
    | tup xs =>
      have h' : xs.all (vT n) = true := h
      cases m with
      | zero => cases h2
      | succ m =>
        show xs.all (vL n) = true
        rw [List.all_eq_true] at h' ⊢
        have k : ∀ ys : List D, okqA m ys = true → ∀ y ∈ ys, okq m y = true := by
          intro ys
          induction ys with
          | nil => intro _ y hy; cases hy
          | cons z r ihr =>
            intro hy y hm
            unfold okqA at hy
            rw [Bool.and_eq_true] at hy
            rcases List.mem_cons.mp hm with rfl | hm
            · exact hy.1
            · exact ihr hy.2 y hm
        exact fun x hx => ih x m (h' x hx) (k xs h2 x hx)
    | _ => cases h
theorem repr_any {n : Nat} {d : D} (h : (vL n d || vT n d) = true) (hn : n ≤ 50) (hb : bkD n d ≤ 8000) : ∃ s, dReprY [d] = some (.str s) ∧ PyData.strOk s = true := by
  have one : vL n d = true → ∃ s, dReprY [d] = some (.str s) ∧ PyData.strOk s = true := fun hv => by
    obtain ⟨q0, q1, q2, q3, q4, q5⟩ := vL_shn n d hv
    have hl : okr d = true := by
      unfold okr
      rw [q0 60 (by omega), q1, decide_eq_true (by omega : d.py.bulk ≤ 8000)]; rfl
    exact ⟨_, by show (if okr d = true then some (D.str d.py.shown) else _) = _; rw [if_pos hl], cpOk_iff.mp q5⟩
  rcases Bool.or_eq_true_iff.mp h with hv | hv
  · exact one hv
  · by_cases hl : okr d = true
    · refine one (vT_vL n d 60 hv ?_)
      unfold okr at hl
      rw [Bool.and_eq_true, Bool.and_eq_true] at hl
      exact hl.1.1
    · obtain ⟨p, e, q1, q2, q3, q4, q5⟩ := vT_shn n d hv
      have ht : okTy p = true := by
        unfold okTy
        rw [q1, q2, decide_eq_true (by omega : p.depth ≤ 60), decide_eq_true (by omega : p.bulk ≤ 8000)]; rfl
      refine ⟨_, ?_, cpOk_iff.mp q5⟩
      show (if okr d = true then some (D.str d.py.shown) else match tyD d with
        | some p => if okTy p = true then some (.str p.shown) else none
        | none => none) = _
      rw [if_neg hl, e]
      show (if okTy p = true then some (D.str p.shown) else none) = _
      rw [if_pos ht]
def errs (f : Str) (cs : List Str) (d : D) : List D := cs.map fun c => .err c [f] [d]
abbrev csG : List Str := ["InvalidFraction", "InvalidNumber", "InvalidIndex", "InvalidSurd", "InvalidHeading", "InvalidCourse", "InvalidWave", "InvalidIron", "InvalidPiece", "InvalidPlace", "InvalidFive", "InvalidForce", "InvalidReading", "InvalidName", "InvalidWish", "InvalidPhrase", "UnknownName", "NotAWorkshop", "HighBelowLow"]
abbrev csI : List Str := ["InvalidReadings", "InvalidSea", "InvalidBox", "InvalidCounts", "InUse", "Broken"]
theorem sp_given01 {d : D} {ρ : En} {Q : D → En → Prop} : wp (callV 1 m_law_given [d]) ρ Q ↔ Q (.lst [.lst (errs "given" csG d), .lst (errs "given" csG d)]) ρ := wp_rfl (d := .non) rfl rfl
theorem sp_indexed01 {d : D} {ρ : En} {Q : D → En → Prop} : wp (callV 1 m_law_indexed [d]) ρ Q ↔ Q (.lst [.lst (errs "index" csI d), .lst (errs "index" csI d)]) ρ := wp_rfl (d := .non) rfl rfl
theorem sp_standG {d : D} {ρ : En} {Q : D → En → Prop} : wp (callV 2 m_law_stand [.lst (errs "given" csG d), .int 0]) ρ Q ↔ Q (.bl true) ρ := wp_rfl (d := .non) (r := [.val (.lst (errs "given" csG d)), .val (.int 0)]) rfl (by kernel_rfl)
theorem sp_standI {d : D} {ρ : En} {Q : D → En → Prop} : wp (callV 2 m_law_stand [.lst (errs "index" csI d), .int 19]) ρ Q ↔ Q (.bl true) ρ := wp_rfl (d := .non) (r := [.val (.lst (errs "index" csI d)), .val (.int 19)]) rfl (by kernel_rfl)
theorem sp_standB {ρ : En} {Q : D → En → Prop} : wp (callV 2 m_law_stand [.lst [.err "TooMuchIron" [] [], .err "NotAhead" [] [], .err "SameDip" [] [], .err "NoneFits" [] [], .err "NothingToUndo" [] []], .int 25]) ρ Q ↔ Q (.bl true) ρ := wp_rfl (d := .non) rfl rfl
theorem sp_marksB {ρ : En} {Q : D → En → Prop} : wp (callV 1 m_law_marks [.err "CompassError" [] []]) ρ Q ↔ Q (.lst (List.replicate 30 (.bl false))) ρ := wp_rfl (d := .non) rfl rfl
theorem xfG0 {d : D} {P : D → Prop} : ow (dXf csG "given" (.err "InvalidFraction" ["given"] [d])) P ↔ P d := ow_of (by rfl)
theorem xfG1 {d : D} {P : D → Prop} : ow (dXf csG "given" (.err "InvalidNumber" ["given"] [d])) P ↔ P d := ow_of (by rfl)
theorem xfG2 {d : D} {P : D → Prop} : ow (dXf csG "given" (.err "InvalidIndex" ["given"] [d])) P ↔ P d := ow_of (by rfl)
theorem xfG3 {d : D} {P : D → Prop} : ow (dXf csG "given" (.err "InvalidSurd" ["given"] [d])) P ↔ P d := ow_of (by rfl)
theorem xfG4 {d : D} {P : D → Prop} : ow (dXf csG "given" (.err "InvalidHeading" ["given"] [d])) P ↔ P d := ow_of (by rfl)
theorem xfG5 {d : D} {P : D → Prop} : ow (dXf csG "given" (.err "InvalidCourse" ["given"] [d])) P ↔ P d := ow_of (by rfl)
theorem xfG6 {d : D} {P : D → Prop} : ow (dXf csG "given" (.err "InvalidWave" ["given"] [d])) P ↔ P d := ow_of (by rfl)
theorem xfG7 {d : D} {P : D → Prop} : ow (dXf csG "given" (.err "InvalidIron" ["given"] [d])) P ↔ P d := ow_of (by rfl)
theorem xfG8 {d : D} {P : D → Prop} : ow (dXf csG "given" (.err "InvalidPiece" ["given"] [d])) P ↔ P d := ow_of (by rfl)
theorem xfG9 {d : D} {P : D → Prop} : ow (dXf csG "given" (.err "InvalidPlace" ["given"] [d])) P ↔ P d := ow_of (by rfl)
theorem xfG10 {d : D} {P : D → Prop} : ow (dXf csG "given" (.err "InvalidFive" ["given"] [d])) P ↔ P d := ow_of (by rfl)
theorem xfG11 {d : D} {P : D → Prop} : ow (dXf csG "given" (.err "InvalidForce" ["given"] [d])) P ↔ P d := ow_of (by rfl)
theorem xfG12 {d : D} {P : D → Prop} : ow (dXf csG "given" (.err "InvalidReading" ["given"] [d])) P ↔ P d := ow_of (by rfl)
theorem xfG13 {d : D} {P : D → Prop} : ow (dXf csG "given" (.err "InvalidName" ["given"] [d])) P ↔ P d := ow_of (by rfl)
theorem xfG14 {d : D} {P : D → Prop} : ow (dXf csG "given" (.err "InvalidWish" ["given"] [d])) P ↔ P d := ow_of (by rfl)
theorem xfG15 {d : D} {P : D → Prop} : ow (dXf csG "given" (.err "InvalidPhrase" ["given"] [d])) P ↔ P d := ow_of (by rfl)
theorem xfG16 {d : D} {P : D → Prop} : ow (dXf csG "given" (.err "UnknownName" ["given"] [d])) P ↔ P d := ow_of (by rfl)
theorem xfG17 {d : D} {P : D → Prop} : ow (dXf csG "given" (.err "NotAWorkshop" ["given"] [d])) P ↔ P d := ow_of (by rfl)
theorem xfG18 {d : D} {P : D → Prop} : ow (dXf csG "given" (.err "HighBelowLow" ["given"] [d])) P ↔ P d := ow_of (by rfl)
theorem xfI0 {d : D} {P : D → Prop} : ow (dXf csI "index" (.err "InvalidReadings" ["index"] [d])) P ↔ P d := ow_of (by rfl)
theorem xfI1 {d : D} {P : D → Prop} : ow (dXf csI "index" (.err "InvalidSea" ["index"] [d])) P ↔ P d := ow_of (by rfl)
theorem xfI2 {d : D} {P : D → Prop} : ow (dXf csI "index" (.err "InvalidBox" ["index"] [d])) P ↔ P d := ow_of (by rfl)
theorem xfI3 {d : D} {P : D → Prop} : ow (dXf csI "index" (.err "InvalidCounts" ["index"] [d])) P ↔ P d := ow_of (by rfl)
theorem xfI4 {d : D} {P : D → Prop} : ow (dXf csI "index" (.err "InUse" ["index"] [d])) P ↔ P d := ow_of (by rfl)
theorem xfI5 {d : D} {P : D → Prop} : ow (dXf csI "index" (.err "Broken" ["index"] [d])) P ↔ P d := ow_of (by rfl)
def ShnE (d : D) : Prop := ∃ s, dReprY [d] = some (.str s)
abbrev ts01 : List D := [.non, .bl true, .int (-7), .str "", .str "card", .tup [], .tup [.int 1, .int 0, .int (-2)], .lst [], .lst [.int 1, .lst [.int 2]], .dic [.inr "x"] [.int 1], .tup [.tup [.int 0, .int 1], .non]]
theorem shnE_all {d : D} (h : d ∈ ts01) : ShnE d := by
  have a : ts01.all (fun d => (vL 5 d || vT 5 d) && decide (bkD 5 d ≤ 8000)) = true := by decide +kernel
  have b := List.all_eq_true.mp a d h
  rw [Bool.and_eq_true] at b
  obtain ⟨s, e, _⟩ := repr_any b.1 (by decide) (of_decide_eq_true b.2)
  exact ⟨s, e⟩
theorem shnE_int {n : Int} (h : n.natAbs < 2 ^ 100) : ShnE (.int n) := by
  obtain ⟨s, e, _⟩ := repr_any (n := 5) (d := .int n) (by
    rw [Bool.or_eq_true]
    exact .inl (decide_eq_true (show n.natAbs < 2 ^ 250 by omega))) (by decide) (show (0 : Nat) ≤ 8000 by decide)
  exact ⟨s, e⟩
theorem ne_str01 {s : Str} {P : D → Prop} : ow (dNe (.str s) (.str s)) P ↔ P (.bl false) := ow_of (by show some (D.bl (!decide (s = s))) = _; simp)
theorem ne_nil01 {P : D → Prop} : ow (dNeL (.lst []) (.lst [])) P ↔ P (.bl false) := ow_of (by rfl)
theorem in_rep01 {P : D → Prop} : ow (dIn (.bl true) (.lst [.bl false, .bl false, .bl false, .bl false, .bl false, .bl false, .bl false, .bl false, .bl false, .bl false, .bl false, .bl false, .bl false, .bl false, .bl false, .bl false, .bl false, .bl false, .bl false, .bl false, .bl false, .bl false, .bl false, .bl false, .bl false, .bl false, .bl false, .bl false, .bl false, .bl false])) P ↔ P (.bl false) := ow_of (by rfl)
theorem sp_law_right_k01 {L : List D} {ρ : En} {Q : D → En → Prop} (hL : Lode 100 L) (hQ : Q (.bl true) ρ) : wp (callN 1 m_law_right_v80 L) ρ Q := by
  unfold m_law_right_v80 m_law_right_v80B
  rw [wp_N]
  refine seq_cut (fun r => r = [.own L, .val (.lst ts01), .no, .no, .no, .no, .no, .no]) ?_ ?_
  · simp! []
  rintro r rfl
  refine seq_cut (fun r => ∃ L x y, r = [.own L, .val (.lst ts01), .no, .val x, .val y, .no, .no, .no] ∧ ShnE x ∧ ShnE y) ?_ ?_
  · simp! []
    refine sp_law_about (n := 90) rfl (hL.mono (by decide)) (by decide) (by decide) fun n L1 n0 n1 hL1 => ?_
    simp! [↓ow_add_lst]
    refine sp_law_some (n := 80) rfl (hL1.mono (by decide)) (by simp) (by simp) fun x L2 hx hL2 => ?_
    simp! []
    refine sp_law_some (n := 70) rfl (hL2.mono (by decide)) (by simp) (by simp) fun y L3 hy hL3 => ?_
    simp! []
    refine ⟨_, _, _, rfl, ?_, shnE_all hy⟩
    rcases List.mem_append.mp (show x ∈ ts01 ++ [.int n] from hx) with h | h
    · exact shnE_all h
    · rw [List.mem_singleton] at h; subst h; exact shnE_int (by omega)
  rintro r ⟨L1, x, y, rfl, ⟨s, hs⟩, ⟨u, hu⟩⟩
  have rx : ∀ {P : D → Prop}, ow (dReprY [x]) P ↔ P (.str s) := fun {P} => ow_of hs
  have ry : ∀ {P : D → Prop}, ow (dReprY [y]) P ↔ P (.str u) := fun {P} => ow_of hu
  refine seq_cut (fun r => ∃ s2, r = [.own L1, .val (.lst ts01), s2, .val x, .val y, .no, .no, .no]) ?_ ?_
  · simp! [↓sp_given01]
    refine wp_loop (fun ds r => (∀ l ∈ ds, l = .lst (errs "given" csG x)) ∧ ∃ s2, r = [.own L1, .val (.lst ts01), s2, .val x, .val y, .no, .no, .no]) ⟨fun l hl => by simpa using hl, _, rfl⟩ ?_ ?_
    · rintro l ds r ⟨hd, s2, rfl⟩
      rw [hd l List.mem_cons_self]
      simp! [↓sp_standG, errs, List.map_cons, List.map_nil, ↓wp_lc, ↓wp_lc1, ↓wp_lc0, wipeE, isOwn, List.all_cons, List.all_nil, ↓xfG0, ↓xfG1, ↓xfG2, ↓xfG3, ↓xfG4, ↓xfG5, ↓xfG6, ↓xfG7, ↓xfG8, ↓xfG9, ↓xfG10, ↓xfG11, ↓xfG12, ↓xfG13, ↓xfG14, ↓xfG15, ↓xfG16, ↓xfG17, ↓xfG18, rx, ne_str01, ne_nil01]
      refine (sp_standG (d := x)).mpr ?_
      simp! []
      exact ⟨fun l h => hd l (List.mem_cons_of_mem _ h), _, rfl⟩
    · rintro r ⟨_, s2, rfl⟩
      exact ⟨rfl, _, rfl⟩
  rintro r ⟨s2, rfl⟩
  refine seq_cut (fun r => ∃ s2, r = [.own L1, .val (.lst ts01), s2, .val x, .val y, .no, .no, .no]) ?_ ?_
  · simp! [↓sp_indexed01]
    refine wp_loop (fun ds r => (∀ l ∈ ds, l = .lst (errs "index" csI y)) ∧ ∃ s2, r = [.own L1, .val (.lst ts01), s2, .val x, .val y, .no, .no, .no]) ⟨fun l hl => by simpa using hl, _, rfl⟩ ?_ ?_
    · rintro l ds r ⟨hd, s2, rfl⟩
      rw [hd l List.mem_cons_self]
      simp! [↓sp_standI, errs, List.map_cons, List.map_nil, ↓wp_lc, ↓wp_lc1, ↓wp_lc0, wipeE, isOwn, List.all_cons, List.all_nil, ↓xfI0, ↓xfI1, ↓xfI2, ↓xfI3, ↓xfI4, ↓xfI5, ry, ne_str01, ne_nil01]
      refine (sp_standI (d := y)).mpr ?_
      simp! []
      exact ⟨fun l h => hd l (List.mem_cons_of_mem _ h), _, rfl⟩
    · rintro r ⟨_, s2, rfl⟩
      exact ⟨rfl, _, rfl⟩
  rintro r ⟨s2, rfl⟩
  simp! [↓sp_standB, ↓sp_marksB, in_rep01, ow_of (show dIsE [("CompassError", true), ("InvalidFraction", true), ("InvalidNumber", true), ("InvalidIndex", true), ("InvalidSurd", true), ("InvalidHeading", true), ("InvalidCourse", true), ("InvalidWave", true), ("InvalidIron", true), ("InvalidPiece", true), ("InvalidPlace", true), ("InvalidFive", true), ("InvalidForce", true), ("InvalidReading", true), ("InvalidName", true), ("InvalidWish", true), ("InvalidPhrase", true), ("UnknownName", true), ("NotAWorkshop", true), ("HighBelowLow", true), ("InvalidReadings", true), ("InvalidSea", true), ("InvalidBox", true), ("InvalidCounts", true), ("InUse", true), ("Broken", true), ("TooMuchIron", true), ("NotAhead", true), ("SameDip", true), ("NoneFits", true), ("NothingToUndo", true)] (.err "CompassError" [] []) = some (.bl true) from rfl), ow_of (show dIsE [("CompassError", false), ("InvalidFraction", false), ("InvalidNumber", false), ("InvalidIndex", false), ("InvalidSurd", false), ("InvalidHeading", false), ("InvalidCourse", false), ("InvalidWave", false), ("InvalidIron", false), ("InvalidPiece", false), ("InvalidPlace", false), ("InvalidFive", false), ("InvalidForce", false), ("InvalidReading", false), ("InvalidName", false), ("InvalidWish", false), ("InvalidPhrase", false), ("UnknownName", false), ("NotAWorkshop", false), ("HighBelowLow", false), ("InvalidReadings", false), ("InvalidSea", false), ("InvalidBox", false), ("InvalidCounts", false), ("InUse", false), ("Broken", false), ("TooMuchIron", false), ("NotAhead", false), ("SameDip", false), ("NoneFits", false), ("NothingToUndo", false)] (.err "CompassError" [] []) = some (.bl false) from rfl)]
  exact hQ
theorem good_2x {T : M D} (hT : ∀ (L : List D) (ρ : En) (Q : D → En → Prop), Lode 1000000 L → Q (.bl true) ρ → wp (callN 1 T L) ρ Q) :
    Good 63 (fnB [] 1 1 (asRet (mRet (mCB dAll (dCons (mLst (mLc 2 [1] (mIter' rng1 (dCons (M.ret (.int 2)) (dNil))) (gN 1) (M.ret true) (M.bind (M.bind (dCons (dVar 0) (dCons (dVar 1) (dNil))) (callL 2 mN_law_lode)) (callN 1 T)))) (dNil)))))) := good_of fun ns hn => by
  rw [wp_V]
  simp! [↓wp_lc]
  rw [ow_rng1 (by omega) (by omega)]
  refine ⟨rfl, by rw [upto_length]; omega, ?_⟩
  show wp (lcL 2 [1] (gN 1) (M.ret true) _ _) [.val (.fz ns), .no] _
  refine laps_true (fun d hd => ?_) (fun i ρ Q i0 i1 h => sp_law_lode hn i0 i1 h) hT rfl fun x hx => ?_
  · obtain ⟨i, hi, rfl⟩ := mem_upto hd
    exact ⟨_, by omega, by omega, rfl⟩
  · simp! [wipeE, List.all_cons, List.all_nil, hx, all_rep]
theorem good_k01 : Good 63 m_law_v80 := good_2x fun L ρ Q hL hQ => sp_law_right_k01 (hL.mono (by decide)) hQ
end PB
namespace PV
open PySem PySem.Spec PyProof.Rows L2
variable {P : Program} {w : World} {K : PySem.W.Frag} {mg : Str → Option Value} {base : Heap}
noncomputable def lamtab : List LamT := []
@[reducible] noncomputable instance lawTb : Tb := { tbL tf lamtab with dyn := True }
abbrev Tp (P : Program) (base : Heap) (K : PySem.W.Frag) (mg : Str → Option Value) : Prop := TopTb P base fs fn tf gv K mg
variable {P : Program} {w : World} {K : PySem.W.Frag} {mg : Str → Option Value} {base : Heap}
theorem gc_InvalidSurd (T : Tp P base K mg) : GivC K (He.fAd K ("InvalidSurd", none)) (He.fAd K ("InvalidSurd", some "__init__")) "InvalidSurd.__init__" "given" := givC_of (T.gvA 0) (T.fd 3 (d := dd_InvalidSurd___init__))
theorem gc_InvalidIndex (T : Tp P base K mg) : GivC K (He.fAd K ("InvalidIndex", none)) (He.fAd K ("InvalidIndex", some "__init__")) "InvalidIndex.__init__" "given" := givC_of (T.gvA 1) (T.fd 4 (d := dd_InvalidIndex___init__))
theorem gc_InvalidNumber (T : Tp P base K mg) : GivC K (He.fAd K ("InvalidNumber", none)) (He.fAd K ("InvalidNumber", some "__init__")) "InvalidNumber.__init__" "given" := givC_of (T.gvA 2) (T.fd 5 (d := dd_InvalidNumber___init__))
theorem gc_InvalidFraction (T : Tp P base K mg) : GivC K (He.fAd K ("InvalidFraction", none)) (He.fAd K ("InvalidFraction", some "__init__")) "InvalidFraction.__init__" "given" := givC_of (T.gvA 3) (T.fd 6 (d := dd_InvalidFraction___init__))
theorem gc_InvalidIron (T : Tp P base K mg) : GivC K (He.fAd K ("InvalidIron", none)) (He.fAd K ("InvalidIron", some "__init__")) "InvalidIron.__init__" "given" := givC_of (T.gvA 4) (T.fd 7 (d := dd_InvalidIron___init__))
theorem gc_InvalidWave (T : Tp P base K mg) : GivC K (He.fAd K ("InvalidWave", none)) (He.fAd K ("InvalidWave", some "__init__")) "InvalidWave.__init__" "given" := givC_of (T.gvA 5) (T.fd 8 (d := dd_InvalidWave___init__))
theorem gc_InvalidCourse (T : Tp P base K mg) : GivC K (He.fAd K ("InvalidCourse", none)) (He.fAd K ("InvalidCourse", some "__init__")) "InvalidCourse.__init__" "given" := givC_of (T.gvA 6) (T.fd 9 (d := dd_InvalidCourse___init__))
theorem gc_InvalidHeading (T : Tp P base K mg) : GivC K (He.fAd K ("InvalidHeading", none)) (He.fAd K ("InvalidHeading", some "__init__")) "InvalidHeading.__init__" "given" := givC_of (T.gvA 7) (T.fd 10 (d := dd_InvalidHeading___init__))
theorem gc_InvalidForce (T : Tp P base K mg) : GivC K (He.fAd K ("InvalidForce", none)) (He.fAd K ("InvalidForce", some "__init__")) "InvalidForce.__init__" "given" := givC_of (T.gvA 8) (T.fd 11 (d := dd_InvalidForce___init__))
theorem gc_InvalidFive (T : Tp P base K mg) : GivC K (He.fAd K ("InvalidFive", none)) (He.fAd K ("InvalidFive", some "__init__")) "InvalidFive.__init__" "given" := givC_of (T.gvA 9) (T.fd 12 (d := dd_InvalidFive___init__))
theorem gc_InvalidPlace (T : Tp P base K mg) : GivC K (He.fAd K ("InvalidPlace", none)) (He.fAd K ("InvalidPlace", some "__init__")) "InvalidPlace.__init__" "given" := givC_of (T.gvA 10) (T.fd 13 (d := dd_InvalidPlace___init__))
theorem gc_InvalidPiece (T : Tp P base K mg) : GivC K (He.fAd K ("InvalidPiece", none)) (He.fAd K ("InvalidPiece", some "__init__")) "InvalidPiece.__init__" "given" := givC_of (T.gvA 11) (T.fd 14 (d := dd_InvalidPiece___init__))
theorem gc_InvalidPhrase (T : Tp P base K mg) : GivC K (He.fAd K ("InvalidPhrase", none)) (He.fAd K ("InvalidPhrase", some "__init__")) "InvalidPhrase.__init__" "given" := givC_of (T.gvA 12) (T.fd 15 (d := dd_InvalidPhrase___init__))
theorem gc_InvalidWish (T : Tp P base K mg) : GivC K (He.fAd K ("InvalidWish", none)) (He.fAd K ("InvalidWish", some "__init__")) "InvalidWish.__init__" "given" := givC_of (T.gvA 13) (T.fd 16 (d := dd_InvalidWish___init__))
theorem gc_InvalidName (T : Tp P base K mg) : GivC K (He.fAd K ("InvalidName", none)) (He.fAd K ("InvalidName", some "__init__")) "InvalidName.__init__" "given" := givC_of (T.gvA 14) (T.fd 17 (d := dd_InvalidName___init__))
theorem gc_InvalidReading (T : Tp P base K mg) : GivC K (He.fAd K ("InvalidReading", none)) (He.fAd K ("InvalidReading", some "__init__")) "InvalidReading.__init__" "given" := givC_of (T.gvA 15) (T.fd 18 (d := dd_InvalidReading___init__))
theorem gc_HighBelowLow (T : Tp P base K mg) : GivC K (He.fAd K ("HighBelowLow", none)) (He.fAd K ("HighBelowLow", some "__init__")) "HighBelowLow.__init__" "given" := givC_of (T.gvA 16) (T.fd 19 (d := dd_HighBelowLow___init__))
theorem gc_NotAWorkshop (T : Tp P base K mg) : GivC K (He.fAd K ("NotAWorkshop", none)) (He.fAd K ("NotAWorkshop", some "__init__")) "NotAWorkshop.__init__" "given" := givC_of (T.gvA 17) (T.fd 20 (d := dd_NotAWorkshop___init__))
theorem gc_UnknownName (T : Tp P base K mg) : GivC K (He.fAd K ("UnknownName", none)) (He.fAd K ("UnknownName", some "__init__")) "UnknownName.__init__" "given" := givC_of (T.gvA 18) (T.fd 21 (d := dd_UnknownName___init__))
theorem gc_InUse (T : Tp P base K mg) : GivC K (He.fAd K ("InUse", none)) (He.fAd K ("InUse", some "__init__")) "InUse.__init__" "index" := givC_of (T.gvA 19) (T.fd 25 (d := dd_InUse___init__))
theorem gc_InvalidCounts (T : Tp P base K mg) : GivC K (He.fAd K ("InvalidCounts", none)) (He.fAd K ("InvalidCounts", some "__init__")) "InvalidCounts.__init__" "index" := givC_of (T.gvA 20) (T.fd 26 (d := dd_InvalidCounts___init__))
theorem gc_InvalidBox (T : Tp P base K mg) : GivC K (He.fAd K ("InvalidBox", none)) (He.fAd K ("InvalidBox", some "__init__")) "InvalidBox.__init__" "index" := givC_of (T.gvA 21) (T.fd 27 (d := dd_InvalidBox___init__))
theorem gc_InvalidSea (T : Tp P base K mg) : GivC K (He.fAd K ("InvalidSea", none)) (He.fAd K ("InvalidSea", some "__init__")) "InvalidSea.__init__" "index" := givC_of (T.gvA 22) (T.fd 28 (d := dd_InvalidSea___init__))
theorem gc_InvalidReadings (T : Tp P base K mg) : GivC K (He.fAd K ("InvalidReadings", none)) (He.fAd K ("InvalidReadings", some "__init__")) "InvalidReadings.__init__" "index" := givC_of (T.gvA 23) (T.fd 29 (d := dd_InvalidReadings___init__))
theorem gc_Broken (T : Tp P base K mg) : GivC K (He.fAd K ("Broken", none)) (He.fAd K ("Broken", some "__init__")) "Broken.__init__" "index" := givC_of (T.gvA 24) (T.fd 30 (d := dd_Broken___init__))
theorem glX (T : Tp P base K mg) : GlX K mg ["CompassError", "InvalidFraction", "InvalidNumber", "InvalidIndex", "InvalidSurd", "InvalidHeading", "InvalidCourse", "InvalidWave", "InvalidIron", "InvalidPiece", "InvalidPlace", "InvalidFive", "InvalidForce", "InvalidReading", "InvalidName", "InvalidWish", "InvalidPhrase", "UnknownName", "NotAWorkshop", "HighBelowLow", "InvalidReadings", "InvalidSea", "InvalidBox", "InvalidCounts", "InUse", "Broken", "TooMuchIron", "NotAhead", "SameDip", "NoneFits", "NothingToUndo"] := ⟨T.glo 73, T.glo 10, T.glo 9, T.glo 8, T.glo 7, T.glo 14, T.glo 13, T.glo 12, T.glo 11, T.glo 18, T.glo 17, T.glo 16, T.glo 15, T.glo 22, T.glo 21, T.glo 20, T.glo 19, T.glo 25, T.glo 24, T.glo 23, T.glo 49, T.glo 47, T.glo 56, T.glo 54, T.glo 52, T.glo 62, T.glo 60, T.glo 58, T.glo 68, T.glo 66, T.glo 64, trivial⟩
theorem sc__law_deal : FnScope N__law_deal ["_law_lode_here", "_law_many"] (defScope s__law_deal) := ⟨rfl, rfl, rfl, by decide +kernel, rfl, by decide +kernel, by decide +kernel⟩
theorem w__law_deal (T : Tp P base K mg) : Walk P w K mg base "_law_deal" s__law_deal 34 N__law_deal [0] m_law_dealB := fun fa cdv A outer s H E Fi => b_cons (s_if (t_cmp op_gt gt_d (e_ixO 0 (pv 0) (e_int) (by intro _ _; rfl)) (e_int) (nomark _)) (b_cons (s_asg (e_callB call_divmodW divmod_d rfl (T.free 1) boot_divmod (l_cons (e_ixO 0 (pv 0) (e_int) (by intro _ _; rfl)) (l_cons (e_var 1) (l_nil)))) (g_tup rfl (gs_cons (g_sub 0 (pv 0) (e_int)) (gs_cons (g_name 3 Fi.nd) (gs_nil))) (hg := gn_cons (gSub_noer _ _) (gn_cons (gN_noer _) (gn_nil))))) (b_one (s_ret (e_var 3)))) (b_nil)) (b_cons (s_asg (e_bin op_addA add_d (e_ixO 0 (pv 0) (e_int) (by intro _ _; rfl)) (e_int)) (g_sub 0 (pv 0) (e_int))) (b_cons (s_set 2 Fi.nd (e_bin op_addA add_d (e_bin op_modN mod_d (e_callTy call_int1 int_d rfl (T.free 2) boot_int (l_cons (e_ixO 0 (pv 0) (e_int) (by intro _ _; rfl)) (l_nil))) (e_int)) (e_int))) (b_cons (s_asg (e_bin op_modN mod_d (e_callTy call_int1 int_d rfl (T.free 2) boot_int (l_cons (e_bin op_addA add_d (e_bin op_addA add_d (e_bin op_mulA mul_d (e_ixO 0 (pv 0) (e_int) (by intro _ _; rfl)) (e_var 2)) (e_bin op_mulA mul_d (e_int) (e_ixO 0 (pv 0) (e_int) (by intro _ _; rfl)))) (e_int)) (l_nil))) (e_int)) (g_sub 0 (pv 0) (e_int))) (b_one (s_ret (e_bin op_modN mod_d (e_callTy call_int1 int_d rfl (T.free 2) boot_int (l_cons (e_bin (op_divR Fi.rm) div_d (e_ixO 0 (pv 0) (e_int) (by intro _ _; rfl)) (e_int)) (l_nil))) (e_var 1)))))))
theorem ok__law_deal (T : Tp P base K mg) : DefV P w K mg base "_law_deal" s__law_deal 35 ["_law_lode_here", "_law_many"] m_law_deal := defV_mk T.sr (T.glo 3) (T.fd 0 (d := dd__law_deal)) sc__law_deal (fun _ _ _ _ _ _ us hl => match us, hl with | [_, _], _ => rfl) rfl (w__law_deal T)
theorem sc__law_some : FnScope N__law_some ["_law_lode_here", "_law_some_here"] (defScope s__law_some) := ⟨rfl, rfl, rfl, by decide +kernel, rfl, by decide +kernel, by decide +kernel⟩
theorem w__law_some (T : Tp P base K mg) : Walk P w K mg base "_law_some" s__law_some 35 N__law_some [0] m_law_someB := fun fa cdv A outer s H E Fi => b_one (s_ret (e_ix ix_A ix_d (e_var 1) (e_callO 0 (ok__law_deal T) Fi.hr Fi.hg Fi.tw rfl (pv 0) (l_cons (e_callB call_lenA len_d rfl (T.free 4) boot_len (l_cons (e_var 1) (l_nil))) (l_nil))) (by intro _ _; rfl)))
theorem ok__law_some (T : Tp P base K mg) : DefV P w K mg base "_law_some" s__law_some 36 ["_law_lode_here", "_law_some_here"] m_law_some := defV_mk T.sr (T.glo 5) (T.fd 1 (d := dd__law_some)) sc__law_some (fun _ _ _ _ _ _ us hl => match us, hl with | [_, _], _ => rfl) rfl (w__law_some T)
theorem sc__law_about : FnScope N__law_about ["_law_lode_here", "_law_wide"] (defScope s__law_about) := ⟨rfl, rfl, rfl, by decide +kernel, rfl, by decide +kernel, by decide +kernel⟩
theorem w__law_about (T : Tp P base K mg) : Walk P w K mg base "_law_about" s__law_about 35 N__law_about [0] m_law_aboutB := fun fa cdv A outer s H E Fi => b_cons (s_if (t_cmp op_lt lt_d (e_var 1) (e_bin op_pow pow_d (e_int) (e_int)) (nomark _)) (b_one (s_ret (e_bin op_sub sub_d (e_callO 0 (ok__law_deal T) Fi.hr Fi.hg Fi.tw rfl (pv 0) (l_cons (e_bin op_addA add_d (e_bin op_mulA mul_d (e_int) (e_var 1)) (e_int)) (l_nil))) (e_var 1)))) (b_nil)) (b_cons (s_set 2 Fi.nd (e_callO 0 (ok__law_deal T) Fi.hr Fi.hg Fi.tw rfl (pv 0) (l_cons (e_int) (l_nil)))) (b_one (s_ret (e_bin op_sub sub_d (e_bin op_modN mod_d (e_callTy call_int1 int_d rfl (T.free 2) boot_int (l_cons (e_bin op_addA add_d (e_bin op_mulA mul_d (e_var 2) (e_int)) (e_callO 0 (ok__law_deal T) Fi.hr Fi.hg Fi.tw rfl (pv 0) (l_cons (e_int) (l_nil)))) (l_nil))) (e_bin op_addA add_d (e_bin op_mulA mul_d (e_int) (e_var 1)) (e_int))) (e_var 1)))))
theorem ok__law_about (T : Tp P base K mg) : DefV P w K mg base "_law_about" s__law_about 36 ["_law_lode_here", "_law_wide"] m_law_about := defV_mk T.sr (T.glo 6) (T.fd 2 (d := dd__law_about)) sc__law_about (fun _ _ _ _ _ _ us hl => match us, hl with | [_, _], _ => rfl) rfl (w__law_about T)
theorem sc__law_given : FnScope N__law_given ["_law_thing"] (defScope s__law_given) := ⟨rfl, rfl, rfl, by decide +kernel, rfl, by decide +kernel, by decide +kernel⟩
theorem w__law_given (T : Tp P base K mg) : Walk P w K mg base "_law_given" s__law_given 34 N__law_given [] m_law_givenB := fun fa cdv A outer s H E Fi => b_cons (s_set 1 Fi.nd (e_new (n_lst (l_cons (e_mkE True.intro Fi (gc_InvalidFraction T) (.inl rfl) (T.glo 10) (l_cons (e_var 0) (l_nil))) (l_cons (e_mkE True.intro Fi (gc_InvalidNumber T) (.inl rfl) (T.glo 9) (l_cons (e_var 0) (l_nil))) (l_cons (e_mkE True.intro Fi (gc_InvalidIndex T) (.inl rfl) (T.glo 8) (l_cons (e_var 0) (l_nil))) (l_cons (e_mkE True.intro Fi (gc_InvalidSurd T) (.inl rfl) (T.glo 7) (l_cons (e_var 0) (l_nil))) (l_nil))))) (len_cons (len_cons (len_cons (len_cons len_nil))))))) (b_cons (s_set 1 Fi.nd (e_bin op_addA add_d (e_var 1) (e_new (n_lst (l_cons (e_mkE True.intro Fi (gc_InvalidHeading T) (.inl rfl) (T.glo 14) (l_cons (e_var 0) (l_nil))) (l_cons (e_mkE True.intro Fi (gc_InvalidCourse T) (.inl rfl) (T.glo 13) (l_cons (e_var 0) (l_nil))) (l_cons (e_mkE True.intro Fi (gc_InvalidWave T) (.inl rfl) (T.glo 12) (l_cons (e_var 0) (l_nil))) (l_cons (e_mkE True.intro Fi (gc_InvalidIron T) (.inl rfl) (T.glo 11) (l_cons (e_var 0) (l_nil))) (l_nil))))) (len_cons (len_cons (len_cons (len_cons len_nil)))))))) (b_cons (s_set 1 Fi.nd (e_bin op_addA add_d (e_var 1) (e_new (n_lst (l_cons (e_mkE True.intro Fi (gc_InvalidPiece T) (.inl rfl) (T.glo 18) (l_cons (e_var 0) (l_nil))) (l_cons (e_mkE True.intro Fi (gc_InvalidPlace T) (.inl rfl) (T.glo 17) (l_cons (e_var 0) (l_nil))) (l_cons (e_mkE True.intro Fi (gc_InvalidFive T) (.inl rfl) (T.glo 16) (l_cons (e_var 0) (l_nil))) (l_cons (e_mkE True.intro Fi (gc_InvalidForce T) (.inl rfl) (T.glo 15) (l_cons (e_var 0) (l_nil))) (l_nil))))) (len_cons (len_cons (len_cons (len_cons len_nil)))))))) (b_cons (s_set 1 Fi.nd (e_bin op_addA add_d (e_var 1) (e_new (n_lst (l_cons (e_mkE True.intro Fi (gc_InvalidReading T) (.inl rfl) (T.glo 22) (l_cons (e_var 0) (l_nil))) (l_cons (e_mkE True.intro Fi (gc_InvalidName T) (.inl rfl) (T.glo 21) (l_cons (e_var 0) (l_nil))) (l_cons (e_mkE True.intro Fi (gc_InvalidWish T) (.inl rfl) (T.glo 20) (l_cons (e_var 0) (l_nil))) (l_cons (e_mkE True.intro Fi (gc_InvalidPhrase T) (.inl rfl) (T.glo 19) (l_cons (e_var 0) (l_nil))) (l_nil))))) (len_cons (len_cons (len_cons (len_cons len_nil)))))))) (b_cons (s_set 1 Fi.nd (e_bin op_addA add_d (e_var 1) (e_new (n_lst (l_cons (e_mkE True.intro Fi (gc_UnknownName T) (.inl rfl) (T.glo 25) (l_cons (e_var 0) (l_nil))) (l_cons (e_mkE True.intro Fi (gc_NotAWorkshop T) (.inl rfl) (T.glo 24) (l_cons (e_var 0) (l_nil))) (l_cons (e_mkE True.intro Fi (gc_HighBelowLow T) (.inl rfl) (T.glo 23) (l_cons (e_var 0) (l_nil))) (l_nil)))) (len_cons (len_cons (len_cons len_nil))))))) (b_cons (s_set 2 Fi.nd (e_new (n_lst (l_cons (e_mkEk True.intro Fi (gc_InvalidFraction T) (.inl rfl) (T.glo 10) (k_cons (e_var 0) (k_nil))) (l_cons (e_mkEk True.intro Fi (gc_InvalidNumber T) (.inl rfl) (T.glo 9) (k_cons (e_var 0) (k_nil))) (l_cons (e_mkEk True.intro Fi (gc_InvalidIndex T) (.inl rfl) (T.glo 8) (k_cons (e_var 0) (k_nil))) (l_nil)))) (len_cons (len_cons (len_cons len_nil)))))) (b_cons (s_set 2 Fi.nd (e_bin op_addA add_d (e_var 2) (e_new (n_lst (l_cons (e_mkEk True.intro Fi (gc_InvalidSurd T) (.inl rfl) (T.glo 7) (k_cons (e_var 0) (k_nil))) (l_cons (e_mkEk True.intro Fi (gc_InvalidHeading T) (.inl rfl) (T.glo 14) (k_cons (e_var 0) (k_nil))) (l_cons (e_mkEk True.intro Fi (gc_InvalidCourse T) (.inl rfl) (T.glo 13) (k_cons (e_var 0) (k_nil))) (l_nil)))) (len_cons (len_cons (len_cons len_nil))))))) (b_cons (s_set 2 Fi.nd (e_bin op_addA add_d (e_var 2) (e_new (n_lst (l_cons (e_mkEk True.intro Fi (gc_InvalidWave T) (.inl rfl) (T.glo 12) (k_cons (e_var 0) (k_nil))) (l_cons (e_mkEk True.intro Fi (gc_InvalidIron T) (.inl rfl) (T.glo 11) (k_cons (e_var 0) (k_nil))) (l_cons (e_mkEk True.intro Fi (gc_InvalidPiece T) (.inl rfl) (T.glo 18) (k_cons (e_var 0) (k_nil))) (l_nil)))) (len_cons (len_cons (len_cons len_nil))))))) (b_cons (s_set 2 Fi.nd (e_bin op_addA add_d (e_var 2) (e_new (n_lst (l_cons (e_mkEk True.intro Fi (gc_InvalidPlace T) (.inl rfl) (T.glo 17) (k_cons (e_var 0) (k_nil))) (l_cons (e_mkEk True.intro Fi (gc_InvalidFive T) (.inl rfl) (T.glo 16) (k_cons (e_var 0) (k_nil))) (l_cons (e_mkEk True.intro Fi (gc_InvalidForce T) (.inl rfl) (T.glo 15) (k_cons (e_var 0) (k_nil))) (l_nil)))) (len_cons (len_cons (len_cons len_nil))))))) (b_cons (s_set 2 Fi.nd (e_bin op_addA add_d (e_var 2) (e_new (n_lst (l_cons (e_mkEk True.intro Fi (gc_InvalidReading T) (.inl rfl) (T.glo 22) (k_cons (e_var 0) (k_nil))) (l_cons (e_mkEk True.intro Fi (gc_InvalidName T) (.inl rfl) (T.glo 21) (k_cons (e_var 0) (k_nil))) (l_cons (e_mkEk True.intro Fi (gc_InvalidWish T) (.inl rfl) (T.glo 20) (k_cons (e_var 0) (k_nil))) (l_nil)))) (len_cons (len_cons (len_cons len_nil))))))) (b_cons (s_set 2 Fi.nd (e_bin op_addA add_d (e_var 2) (e_new (n_lst (l_cons (e_mkEk True.intro Fi (gc_InvalidPhrase T) (.inl rfl) (T.glo 19) (k_cons (e_var 0) (k_nil))) (l_cons (e_mkEk True.intro Fi (gc_UnknownName T) (.inl rfl) (T.glo 25) (k_cons (e_var 0) (k_nil))) (l_cons (e_mkEk True.intro Fi (gc_NotAWorkshop T) (.inl rfl) (T.glo 24) (k_cons (e_var 0) (k_nil))) (l_nil)))) (len_cons (len_cons (len_cons len_nil))))))) (b_one (s_ret (e_new (n_lst (l_cons (e_var 1) (l_cons (e_bin op_addA add_d (e_var 2) (e_new (n_lst (l_cons (e_mkEk True.intro Fi (gc_HighBelowLow T) (.inl rfl) (T.glo 23) (k_cons (e_var 0) (k_nil))) (l_nil)) (len_cons len_nil)))) (l_nil))) (len_cons (len_cons len_nil))))))))))))))))
theorem ok__law_given (T : Tp P base K mg) : DefV P w K mg base "_law_given" s__law_given 35 ["_law_thing"] m_law_given := defV_mk T.sr (T.glo 26) (T.fd 22 (d := dd__law_given)) sc__law_given (fun _ _ _ _ _ _ us hl => match us, hl with | [_], _ => rfl) rfl (w__law_given T)
theorem sc__law_marks : FnScope N__law_marks ["_law_e"] (defScope s__law_marks) := ⟨rfl, rfl, rfl, by decide +kernel, rfl, by decide +kernel, by decide +kernel⟩
theorem w__law_marks (T : Tp P base K mg) : Walk P w K mg base "_law_marks" s__law_marks 34 N__law_marks [] m_law_marksB := fun fa cdv A outer s H E Fi => b_cons (s_set 1 Fi.nd (e_new (n_lst (l_cons (e_isV (fun _ => rfl) (IsX.of (glX T) (T.isA 30 (y := "InvalidFraction") (tbl := [("CompassError", false), ("InvalidFraction", true), ("InvalidNumber", false), ("InvalidIndex", false), ("InvalidSurd", false), ("InvalidHeading", false), ("InvalidCourse", false), ("InvalidWave", false), ("InvalidIron", false), ("InvalidPiece", false), ("InvalidPlace", false), ("InvalidFive", false), ("InvalidForce", false), ("InvalidReading", false), ("InvalidName", false), ("InvalidWish", false), ("InvalidPhrase", false), ("UnknownName", false), ("NotAWorkshop", false), ("HighBelowLow", false), ("InvalidReadings", false), ("InvalidSea", false), ("InvalidBox", false), ("InvalidCounts", false), ("InUse", false), ("Broken", false), ("TooMuchIron", false), ("NotAhead", false), ("SameDip", false), ("NoneFits", false), ("NothingToUndo", false)]))) (T.free 28) (T.glo 10) (e_var 0)) (l_cons (e_isV (fun _ => rfl) (IsX.of (glX T) (T.isA 29 (y := "InvalidNumber") (tbl := [("CompassError", false), ("InvalidFraction", false), ("InvalidNumber", true), ("InvalidIndex", false), ("InvalidSurd", false), ("InvalidHeading", false), ("InvalidCourse", false), ("InvalidWave", false), ("InvalidIron", false), ("InvalidPiece", false), ("InvalidPlace", false), ("InvalidFive", false), ("InvalidForce", false), ("InvalidReading", false), ("InvalidName", false), ("InvalidWish", false), ("InvalidPhrase", false), ("UnknownName", false), ("NotAWorkshop", false), ("HighBelowLow", false), ("InvalidReadings", false), ("InvalidSea", false), ("InvalidBox", false), ("InvalidCounts", false), ("InUse", false), ("Broken", false), ("TooMuchIron", false), ("NotAhead", false), ("SameDip", false), ("NoneFits", false), ("NothingToUndo", false)]))) (T.free 28) (T.glo 9) (e_var 0)) (l_cons (e_isV (fun _ => rfl) (IsX.of (glX T) (T.isA 27 (y := "InvalidIndex") (tbl := [("CompassError", false), ("InvalidFraction", false), ("InvalidNumber", false), ("InvalidIndex", true), ("InvalidSurd", false), ("InvalidHeading", false), ("InvalidCourse", false), ("InvalidWave", false), ("InvalidIron", false), ("InvalidPiece", false), ("InvalidPlace", false), ("InvalidFive", false), ("InvalidForce", false), ("InvalidReading", false), ("InvalidName", false), ("InvalidWish", false), ("InvalidPhrase", false), ("UnknownName", false), ("NotAWorkshop", false), ("HighBelowLow", false), ("InvalidReadings", false), ("InvalidSea", false), ("InvalidBox", false), ("InvalidCounts", false), ("InUse", false), ("Broken", false), ("TooMuchIron", false), ("NotAhead", false), ("SameDip", false), ("NoneFits", false), ("NothingToUndo", false)]))) (T.free 28) (T.glo 8) (e_var 0)) (l_nil)))) (len_cons (len_cons (len_cons len_nil)))))) (b_cons (s_set 1 Fi.nd (e_bin op_addA add_d (e_var 1) (e_new (n_lst (l_cons (e_isV (fun _ => rfl) (IsX.of (glX T) (T.isA 33 (y := "InvalidSurd") (tbl := [("CompassError", false), ("InvalidFraction", false), ("InvalidNumber", false), ("InvalidIndex", false), ("InvalidSurd", true), ("InvalidHeading", false), ("InvalidCourse", false), ("InvalidWave", false), ("InvalidIron", false), ("InvalidPiece", false), ("InvalidPlace", false), ("InvalidFive", false), ("InvalidForce", false), ("InvalidReading", false), ("InvalidName", false), ("InvalidWish", false), ("InvalidPhrase", false), ("UnknownName", false), ("NotAWorkshop", false), ("HighBelowLow", false), ("InvalidReadings", false), ("InvalidSea", false), ("InvalidBox", false), ("InvalidCounts", false), ("InUse", false), ("Broken", false), ("TooMuchIron", false), ("NotAhead", false), ("SameDip", false), ("NoneFits", false), ("NothingToUndo", false)]))) (T.free 28) (T.glo 7) (e_var 0)) (l_cons (e_isV (fun _ => rfl) (IsX.of (glX T) (T.isA 32 (y := "InvalidHeading") (tbl := [("CompassError", false), ("InvalidFraction", false), ("InvalidNumber", false), ("InvalidIndex", false), ("InvalidSurd", false), ("InvalidHeading", true), ("InvalidCourse", false), ("InvalidWave", false), ("InvalidIron", false), ("InvalidPiece", false), ("InvalidPlace", false), ("InvalidFive", false), ("InvalidForce", false), ("InvalidReading", false), ("InvalidName", false), ("InvalidWish", false), ("InvalidPhrase", false), ("UnknownName", false), ("NotAWorkshop", false), ("HighBelowLow", false), ("InvalidReadings", false), ("InvalidSea", false), ("InvalidBox", false), ("InvalidCounts", false), ("InUse", false), ("Broken", false), ("TooMuchIron", false), ("NotAhead", false), ("SameDip", false), ("NoneFits", false), ("NothingToUndo", false)]))) (T.free 28) (T.glo 14) (e_var 0)) (l_cons (e_isV (fun _ => rfl) (IsX.of (glX T) (T.isA 31 (y := "InvalidCourse") (tbl := [("CompassError", false), ("InvalidFraction", false), ("InvalidNumber", false), ("InvalidIndex", false), ("InvalidSurd", false), ("InvalidHeading", false), ("InvalidCourse", true), ("InvalidWave", false), ("InvalidIron", false), ("InvalidPiece", false), ("InvalidPlace", false), ("InvalidFive", false), ("InvalidForce", false), ("InvalidReading", false), ("InvalidName", false), ("InvalidWish", false), ("InvalidPhrase", false), ("UnknownName", false), ("NotAWorkshop", false), ("HighBelowLow", false), ("InvalidReadings", false), ("InvalidSea", false), ("InvalidBox", false), ("InvalidCounts", false), ("InUse", false), ("Broken", false), ("TooMuchIron", false), ("NotAhead", false), ("SameDip", false), ("NoneFits", false), ("NothingToUndo", false)]))) (T.free 28) (T.glo 13) (e_var 0)) (l_nil)))) (len_cons (len_cons (len_cons len_nil))))))) (b_cons (s_set 1 Fi.nd (e_bin op_addA add_d (e_var 1) (e_new (n_lst (l_cons (e_isV (fun _ => rfl) (IsX.of (glX T) (T.isA 36 (y := "InvalidWave") (tbl := [("CompassError", false), ("InvalidFraction", false), ("InvalidNumber", false), ("InvalidIndex", false), ("InvalidSurd", false), ("InvalidHeading", false), ("InvalidCourse", false), ("InvalidWave", true), ("InvalidIron", false), ("InvalidPiece", false), ("InvalidPlace", false), ("InvalidFive", false), ("InvalidForce", false), ("InvalidReading", false), ("InvalidName", false), ("InvalidWish", false), ("InvalidPhrase", false), ("UnknownName", false), ("NotAWorkshop", false), ("HighBelowLow", false), ("InvalidReadings", false), ("InvalidSea", false), ("InvalidBox", false), ("InvalidCounts", false), ("InUse", false), ("Broken", false), ("TooMuchIron", false), ("NotAhead", false), ("SameDip", false), ("NoneFits", false), ("NothingToUndo", false)]))) (T.free 28) (T.glo 12) (e_var 0)) (l_cons (e_isV (fun _ => rfl) (IsX.of (glX T) (T.isA 35 (y := "InvalidIron") (tbl := [("CompassError", false), ("InvalidFraction", false), ("InvalidNumber", false), ("InvalidIndex", false), ("InvalidSurd", false), ("InvalidHeading", false), ("InvalidCourse", false), ("InvalidWave", false), ("InvalidIron", true), ("InvalidPiece", false), ("InvalidPlace", false), ("InvalidFive", false), ("InvalidForce", false), ("InvalidReading", false), ("InvalidName", false), ("InvalidWish", false), ("InvalidPhrase", false), ("UnknownName", false), ("NotAWorkshop", false), ("HighBelowLow", false), ("InvalidReadings", false), ("InvalidSea", false), ("InvalidBox", false), ("InvalidCounts", false), ("InUse", false), ("Broken", false), ("TooMuchIron", false), ("NotAhead", false), ("SameDip", false), ("NoneFits", false), ("NothingToUndo", false)]))) (T.free 28) (T.glo 11) (e_var 0)) (l_cons (e_isV (fun _ => rfl) (IsX.of (glX T) (T.isA 34 (y := "InvalidPiece") (tbl := [("CompassError", false), ("InvalidFraction", false), ("InvalidNumber", false), ("InvalidIndex", false), ("InvalidSurd", false), ("InvalidHeading", false), ("InvalidCourse", false), ("InvalidWave", false), ("InvalidIron", false), ("InvalidPiece", true), ("InvalidPlace", false), ("InvalidFive", false), ("InvalidForce", false), ("InvalidReading", false), ("InvalidName", false), ("InvalidWish", false), ("InvalidPhrase", false), ("UnknownName", false), ("NotAWorkshop", false), ("HighBelowLow", false), ("InvalidReadings", false), ("InvalidSea", false), ("InvalidBox", false), ("InvalidCounts", false), ("InUse", false), ("Broken", false), ("TooMuchIron", false), ("NotAhead", false), ("SameDip", false), ("NoneFits", false), ("NothingToUndo", false)]))) (T.free 28) (T.glo 18) (e_var 0)) (l_nil)))) (len_cons (len_cons (len_cons len_nil))))))) (b_cons (s_set 1 Fi.nd (e_bin op_addA add_d (e_var 1) (e_new (n_lst (l_cons (e_isV (fun _ => rfl) (IsX.of (glX T) (T.isA 39 (y := "InvalidPlace") (tbl := [("CompassError", false), ("InvalidFraction", false), ("InvalidNumber", false), ("InvalidIndex", false), ("InvalidSurd", false), ("InvalidHeading", false), ("InvalidCourse", false), ("InvalidWave", false), ("InvalidIron", false), ("InvalidPiece", false), ("InvalidPlace", true), ("InvalidFive", false), ("InvalidForce", false), ("InvalidReading", false), ("InvalidName", false), ("InvalidWish", false), ("InvalidPhrase", false), ("UnknownName", false), ("NotAWorkshop", false), ("HighBelowLow", false), ("InvalidReadings", false), ("InvalidSea", false), ("InvalidBox", false), ("InvalidCounts", false), ("InUse", false), ("Broken", false), ("TooMuchIron", false), ("NotAhead", false), ("SameDip", false), ("NoneFits", false), ("NothingToUndo", false)]))) (T.free 28) (T.glo 17) (e_var 0)) (l_cons (e_isV (fun _ => rfl) (IsX.of (glX T) (T.isA 38 (y := "InvalidFive") (tbl := [("CompassError", false), ("InvalidFraction", false), ("InvalidNumber", false), ("InvalidIndex", false), ("InvalidSurd", false), ("InvalidHeading", false), ("InvalidCourse", false), ("InvalidWave", false), ("InvalidIron", false), ("InvalidPiece", false), ("InvalidPlace", false), ("InvalidFive", true), ("InvalidForce", false), ("InvalidReading", false), ("InvalidName", false), ("InvalidWish", false), ("InvalidPhrase", false), ("UnknownName", false), ("NotAWorkshop", false), ("HighBelowLow", false), ("InvalidReadings", false), ("InvalidSea", false), ("InvalidBox", false), ("InvalidCounts", false), ("InUse", false), ("Broken", false), ("TooMuchIron", false), ("NotAhead", false), ("SameDip", false), ("NoneFits", false), ("NothingToUndo", false)]))) (T.free 28) (T.glo 16) (e_var 0)) (l_cons (e_isV (fun _ => rfl) (IsX.of (glX T) (T.isA 37 (y := "InvalidForce") (tbl := [("CompassError", false), ("InvalidFraction", false), ("InvalidNumber", false), ("InvalidIndex", false), ("InvalidSurd", false), ("InvalidHeading", false), ("InvalidCourse", false), ("InvalidWave", false), ("InvalidIron", false), ("InvalidPiece", false), ("InvalidPlace", false), ("InvalidFive", false), ("InvalidForce", true), ("InvalidReading", false), ("InvalidName", false), ("InvalidWish", false), ("InvalidPhrase", false), ("UnknownName", false), ("NotAWorkshop", false), ("HighBelowLow", false), ("InvalidReadings", false), ("InvalidSea", false), ("InvalidBox", false), ("InvalidCounts", false), ("InUse", false), ("Broken", false), ("TooMuchIron", false), ("NotAhead", false), ("SameDip", false), ("NoneFits", false), ("NothingToUndo", false)]))) (T.free 28) (T.glo 15) (e_var 0)) (l_nil)))) (len_cons (len_cons (len_cons len_nil))))))) (b_cons (s_set 1 Fi.nd (e_bin op_addA add_d (e_var 1) (e_new (n_lst (l_cons (e_isV (fun _ => rfl) (IsX.of (glX T) (T.isA 42 (y := "InvalidReading") (tbl := [("CompassError", false), ("InvalidFraction", false), ("InvalidNumber", false), ("InvalidIndex", false), ("InvalidSurd", false), ("InvalidHeading", false), ("InvalidCourse", false), ("InvalidWave", false), ("InvalidIron", false), ("InvalidPiece", false), ("InvalidPlace", false), ("InvalidFive", false), ("InvalidForce", false), ("InvalidReading", true), ("InvalidName", false), ("InvalidWish", false), ("InvalidPhrase", false), ("UnknownName", false), ("NotAWorkshop", false), ("HighBelowLow", false), ("InvalidReadings", false), ("InvalidSea", false), ("InvalidBox", false), ("InvalidCounts", false), ("InUse", false), ("Broken", false), ("TooMuchIron", false), ("NotAhead", false), ("SameDip", false), ("NoneFits", false), ("NothingToUndo", false)]))) (T.free 28) (T.glo 22) (e_var 0)) (l_cons (e_isV (fun _ => rfl) (IsX.of (glX T) (T.isA 41 (y := "InvalidName") (tbl := [("CompassError", false), ("InvalidFraction", false), ("InvalidNumber", false), ("InvalidIndex", false), ("InvalidSurd", false), ("InvalidHeading", false), ("InvalidCourse", false), ("InvalidWave", false), ("InvalidIron", false), ("InvalidPiece", false), ("InvalidPlace", false), ("InvalidFive", false), ("InvalidForce", false), ("InvalidReading", false), ("InvalidName", true), ("InvalidWish", false), ("InvalidPhrase", false), ("UnknownName", false), ("NotAWorkshop", false), ("HighBelowLow", false), ("InvalidReadings", false), ("InvalidSea", false), ("InvalidBox", false), ("InvalidCounts", false), ("InUse", false), ("Broken", false), ("TooMuchIron", false), ("NotAhead", false), ("SameDip", false), ("NoneFits", false), ("NothingToUndo", false)]))) (T.free 28) (T.glo 21) (e_var 0)) (l_cons (e_isV (fun _ => rfl) (IsX.of (glX T) (T.isA 40 (y := "InvalidWish") (tbl := [("CompassError", false), ("InvalidFraction", false), ("InvalidNumber", false), ("InvalidIndex", false), ("InvalidSurd", false), ("InvalidHeading", false), ("InvalidCourse", false), ("InvalidWave", false), ("InvalidIron", false), ("InvalidPiece", false), ("InvalidPlace", false), ("InvalidFive", false), ("InvalidForce", false), ("InvalidReading", false), ("InvalidName", false), ("InvalidWish", true), ("InvalidPhrase", false), ("UnknownName", false), ("NotAWorkshop", false), ("HighBelowLow", false), ("InvalidReadings", false), ("InvalidSea", false), ("InvalidBox", false), ("InvalidCounts", false), ("InUse", false), ("Broken", false), ("TooMuchIron", false), ("NotAhead", false), ("SameDip", false), ("NoneFits", false), ("NothingToUndo", false)]))) (T.free 28) (T.glo 20) (e_var 0)) (l_nil)))) (len_cons (len_cons (len_cons len_nil))))))) (b_cons (s_set 1 Fi.nd (e_bin op_addA add_d (e_var 1) (e_new (n_lst (l_cons (e_isV (fun _ => rfl) (IsX.of (glX T) (T.isA 45 (y := "InvalidPhrase") (tbl := [("CompassError", false), ("InvalidFraction", false), ("InvalidNumber", false), ("InvalidIndex", false), ("InvalidSurd", false), ("InvalidHeading", false), ("InvalidCourse", false), ("InvalidWave", false), ("InvalidIron", false), ("InvalidPiece", false), ("InvalidPlace", false), ("InvalidFive", false), ("InvalidForce", false), ("InvalidReading", false), ("InvalidName", false), ("InvalidWish", false), ("InvalidPhrase", true), ("UnknownName", false), ("NotAWorkshop", false), ("HighBelowLow", false), ("InvalidReadings", false), ("InvalidSea", false), ("InvalidBox", false), ("InvalidCounts", false), ("InUse", false), ("Broken", false), ("TooMuchIron", false), ("NotAhead", false), ("SameDip", false), ("NoneFits", false), ("NothingToUndo", false)]))) (T.free 28) (T.glo 19) (e_var 0)) (l_cons (e_isV (fun _ => rfl) (IsX.of (glX T) (T.isA 44 (y := "UnknownName") (tbl := [("CompassError", false), ("InvalidFraction", false), ("InvalidNumber", false), ("InvalidIndex", false), ("InvalidSurd", false), ("InvalidHeading", false), ("InvalidCourse", false), ("InvalidWave", false), ("InvalidIron", false), ("InvalidPiece", false), ("InvalidPlace", false), ("InvalidFive", false), ("InvalidForce", false), ("InvalidReading", false), ("InvalidName", false), ("InvalidWish", false), ("InvalidPhrase", false), ("UnknownName", true), ("NotAWorkshop", false), ("HighBelowLow", false), ("InvalidReadings", false), ("InvalidSea", false), ("InvalidBox", false), ("InvalidCounts", false), ("InUse", false), ("Broken", false), ("TooMuchIron", false), ("NotAhead", false), ("SameDip", false), ("NoneFits", false), ("NothingToUndo", false)]))) (T.free 28) (T.glo 25) (e_var 0)) (l_cons (e_isV (fun _ => rfl) (IsX.of (glX T) (T.isA 43 (y := "NotAWorkshop") (tbl := [("CompassError", false), ("InvalidFraction", false), ("InvalidNumber", false), ("InvalidIndex", false), ("InvalidSurd", false), ("InvalidHeading", false), ("InvalidCourse", false), ("InvalidWave", false), ("InvalidIron", false), ("InvalidPiece", false), ("InvalidPlace", false), ("InvalidFive", false), ("InvalidForce", false), ("InvalidReading", false), ("InvalidName", false), ("InvalidWish", false), ("InvalidPhrase", false), ("UnknownName", false), ("NotAWorkshop", true), ("HighBelowLow", false), ("InvalidReadings", false), ("InvalidSea", false), ("InvalidBox", false), ("InvalidCounts", false), ("InUse", false), ("Broken", false), ("TooMuchIron", false), ("NotAhead", false), ("SameDip", false), ("NoneFits", false), ("NothingToUndo", false)]))) (T.free 28) (T.glo 24) (e_var 0)) (l_nil)))) (len_cons (len_cons (len_cons len_nil))))))) (b_cons (s_set 1 Fi.nd (e_bin op_addA add_d (e_var 1) (e_new (n_lst (l_cons (e_isV (fun _ => rfl) (IsX.of (glX T) (T.isA 50 (y := "HighBelowLow") (tbl := [("CompassError", false), ("InvalidFraction", false), ("InvalidNumber", false), ("InvalidIndex", false), ("InvalidSurd", false), ("InvalidHeading", false), ("InvalidCourse", false), ("InvalidWave", false), ("InvalidIron", false), ("InvalidPiece", false), ("InvalidPlace", false), ("InvalidFive", false), ("InvalidForce", false), ("InvalidReading", false), ("InvalidName", false), ("InvalidWish", false), ("InvalidPhrase", false), ("UnknownName", false), ("NotAWorkshop", false), ("HighBelowLow", true), ("InvalidReadings", false), ("InvalidSea", false), ("InvalidBox", false), ("InvalidCounts", false), ("InUse", false), ("Broken", false), ("TooMuchIron", false), ("NotAhead", false), ("SameDip", false), ("NoneFits", false), ("NothingToUndo", false)]))) (T.free 28) (T.glo 23) (e_var 0)) (l_cons (e_isV (fun _ => rfl) (IsX.of (glX T) (T.isA 48 (y := "InvalidReadings") (tbl := [("CompassError", false), ("InvalidFraction", false), ("InvalidNumber", false), ("InvalidIndex", false), ("InvalidSurd", false), ("InvalidHeading", false), ("InvalidCourse", false), ("InvalidWave", false), ("InvalidIron", false), ("InvalidPiece", false), ("InvalidPlace", false), ("InvalidFive", false), ("InvalidForce", false), ("InvalidReading", false), ("InvalidName", false), ("InvalidWish", false), ("InvalidPhrase", false), ("UnknownName", false), ("NotAWorkshop", false), ("HighBelowLow", false), ("InvalidReadings", true), ("InvalidSea", false), ("InvalidBox", false), ("InvalidCounts", false), ("InUse", false), ("Broken", false), ("TooMuchIron", false), ("NotAhead", false), ("SameDip", false), ("NoneFits", false), ("NothingToUndo", false)]))) (T.free 28) (T.glo 49) (e_var 0)) (l_cons (e_isV (fun _ => rfl) (IsX.of (glX T) (T.isA 46 (y := "InvalidSea") (tbl := [("CompassError", false), ("InvalidFraction", false), ("InvalidNumber", false), ("InvalidIndex", false), ("InvalidSurd", false), ("InvalidHeading", false), ("InvalidCourse", false), ("InvalidWave", false), ("InvalidIron", false), ("InvalidPiece", false), ("InvalidPlace", false), ("InvalidFive", false), ("InvalidForce", false), ("InvalidReading", false), ("InvalidName", false), ("InvalidWish", false), ("InvalidPhrase", false), ("UnknownName", false), ("NotAWorkshop", false), ("HighBelowLow", false), ("InvalidReadings", false), ("InvalidSea", true), ("InvalidBox", false), ("InvalidCounts", false), ("InUse", false), ("Broken", false), ("TooMuchIron", false), ("NotAhead", false), ("SameDip", false), ("NoneFits", false), ("NothingToUndo", false)]))) (T.free 28) (T.glo 47) (e_var 0)) (l_nil)))) (len_cons (len_cons (len_cons len_nil))))))) (b_cons (s_set 1 Fi.nd (e_bin op_addA add_d (e_var 1) (e_new (n_lst (l_cons (e_isV (fun _ => rfl) (IsX.of (glX T) (T.isA 55 (y := "InvalidBox") (tbl := [("CompassError", false), ("InvalidFraction", false), ("InvalidNumber", false), ("InvalidIndex", false), ("InvalidSurd", false), ("InvalidHeading", false), ("InvalidCourse", false), ("InvalidWave", false), ("InvalidIron", false), ("InvalidPiece", false), ("InvalidPlace", false), ("InvalidFive", false), ("InvalidForce", false), ("InvalidReading", false), ("InvalidName", false), ("InvalidWish", false), ("InvalidPhrase", false), ("UnknownName", false), ("NotAWorkshop", false), ("HighBelowLow", false), ("InvalidReadings", false), ("InvalidSea", false), ("InvalidBox", true), ("InvalidCounts", false), ("InUse", false), ("Broken", false), ("TooMuchIron", false), ("NotAhead", false), ("SameDip", false), ("NoneFits", false), ("NothingToUndo", false)]))) (T.free 28) (T.glo 56) (e_var 0)) (l_cons (e_isV (fun _ => rfl) (IsX.of (glX T) (T.isA 53 (y := "InvalidCounts") (tbl := [("CompassError", false), ("InvalidFraction", false), ("InvalidNumber", false), ("InvalidIndex", false), ("InvalidSurd", false), ("InvalidHeading", false), ("InvalidCourse", false), ("InvalidWave", false), ("InvalidIron", false), ("InvalidPiece", false), ("InvalidPlace", false), ("InvalidFive", false), ("InvalidForce", false), ("InvalidReading", false), ("InvalidName", false), ("InvalidWish", false), ("InvalidPhrase", false), ("UnknownName", false), ("NotAWorkshop", false), ("HighBelowLow", false), ("InvalidReadings", false), ("InvalidSea", false), ("InvalidBox", false), ("InvalidCounts", true), ("InUse", false), ("Broken", false), ("TooMuchIron", false), ("NotAhead", false), ("SameDip", false), ("NoneFits", false), ("NothingToUndo", false)]))) (T.free 28) (T.glo 54) (e_var 0)) (l_cons (e_isV (fun _ => rfl) (IsX.of (glX T) (T.isA 51 (y := "InUse") (tbl := [("CompassError", false), ("InvalidFraction", false), ("InvalidNumber", false), ("InvalidIndex", false), ("InvalidSurd", false), ("InvalidHeading", false), ("InvalidCourse", false), ("InvalidWave", false), ("InvalidIron", false), ("InvalidPiece", false), ("InvalidPlace", false), ("InvalidFive", false), ("InvalidForce", false), ("InvalidReading", false), ("InvalidName", false), ("InvalidWish", false), ("InvalidPhrase", false), ("UnknownName", false), ("NotAWorkshop", false), ("HighBelowLow", false), ("InvalidReadings", false), ("InvalidSea", false), ("InvalidBox", false), ("InvalidCounts", false), ("InUse", true), ("Broken", false), ("TooMuchIron", false), ("NotAhead", false), ("SameDip", false), ("NoneFits", false), ("NothingToUndo", false)]))) (T.free 28) (T.glo 52) (e_var 0)) (l_nil)))) (len_cons (len_cons (len_cons len_nil))))))) (b_cons (s_set 1 Fi.nd (e_bin op_addA add_d (e_var 1) (e_new (n_lst (l_cons (e_isV (fun _ => rfl) (IsX.of (glX T) (T.isA 61 (y := "Broken") (tbl := [("CompassError", false), ("InvalidFraction", false), ("InvalidNumber", false), ("InvalidIndex", false), ("InvalidSurd", false), ("InvalidHeading", false), ("InvalidCourse", false), ("InvalidWave", false), ("InvalidIron", false), ("InvalidPiece", false), ("InvalidPlace", false), ("InvalidFive", false), ("InvalidForce", false), ("InvalidReading", false), ("InvalidName", false), ("InvalidWish", false), ("InvalidPhrase", false), ("UnknownName", false), ("NotAWorkshop", false), ("HighBelowLow", false), ("InvalidReadings", false), ("InvalidSea", false), ("InvalidBox", false), ("InvalidCounts", false), ("InUse", false), ("Broken", true), ("TooMuchIron", false), ("NotAhead", false), ("SameDip", false), ("NoneFits", false), ("NothingToUndo", false)]))) (T.free 28) (T.glo 62) (e_var 0)) (l_cons (e_isV (fun _ => rfl) (IsX.of (glX T) (T.isA 59 (y := "TooMuchIron") (tbl := [("CompassError", false), ("InvalidFraction", false), ("InvalidNumber", false), ("InvalidIndex", false), ("InvalidSurd", false), ("InvalidHeading", false), ("InvalidCourse", false), ("InvalidWave", false), ("InvalidIron", false), ("InvalidPiece", false), ("InvalidPlace", false), ("InvalidFive", false), ("InvalidForce", false), ("InvalidReading", false), ("InvalidName", false), ("InvalidWish", false), ("InvalidPhrase", false), ("UnknownName", false), ("NotAWorkshop", false), ("HighBelowLow", false), ("InvalidReadings", false), ("InvalidSea", false), ("InvalidBox", false), ("InvalidCounts", false), ("InUse", false), ("Broken", false), ("TooMuchIron", true), ("NotAhead", false), ("SameDip", false), ("NoneFits", false), ("NothingToUndo", false)]))) (T.free 28) (T.glo 60) (e_var 0)) (l_cons (e_isV (fun _ => rfl) (IsX.of (glX T) (T.isA 57 (y := "NotAhead") (tbl := [("CompassError", false), ("InvalidFraction", false), ("InvalidNumber", false), ("InvalidIndex", false), ("InvalidSurd", false), ("InvalidHeading", false), ("InvalidCourse", false), ("InvalidWave", false), ("InvalidIron", false), ("InvalidPiece", false), ("InvalidPlace", false), ("InvalidFive", false), ("InvalidForce", false), ("InvalidReading", false), ("InvalidName", false), ("InvalidWish", false), ("InvalidPhrase", false), ("UnknownName", false), ("NotAWorkshop", false), ("HighBelowLow", false), ("InvalidReadings", false), ("InvalidSea", false), ("InvalidBox", false), ("InvalidCounts", false), ("InUse", false), ("Broken", false), ("TooMuchIron", false), ("NotAhead", true), ("SameDip", false), ("NoneFits", false), ("NothingToUndo", false)]))) (T.free 28) (T.glo 58) (e_var 0)) (l_nil)))) (len_cons (len_cons (len_cons len_nil))))))) (b_one (s_ret (e_bin op_addA add_d (e_var 1) (e_new (n_lst (l_cons (e_isV (fun _ => rfl) (IsX.of (glX T) (T.isA 67 (y := "SameDip") (tbl := [("CompassError", false), ("InvalidFraction", false), ("InvalidNumber", false), ("InvalidIndex", false), ("InvalidSurd", false), ("InvalidHeading", false), ("InvalidCourse", false), ("InvalidWave", false), ("InvalidIron", false), ("InvalidPiece", false), ("InvalidPlace", false), ("InvalidFive", false), ("InvalidForce", false), ("InvalidReading", false), ("InvalidName", false), ("InvalidWish", false), ("InvalidPhrase", false), ("UnknownName", false), ("NotAWorkshop", false), ("HighBelowLow", false), ("InvalidReadings", false), ("InvalidSea", false), ("InvalidBox", false), ("InvalidCounts", false), ("InUse", false), ("Broken", false), ("TooMuchIron", false), ("NotAhead", false), ("SameDip", true), ("NoneFits", false), ("NothingToUndo", false)]))) (T.free 28) (T.glo 68) (e_var 0)) (l_cons (e_isV (fun _ => rfl) (IsX.of (glX T) (T.isA 65 (y := "NoneFits") (tbl := [("CompassError", false), ("InvalidFraction", false), ("InvalidNumber", false), ("InvalidIndex", false), ("InvalidSurd", false), ("InvalidHeading", false), ("InvalidCourse", false), ("InvalidWave", false), ("InvalidIron", false), ("InvalidPiece", false), ("InvalidPlace", false), ("InvalidFive", false), ("InvalidForce", false), ("InvalidReading", false), ("InvalidName", false), ("InvalidWish", false), ("InvalidPhrase", false), ("UnknownName", false), ("NotAWorkshop", false), ("HighBelowLow", false), ("InvalidReadings", false), ("InvalidSea", false), ("InvalidBox", false), ("InvalidCounts", false), ("InUse", false), ("Broken", false), ("TooMuchIron", false), ("NotAhead", false), ("SameDip", false), ("NoneFits", true), ("NothingToUndo", false)]))) (T.free 28) (T.glo 66) (e_var 0)) (l_cons (e_isV (fun _ => rfl) (IsX.of (glX T) (T.isA 63 (y := "NothingToUndo") (tbl := [("CompassError", false), ("InvalidFraction", false), ("InvalidNumber", false), ("InvalidIndex", false), ("InvalidSurd", false), ("InvalidHeading", false), ("InvalidCourse", false), ("InvalidWave", false), ("InvalidIron", false), ("InvalidPiece", false), ("InvalidPlace", false), ("InvalidFive", false), ("InvalidForce", false), ("InvalidReading", false), ("InvalidName", false), ("InvalidWish", false), ("InvalidPhrase", false), ("UnknownName", false), ("NotAWorkshop", false), ("HighBelowLow", false), ("InvalidReadings", false), ("InvalidSea", false), ("InvalidBox", false), ("InvalidCounts", false), ("InUse", false), ("Broken", false), ("TooMuchIron", false), ("NotAhead", false), ("SameDip", false), ("NoneFits", false), ("NothingToUndo", true)]))) (T.free 28) (T.glo 64) (e_var 0)) (l_nil)))) (len_cons (len_cons (len_cons len_nil))))))))))))))))
theorem ok__law_marks (T : Tp P base K mg) : DefV P w K mg base "_law_marks" s__law_marks 35 ["_law_e"] m_law_marks := defV_mk T.sr (T.glo 69) (T.fd 23 (d := dd__law_marks)) sc__law_marks (fun _ _ _ _ _ _ us hl => match us, hl with | [_], _ => rfl) rfl (w__law_marks T)
theorem sc__law_stand : FnScope N__law_stand ["_law_errors", "_law_start"] (defScope s__law_stand) := ⟨rfl, rfl, rfl, by decide +kernel, rfl, by decide +kernel, by decide +kernel⟩
theorem w__law_stand (T : Tp P base K mg) : Walk P w K mg base "_law_stand" s__law_stand 35 N__law_stand [] m_law_standB := fun fa cdv A outer s H E Fi => b_cons (s_for Fi.hp rfl (i_range1 rfl (T.free 0) (l_cons (e_callB call_lenA len_d rfl (T.free 4) boot_len (l_cons (e_var 0) (l_nil))) (l_nil))) (g_name 2 Fi.nd) (b_cons (s_set 3 Fi.nd (e_callV (ok__law_marks T) Fi.hr Fi.hg Fi.tw rfl (l_cons (e_ix ix_A ix_d (e_var 0) (e_var 2) (by intro _ _; rfl)) (l_nil)))) (b_cons (s_if (t_cmp (op_neA Fi.un) ne_d (e_new (n_lc (n := 5) (fx' := [0, 1, 2, 3]) (own := [("_law_k", 4)]) rfl Fi.nd (i_range1 rfl (T.free 0) (l_cons (e_callB call_lenA len_d rfl (T.free 4) boot_len (l_cons (e_var 3) (l_nil))) (l_nil))) (⟨rfl, by decide +kernel, by decide +kernel, by decide +kernel, by decide +kernel⟩ : BlkOk N__law_stand (defScope s__law_stand) _ [("_law_k", 4)]) (fun _ _ _ _ _ => g_name 4 Fi.nd) (fun _ _ _ _ _ => if_one (t_val (e_ix ix_A ix_d (e_var 3) (e_var 4) (by intro _ _; rfl)))) (fun _ _ _ _ _ => e_var 4) (by decide))) (e_new (n_lst (l_cons (e_bin op_addA add_d (e_var 1) (e_var 2)) (l_nil)) (len_cons len_nil))) (nomark _)) (b_one (s_ret (e_bl))) (b_nil)) (b_cons (s_if (t_w (w_or (t_not (t_val (e_isV (fun _ => rfl) (IsX.of (glX T) (T.isA 72 (y := "CompassError") (tbl := [("CompassError", true), ("InvalidFraction", true), ("InvalidNumber", true), ("InvalidIndex", true), ("InvalidSurd", true), ("InvalidHeading", true), ("InvalidCourse", true), ("InvalidWave", true), ("InvalidIron", true), ("InvalidPiece", true), ("InvalidPlace", true), ("InvalidFive", true), ("InvalidForce", true), ("InvalidReading", true), ("InvalidName", true), ("InvalidWish", true), ("InvalidPhrase", true), ("UnknownName", true), ("NotAWorkshop", true), ("HighBelowLow", true), ("InvalidReadings", true), ("InvalidSea", true), ("InvalidBox", true), ("InvalidCounts", true), ("InUse", true), ("Broken", true), ("TooMuchIron", true), ("NotAhead", true), ("SameDip", true), ("NoneFits", true), ("NothingToUndo", true)]))) (T.free 28) (T.glo 73) (e_ix ix_A ix_d (e_var 0) (e_var 2) (by intro _ _; rfl))))) (w_or1 (t_not (t_val (e_isVT (fun _ => rfl) (IsX.of (glX T) (T.isAT 70 (t := "ValueError") (tbl := [("CompassError", true), ("InvalidFraction", true), ("InvalidNumber", true), ("InvalidIndex", true), ("InvalidSurd", true), ("InvalidHeading", true), ("InvalidCourse", true), ("InvalidWave", true), ("InvalidIron", true), ("InvalidPiece", true), ("InvalidPlace", true), ("InvalidFive", true), ("InvalidForce", true), ("InvalidReading", true), ("InvalidName", true), ("InvalidWish", true), ("InvalidPhrase", true), ("UnknownName", true), ("NotAWorkshop", true), ("HighBelowLow", true), ("InvalidReadings", true), ("InvalidSea", true), ("InvalidBox", true), ("InvalidCounts", true), ("InUse", true), ("Broken", true), ("TooMuchIron", true), ("NotAhead", true), ("SameDip", true), ("NoneFits", true), ("NothingToUndo", true)]))) (T.free 28) (T.free 71) (by rfl) (e_ix ix_A ix_d (e_var 0) (e_var 2) (by intro _ _; rfl)))))))) (b_one (s_ret (e_bl))) (b_nil)) (b_cons (s_if (t_w (w_or (t_val (e_isVT (fun _ => rfl) (IsX.of (glX T) (T.isAT 76 (t := "LookupError") (tbl := [("CompassError", false), ("InvalidFraction", false), ("InvalidNumber", false), ("InvalidIndex", false), ("InvalidSurd", false), ("InvalidHeading", false), ("InvalidCourse", false), ("InvalidWave", false), ("InvalidIron", false), ("InvalidPiece", false), ("InvalidPlace", false), ("InvalidFive", false), ("InvalidForce", false), ("InvalidReading", false), ("InvalidName", false), ("InvalidWish", false), ("InvalidPhrase", false), ("UnknownName", false), ("NotAWorkshop", false), ("HighBelowLow", false), ("InvalidReadings", false), ("InvalidSea", false), ("InvalidBox", false), ("InvalidCounts", false), ("InUse", false), ("Broken", false), ("TooMuchIron", false), ("NotAhead", false), ("SameDip", false), ("NoneFits", false), ("NothingToUndo", false)]))) (T.free 28) (T.free 77) (by rfl) (e_ix ix_A ix_d (e_var 0) (e_var 2) (by intro _ _; rfl)))) (w_or1 (t_val (e_isVT (fun _ => rfl) (IsX.of (glX T) (T.isAT 74 (t := "ArithmeticError") (tbl := [("CompassError", false), ("InvalidFraction", false), ("InvalidNumber", false), ("InvalidIndex", false), ("InvalidSurd", false), ("InvalidHeading", false), ("InvalidCourse", false), ("InvalidWave", false), ("InvalidIron", false), ("InvalidPiece", false), ("InvalidPlace", false), ("InvalidFive", false), ("InvalidForce", false), ("InvalidReading", false), ("InvalidName", false), ("InvalidWish", false), ("InvalidPhrase", false), ("UnknownName", false), ("NotAWorkshop", false), ("HighBelowLow", false), ("InvalidReadings", false), ("InvalidSea", false), ("InvalidBox", false), ("InvalidCounts", false), ("InUse", false), ("Broken", false), ("TooMuchIron", false), ("NotAhead", false), ("SameDip", false), ("NoneFits", false), ("NothingToUndo", false)]))) (T.free 28) (T.free 75) (by rfl) (e_ix ix_A ix_d (e_var 0) (e_var 2) (by intro _ _; rfl))))))) (b_one (s_ret (e_bl))) (b_nil)) (b_one (s_if (t_w (w_or (t_val (e_isVT (fun _ => rfl) (IsX.of (glX T) (T.isAT 80 (t := "TypeError") (tbl := [("CompassError", false), ("InvalidFraction", false), ("InvalidNumber", false), ("InvalidIndex", false), ("InvalidSurd", false), ("InvalidHeading", false), ("InvalidCourse", false), ("InvalidWave", false), ("InvalidIron", false), ("InvalidPiece", false), ("InvalidPlace", false), ("InvalidFive", false), ("InvalidForce", false), ("InvalidReading", false), ("InvalidName", false), ("InvalidWish", false), ("InvalidPhrase", false), ("UnknownName", false), ("NotAWorkshop", false), ("HighBelowLow", false), ("InvalidReadings", false), ("InvalidSea", false), ("InvalidBox", false), ("InvalidCounts", false), ("InUse", false), ("Broken", false), ("TooMuchIron", false), ("NotAhead", false), ("SameDip", false), ("NoneFits", false), ("NothingToUndo", false)]))) (T.free 28) (T.free 81) (by rfl) (e_ix ix_A ix_d (e_var 0) (e_var 2) (by intro _ _; rfl)))) (w_or1 (t_val (e_isVT (fun _ => rfl) (IsX.of (glX T) (T.isAT 78 (t := "RuntimeError") (tbl := [("CompassError", false), ("InvalidFraction", false), ("InvalidNumber", false), ("InvalidIndex", false), ("InvalidSurd", false), ("InvalidHeading", false), ("InvalidCourse", false), ("InvalidWave", false), ("InvalidIron", false), ("InvalidPiece", false), ("InvalidPlace", false), ("InvalidFive", false), ("InvalidForce", false), ("InvalidReading", false), ("InvalidName", false), ("InvalidWish", false), ("InvalidPhrase", false), ("UnknownName", false), ("NotAWorkshop", false), ("HighBelowLow", false), ("InvalidReadings", false), ("InvalidSea", false), ("InvalidBox", false), ("InvalidCounts", false), ("InUse", false), ("Broken", false), ("TooMuchIron", false), ("NotAhead", false), ("SameDip", false), ("NoneFits", false), ("NothingToUndo", false)]))) (T.free 28) (T.free 79) (by rfl) (e_ix ix_A ix_d (e_var 0) (e_var 2) (by intro _ _; rfl))))))) (b_one (s_ret (e_bl))) (b_nil)))))))) (b_one (s_ret (e_bl)))
theorem ok__law_stand (T : Tp P base K mg) : DefV P w K mg base "_law_stand" s__law_stand 36 ["_law_errors", "_law_start"] m_law_stand := defV_mk T.sr (T.glo 82) (T.fd 24 (d := dd__law_stand)) sc__law_stand (fun _ _ _ _ _ _ us hl => match us, hl with | [_, _], _ => rfl) rfl (w__law_stand T)
theorem sc__law_indexed : FnScope N__law_indexed ["_law_thing"] (defScope s__law_indexed) := ⟨rfl, rfl, rfl, by decide +kernel, rfl, by decide +kernel, by decide +kernel⟩
theorem w__law_indexed (T : Tp P base K mg) : Walk P w K mg base "_law_indexed" s__law_indexed 34 N__law_indexed [] m_law_indexedB := fun fa cdv A outer s H E Fi => b_cons (s_set 1 Fi.nd (e_new (n_lst (l_cons (e_mkE True.intro Fi (gc_InvalidReadings T) (.inr rfl) (T.glo 49) (l_cons (e_var 0) (l_nil))) (l_cons (e_mkE True.intro Fi (gc_InvalidSea T) (.inr rfl) (T.glo 47) (l_cons (e_var 0) (l_nil))) (l_cons (e_mkE True.intro Fi (gc_InvalidBox T) (.inr rfl) (T.glo 56) (l_cons (e_var 0) (l_nil))) (l_cons (e_mkE True.intro Fi (gc_InvalidCounts T) (.inr rfl) (T.glo 54) (l_cons (e_var 0) (l_nil))) (l_cons (e_mkE True.intro Fi (gc_InUse T) (.inr rfl) (T.glo 52) (l_cons (e_var 0) (l_nil))) (l_nil)))))) (len_cons (len_cons (len_cons (len_cons (len_cons len_nil)))))))) (b_cons (s_set 2 Fi.nd (e_new (n_lst (l_cons (e_mkEk True.intro Fi (gc_InvalidReadings T) (.inr rfl) (T.glo 49) (k_cons (e_var 0) (k_nil))) (l_cons (e_mkEk True.intro Fi (gc_InvalidSea T) (.inr rfl) (T.glo 47) (k_cons (e_var 0) (k_nil))) (l_cons (e_mkEk True.intro Fi (gc_InvalidBox T) (.inr rfl) (T.glo 56) (k_cons (e_var 0) (k_nil))) (l_nil)))) (len_cons (len_cons (len_cons len_nil)))))) (b_one (s_ret (e_new (n_lst (l_cons (e_bin op_addA add_d (e_var 1) (e_new (n_lst (l_cons (e_mkE True.intro Fi (gc_Broken T) (.inr rfl) (T.glo 62) (l_cons (e_var 0) (l_nil))) (l_nil)) (len_cons len_nil)))) (l_cons (e_bin op_addA add_d (e_var 2) (e_new (n_lst (l_cons (e_mkEk True.intro Fi (gc_InvalidCounts T) (.inr rfl) (T.glo 54) (k_cons (e_var 0) (k_nil))) (l_cons (e_mkEk True.intro Fi (gc_InUse T) (.inr rfl) (T.glo 52) (k_cons (e_var 0) (k_nil))) (l_cons (e_mkEk True.intro Fi (gc_Broken T) (.inr rfl) (T.glo 62) (k_cons (e_var 0) (k_nil))) (l_nil)))) (len_cons (len_cons (len_cons len_nil)))))) (l_nil))) (len_cons (len_cons len_nil)))))))
theorem ok__law_indexed (T : Tp P base K mg) : DefV P w K mg base "_law_indexed" s__law_indexed 35 ["_law_thing"] m_law_indexed := defV_mk T.sr (T.glo 122) (T.fd 31 (d := dd__law_indexed)) sc__law_indexed (fun _ _ _ _ _ _ us hl => match us, hl with | [_], _ => rfl) rfl (w__law_indexed T)
theorem sc__law_right : FnScope N__law_right ["_law_lode_here"] (defScope s__law_right) := ⟨rfl, rfl, rfl, by decide +kernel, rfl, by decide +kernel, by decide +kernel⟩
theorem w__law_right (T : Tp P base K mg) : Walk P w K mg base "_law_right" s__law_right 36 N__law_right [0] m_law_right_v80B := fun fa cdv A outer s H E Fi => b_cons (s_set 1 Fi.nd (e_new (n_lst (l_cons (e_non) (l_cons (e_bl) (l_cons (e_un un_neg neg_d (e_int)) (l_cons (e_str) (l_cons (e_str) (l_cons (e_tup (l_nil) len_nil) (l_cons (e_tup (l_cons (e_int) (l_cons (e_int) (l_cons (e_un un_neg neg_d (e_int)) (l_nil)))) (len_cons (len_cons (len_cons len_nil)))) (l_cons (e_new (n_lst (l_nil) len_nil)) (l_cons (e_new (n_lst (l_cons (e_int) (l_cons (e_new (n_lst (l_cons (e_int) (l_nil)) (len_cons len_nil))) (l_nil))) (len_cons (len_cons len_nil)))) (l_cons (e_dict1) (l_cons (e_tup (l_cons (e_tup (l_cons (e_int) (l_cons (e_int) (l_nil))) (len_cons (len_cons len_nil))) (l_cons (e_non) (l_nil))) (len_cons (len_cons len_nil))) (l_nil)))))))))))) (len_cons (len_cons (len_cons (len_cons (len_cons (len_cons (len_cons (len_cons (len_cons (len_cons (len_cons len_nil)))))))))))))) (b_cons (s_asg (e_tup (l_cons (e_callO 0 (ok__law_some T) Fi.hr Fi.hg Fi.tw rfl (pv 0) (l_cons (e_bin op_addA add_d (e_var 1) (e_new (n_lst (l_cons (e_callO 0 (ok__law_about T) Fi.hr Fi.hg Fi.tw rfl (pv 0) (l_cons (e_bin op_pow pow_d (e_int) (e_int)) (l_nil))) (l_nil)) (len_cons len_nil)))) (l_nil))) (l_cons (e_callO 0 (ok__law_some T) Fi.hr Fi.hg Fi.tw rfl (pv 0) (l_cons (e_var 1) (l_nil))) (l_nil))) (len_cons (len_cons len_nil))) (g_tup rfl (gs_cons (g_name 3 Fi.nd) (gs_cons (g_name 4 Fi.nd) (gs_nil))) (hg := gn_cons (gN_noer _) (gn_cons (gN_noer _) (gn_nil))))) (b_cons (s_for Fi.hp rfl (i_seq (e_callV (ok__law_given T) Fi.hr Fi.hg Fi.tw rfl (l_cons (e_var 3) (l_nil)))) (g_name 2 Fi.nd) (b_one (s_if (t_w (w_or (t_cmp (op_neX Fi.un) neL_d (e_new (n_lc (n := 8) (fx' := [0, 1, 2, 3, 4, 5, 6]) (own := [("_law_e", 7)]) rfl Fi.nd (i_seq (e_var 2)) (⟨rfl, by decide +kernel, by decide +kernel, by decide +kernel, by decide +kernel⟩ : BlkOk N__law_right (defScope s__law_right) _ [("_law_e", 7)]) (fun _ _ _ _ _ => g_name 7 Fi.nd) (fun _ _ _ _ _ => if_one (t_cmp (op_neA Fi.un) ne_d (e_callB (call_reprY Fi.unX Fi.hg) reprY_d rfl (T.free 121) boot_repr (l_cons (e_xfV (cs := ["InvalidFraction", "InvalidNumber", "InvalidIndex", "InvalidSurd", "InvalidHeading", "InvalidCourse", "InvalidWave", "InvalidIron", "InvalidPiece", "InvalidPlace", "InvalidFive", "InvalidForce", "InvalidReading", "InvalidName", "InvalidWish", "InvalidPhrase", "UnknownName", "NotAWorkshop", "HighBelowLow"]) (fun _ => rfl) (xfX_cons (T.glo 10) (T.isE 83 (x := "InvalidFraction") (y := "InvalidFraction")) (He.noat_ok (T.fa 84 (f := .noat "InvalidFraction" "given"))) (xfX_cons (T.glo 9) (T.isE 85 (x := "InvalidNumber") (y := "InvalidNumber")) (He.noat_ok (T.fa 86 (f := .noat "InvalidNumber" "given"))) (xfX_cons (T.glo 8) (T.isE 87 (x := "InvalidIndex") (y := "InvalidIndex")) (He.noat_ok (T.fa 88 (f := .noat "InvalidIndex" "given"))) (xfX_cons (T.glo 7) (T.isE 89 (x := "InvalidSurd") (y := "InvalidSurd")) (He.noat_ok (T.fa 90 (f := .noat "InvalidSurd" "given"))) (xfX_cons (T.glo 14) (T.isE 91 (x := "InvalidHeading") (y := "InvalidHeading")) (He.noat_ok (T.fa 92 (f := .noat "InvalidHeading" "given"))) (xfX_cons (T.glo 13) (T.isE 93 (x := "InvalidCourse") (y := "InvalidCourse")) (He.noat_ok (T.fa 94 (f := .noat "InvalidCourse" "given"))) (xfX_cons (T.glo 12) (T.isE 95 (x := "InvalidWave") (y := "InvalidWave")) (He.noat_ok (T.fa 96 (f := .noat "InvalidWave" "given"))) (xfX_cons (T.glo 11) (T.isE 97 (x := "InvalidIron") (y := "InvalidIron")) (He.noat_ok (T.fa 98 (f := .noat "InvalidIron" "given"))) (xfX_cons (T.glo 18) (T.isE 99 (x := "InvalidPiece") (y := "InvalidPiece")) (He.noat_ok (T.fa 100 (f := .noat "InvalidPiece" "given"))) (xfX_cons (T.glo 17) (T.isE 101 (x := "InvalidPlace") (y := "InvalidPlace")) (He.noat_ok (T.fa 102 (f := .noat "InvalidPlace" "given"))) (xfX_cons (T.glo 16) (T.isE 103 (x := "InvalidFive") (y := "InvalidFive")) (He.noat_ok (T.fa 104 (f := .noat "InvalidFive" "given"))) (xfX_cons (T.glo 15) (T.isE 105 (x := "InvalidForce") (y := "InvalidForce")) (He.noat_ok (T.fa 106 (f := .noat "InvalidForce" "given"))) (xfX_cons (T.glo 22) (T.isE 107 (x := "InvalidReading") (y := "InvalidReading")) (He.noat_ok (T.fa 108 (f := .noat "InvalidReading" "given"))) (xfX_cons (T.glo 21) (T.isE 109 (x := "InvalidName") (y := "InvalidName")) (He.noat_ok (T.fa 110 (f := .noat "InvalidName" "given"))) (xfX_cons (T.glo 20) (T.isE 111 (x := "InvalidWish") (y := "InvalidWish")) (He.noat_ok (T.fa 112 (f := .noat "InvalidWish" "given"))) (xfX_cons (T.glo 19) (T.isE 113 (x := "InvalidPhrase") (y := "InvalidPhrase")) (He.noat_ok (T.fa 114 (f := .noat "InvalidPhrase" "given"))) (xfX_cons (T.glo 25) (T.isE 115 (x := "UnknownName") (y := "UnknownName")) (He.noat_ok (T.fa 116 (f := .noat "UnknownName" "given"))) (xfX_cons (T.glo 24) (T.isE 117 (x := "NotAWorkshop") (y := "NotAWorkshop")) (He.noat_ok (T.fa 118 (f := .noat "NotAWorkshop" "given"))) (xfX_cons (T.glo 23) (T.isE 119 (x := "HighBelowLow") (y := "HighBelowLow")) (He.noat_ok (T.fa 120 (f := .noat "HighBelowLow" "given"))) xfX_nil))))))))))))))))))) (e_var 7)) (l_nil))) (e_callB (call_reprY Fi.unX Fi.hg) reprY_d rfl (T.free 121) boot_repr (l_cons (e_var 3) (l_nil))) (nomark _))) (fun _ _ _ _ _ => e_xfV (cs := ["InvalidFraction", "InvalidNumber", "InvalidIndex", "InvalidSurd", "InvalidHeading", "InvalidCourse", "InvalidWave", "InvalidIron", "InvalidPiece", "InvalidPlace", "InvalidFive", "InvalidForce", "InvalidReading", "InvalidName", "InvalidWish", "InvalidPhrase", "UnknownName", "NotAWorkshop", "HighBelowLow"]) (fun _ => rfl) (xfX_cons (T.glo 10) (T.isE 83 (x := "InvalidFraction") (y := "InvalidFraction")) (He.noat_ok (T.fa 84 (f := .noat "InvalidFraction" "given"))) (xfX_cons (T.glo 9) (T.isE 85 (x := "InvalidNumber") (y := "InvalidNumber")) (He.noat_ok (T.fa 86 (f := .noat "InvalidNumber" "given"))) (xfX_cons (T.glo 8) (T.isE 87 (x := "InvalidIndex") (y := "InvalidIndex")) (He.noat_ok (T.fa 88 (f := .noat "InvalidIndex" "given"))) (xfX_cons (T.glo 7) (T.isE 89 (x := "InvalidSurd") (y := "InvalidSurd")) (He.noat_ok (T.fa 90 (f := .noat "InvalidSurd" "given"))) (xfX_cons (T.glo 14) (T.isE 91 (x := "InvalidHeading") (y := "InvalidHeading")) (He.noat_ok (T.fa 92 (f := .noat "InvalidHeading" "given"))) (xfX_cons (T.glo 13) (T.isE 93 (x := "InvalidCourse") (y := "InvalidCourse")) (He.noat_ok (T.fa 94 (f := .noat "InvalidCourse" "given"))) (xfX_cons (T.glo 12) (T.isE 95 (x := "InvalidWave") (y := "InvalidWave")) (He.noat_ok (T.fa 96 (f := .noat "InvalidWave" "given"))) (xfX_cons (T.glo 11) (T.isE 97 (x := "InvalidIron") (y := "InvalidIron")) (He.noat_ok (T.fa 98 (f := .noat "InvalidIron" "given"))) (xfX_cons (T.glo 18) (T.isE 99 (x := "InvalidPiece") (y := "InvalidPiece")) (He.noat_ok (T.fa 100 (f := .noat "InvalidPiece" "given"))) (xfX_cons (T.glo 17) (T.isE 101 (x := "InvalidPlace") (y := "InvalidPlace")) (He.noat_ok (T.fa 102 (f := .noat "InvalidPlace" "given"))) (xfX_cons (T.glo 16) (T.isE 103 (x := "InvalidFive") (y := "InvalidFive")) (He.noat_ok (T.fa 104 (f := .noat "InvalidFive" "given"))) (xfX_cons (T.glo 15) (T.isE 105 (x := "InvalidForce") (y := "InvalidForce")) (He.noat_ok (T.fa 106 (f := .noat "InvalidForce" "given"))) (xfX_cons (T.glo 22) (T.isE 107 (x := "InvalidReading") (y := "InvalidReading")) (He.noat_ok (T.fa 108 (f := .noat "InvalidReading" "given"))) (xfX_cons (T.glo 21) (T.isE 109 (x := "InvalidName") (y := "InvalidName")) (He.noat_ok (T.fa 110 (f := .noat "InvalidName" "given"))) (xfX_cons (T.glo 20) (T.isE 111 (x := "InvalidWish") (y := "InvalidWish")) (He.noat_ok (T.fa 112 (f := .noat "InvalidWish" "given"))) (xfX_cons (T.glo 19) (T.isE 113 (x := "InvalidPhrase") (y := "InvalidPhrase")) (He.noat_ok (T.fa 114 (f := .noat "InvalidPhrase" "given"))) (xfX_cons (T.glo 25) (T.isE 115 (x := "UnknownName") (y := "UnknownName")) (He.noat_ok (T.fa 116 (f := .noat "UnknownName" "given"))) (xfX_cons (T.glo 24) (T.isE 117 (x := "NotAWorkshop") (y := "NotAWorkshop")) (He.noat_ok (T.fa 118 (f := .noat "NotAWorkshop" "given"))) (xfX_cons (T.glo 23) (T.isE 119 (x := "HighBelowLow") (y := "HighBelowLow")) (He.noat_ok (T.fa 120 (f := .noat "HighBelowLow" "given"))) xfX_nil))))))))))))))))))) (e_var 7)) (by decide))) (e_new (n_lst (l_nil) len_nil)) (nomark _)) (w_or1 (t_not (t_val (e_callV (ok__law_stand T) Fi.hr Fi.hg Fi.tw rfl (l_cons (e_var 2) (l_cons (e_int) (l_nil))))))))) (b_one (s_ret (e_bl))) (b_nil)))) (b_cons (s_for Fi.hp rfl (i_seq (e_callV (ok__law_indexed T) Fi.hr Fi.hg Fi.tw rfl (l_cons (e_var 4) (l_nil)))) (g_name 2 Fi.nd) (b_one (s_if (t_w (w_or (t_cmp (op_neX Fi.un) neL_d (e_new (n_lc (n := 8) (fx' := [0, 1, 2, 3, 4, 5, 6]) (own := [("_law_e", 7)]) rfl Fi.nd (i_seq (e_var 2)) (⟨rfl, by decide +kernel, by decide +kernel, by decide +kernel, by decide +kernel⟩ : BlkOk N__law_right (defScope s__law_right) _ [("_law_e", 7)]) (fun _ _ _ _ _ => g_name 7 Fi.nd) (fun _ _ _ _ _ => if_one (t_cmp (op_neA Fi.un) ne_d (e_callB (call_reprY Fi.unX Fi.hg) reprY_d rfl (T.free 121) boot_repr (l_cons (e_xfV (cs := ["InvalidReadings", "InvalidSea", "InvalidBox", "InvalidCounts", "InUse", "Broken"]) (fun _ => rfl) (xfX_cons (T.glo 49) (T.isE 123 (x := "InvalidReadings") (y := "InvalidReadings")) (He.noat_ok (T.fa 124 (f := .noat "InvalidReadings" "index"))) (xfX_cons (T.glo 47) (T.isE 125 (x := "InvalidSea") (y := "InvalidSea")) (He.noat_ok (T.fa 126 (f := .noat "InvalidSea" "index"))) (xfX_cons (T.glo 56) (T.isE 127 (x := "InvalidBox") (y := "InvalidBox")) (He.noat_ok (T.fa 128 (f := .noat "InvalidBox" "index"))) (xfX_cons (T.glo 54) (T.isE 129 (x := "InvalidCounts") (y := "InvalidCounts")) (He.noat_ok (T.fa 130 (f := .noat "InvalidCounts" "index"))) (xfX_cons (T.glo 52) (T.isE 131 (x := "InUse") (y := "InUse")) (He.noat_ok (T.fa 132 (f := .noat "InUse" "index"))) (xfX_cons (T.glo 62) (T.isE 133 (x := "Broken") (y := "Broken")) (He.noat_ok (T.fa 134 (f := .noat "Broken" "index"))) xfX_nil)))))) (e_var 7)) (l_nil))) (e_callB (call_reprY Fi.unX Fi.hg) reprY_d rfl (T.free 121) boot_repr (l_cons (e_var 4) (l_nil))) (nomark _))) (fun _ _ _ _ _ => e_xfV (cs := ["InvalidReadings", "InvalidSea", "InvalidBox", "InvalidCounts", "InUse", "Broken"]) (fun _ => rfl) (xfX_cons (T.glo 49) (T.isE 123 (x := "InvalidReadings") (y := "InvalidReadings")) (He.noat_ok (T.fa 124 (f := .noat "InvalidReadings" "index"))) (xfX_cons (T.glo 47) (T.isE 125 (x := "InvalidSea") (y := "InvalidSea")) (He.noat_ok (T.fa 126 (f := .noat "InvalidSea" "index"))) (xfX_cons (T.glo 56) (T.isE 127 (x := "InvalidBox") (y := "InvalidBox")) (He.noat_ok (T.fa 128 (f := .noat "InvalidBox" "index"))) (xfX_cons (T.glo 54) (T.isE 129 (x := "InvalidCounts") (y := "InvalidCounts")) (He.noat_ok (T.fa 130 (f := .noat "InvalidCounts" "index"))) (xfX_cons (T.glo 52) (T.isE 131 (x := "InUse") (y := "InUse")) (He.noat_ok (T.fa 132 (f := .noat "InUse" "index"))) (xfX_cons (T.glo 62) (T.isE 133 (x := "Broken") (y := "Broken")) (He.noat_ok (T.fa 134 (f := .noat "Broken" "index"))) xfX_nil)))))) (e_var 7)) (by decide))) (e_new (n_lst (l_nil) len_nil)) (nomark _)) (w_or1 (t_not (t_val (e_callV (ok__law_stand T) Fi.hr Fi.hg Fi.tw rfl (l_cons (e_var 2) (l_cons (e_int) (l_nil))))))))) (b_one (s_ret (e_bl))) (b_nil)))) (b_cons (s_par 5 6 rfl Fi.nd (l_cons (e_mkE0 True.intro (errC_of (T.fa 140 (f := .exc "CompassError"))) (T.glo 73)) (l_cons (e_new (n_lst (l_cons (e_mkE0 True.intro (errC_of (T.fa 139 (f := .exc "TooMuchIron"))) (T.glo 60)) (l_cons (e_mkE0 True.intro (errC_of (T.fa 138 (f := .exc "NotAhead"))) (T.glo 58)) (l_cons (e_mkE0 True.intro (errC_of (T.fa 137 (f := .exc "SameDip"))) (T.glo 68)) (l_cons (e_mkE0 True.intro (errC_of (T.fa 136 (f := .exc "NoneFits"))) (T.glo 66)) (l_cons (e_mkE0 True.intro (errC_of (T.fa 135 (f := .exc "NothingToUndo"))) (T.glo 64)) (l_nil)))))) (len_cons (len_cons (len_cons (len_cons (len_cons len_nil))))))) (l_nil)))) (b_cons (s_if (t_w (w_or (t_not (t_val (e_callV (ok__law_stand T) Fi.hr Fi.hg Fi.tw rfl (l_cons (e_var 6) (l_cons (e_int) (l_nil)))))) (w_or1 (t_cmp op_in_seq in_d (e_bl) (e_callV (ok__law_marks T) Fi.hr Fi.hg Fi.tw rfl (l_cons (e_var 5) (l_nil))) (by rfl))))) (b_one (s_ret (e_bl))) (b_nil)) (b_one (s_ret (e_and (e_isVT (fun _ => rfl) (IsX.of (glX T) (T.isAT 70 (t := "ValueError") (tbl := [("CompassError", true), ("InvalidFraction", true), ("InvalidNumber", true), ("InvalidIndex", true), ("InvalidSurd", true), ("InvalidHeading", true), ("InvalidCourse", true), ("InvalidWave", true), ("InvalidIron", true), ("InvalidPiece", true), ("InvalidPlace", true), ("InvalidFive", true), ("InvalidForce", true), ("InvalidReading", true), ("InvalidName", true), ("InvalidWish", true), ("InvalidPhrase", true), ("UnknownName", true), ("NotAWorkshop", true), ("HighBelowLow", true), ("InvalidReadings", true), ("InvalidSea", true), ("InvalidBox", true), ("InvalidCounts", true), ("InUse", true), ("Broken", true), ("TooMuchIron", true), ("NotAhead", true), ("SameDip", true), ("NoneFits", true), ("NothingToUndo", true)]))) (T.free 28) (T.free 71) (by rfl) (e_var 5)) (e_one (e_not (e_isVT (fun _ => rfl) (IsX.of (glX T) (T.isAT 76 (t := "LookupError") (tbl := [("CompassError", false), ("InvalidFraction", false), ("InvalidNumber", false), ("InvalidIndex", false), ("InvalidSurd", false), ("InvalidHeading", false), ("InvalidCourse", false), ("InvalidWave", false), ("InvalidIron", false), ("InvalidPiece", false), ("InvalidPlace", false), ("InvalidFive", false), ("InvalidForce", false), ("InvalidReading", false), ("InvalidName", false), ("InvalidWish", false), ("InvalidPhrase", false), ("UnknownName", false), ("NotAWorkshop", false), ("HighBelowLow", false), ("InvalidReadings", false), ("InvalidSea", false), ("InvalidBox", false), ("InvalidCounts", false), ("InUse", false), ("Broken", false), ("TooMuchIron", false), ("NotAhead", false), ("SameDip", false), ("NoneFits", false), ("NothingToUndo", false)]))) (T.free 28) (T.free 77) (by rfl) (e_var 5))))))))))))
theorem ok__law_right (T : Tp P base K mg) : DefV P w K mg base "_law_right" s__law_right 37 ["_law_lode_here"] m_law_right_v80 := defV_mk T.sr (T.glo 141) (T.fd 32 (d := dd__law_right)) sc__law_right (fun _ _ _ _ _ _ us hl => match us, hl with | [_], _ => rfl) rfl (w__law_right T)
theorem sc__law_lode : FnScope N__law_lode ["_law_script", "_law_lap"] (defScope s__law_lode) := ⟨rfl, rfl, rfl, by decide +kernel, rfl, by decide +kernel, by decide +kernel⟩
theorem wN__law_lode (T : Tp P base K mg) : Walk P w K mg base "_law_lode" s__law_lode 34 N__law_lode [] mN_law_lodeB := fun fa cdv A outer s H E Fi => b_cons (s_set 2 Fi.nd (e_if (t_cmp op_lt lt_d (e_var 1) (e_callB call_lenA len_d rfl (T.free 4) boot_len (l_cons (e_var 0) (l_nil))) (nomark _)) (e_callTy call_int1 int_d rfl (T.free 2) boot_int (l_cons (e_ix ix_A ix_d (e_var 0) (e_var 1) (by intro _ _; rfl)) (l_nil))) (e_bin op_addA add_d (e_bin op_addA add_d (e_bin op_mulA mul_d (e_int) (e_var 1)) (e_int)) (e_bin op_modN mod_d (e_callTy call_int1 int_d rfl (T.free 2) boot_int (l_cons (e_callB (cr_sum rfl) sum_d rfl (T.free 142) boot_sum (l_cons (e_slice (e_var 0) (o_none) (o_some (e_int))) (l_nil))) (l_nil))) (e_int))))) (b_cons (s_set 3 Fi.nd (e_bin op_addA add_d (e_int) (e_bin op_mulA mul_d (e_int) (e_var 1)))) (b_cons (s_for Fi.hp rfl (i_seq (e_bin op_addA add_d (e_slice (e_var 0) (o_none) (o_some (e_int))) (e_new (n_lst (l_cons (e_var 2) (l_nil)) (len_cons len_nil))))) (g_name 4 Fi.nd) (b_one (s_set 3 Fi.nd (e_bin op_modN mod_d (e_callTy call_int1 int_d rfl (T.free 2) boot_int (l_cons (e_bin op_addA add_d (e_bin op_addA add_d (e_bin op_mulA mul_d (e_var 3) (e_int)) (e_bin op_modN mod_d (e_callTy call_int1 int_d rfl (T.free 2) boot_int (l_cons (e_var 4) (l_nil))) (e_int))) (e_int)) (l_nil))) (e_int))))) (b_one (s_retO (n_lst (l_cons (e_if (t_w (w_or (t_cmp op_lt lt_d (e_var 2) (e_int) (nomark _)) (w_or1 (t_cmp op_ge ge_d (e_var 2) (e_bin op_pow pow_d (e_int) (e_int)) (nomark _))))) (e_callB call_abs abs_d rfl (T.free 143) boot_abs (l_cons (e_var 2) (l_nil))) (e_int)) (l_cons (e_var 3) (l_cons (e_int) (l_nil)))) (len_cons (len_cons (len_cons len_nil))))))))
theorem okN__law_lode (T : Tp P base K mg) : DefL P w K mg base "_law_lode" s__law_lode 35 ["_law_script", "_law_lap"] mN_law_lode := defL_mk T.sr (T.glo 144) (T.fd 33 (d := dd__law_lode)) sc__law_lode (fun _ _ _ _ _ _ us hl => match us, hl with | [_, _], _ => rfl) rfl (wN__law_lode T)
theorem sc_law : FnScope N_law ["_law_script"] (defScope s_law) := ⟨rfl, rfl, rfl, by decide +kernel, rfl, by decide +kernel, by decide +kernel⟩
theorem w_law (T : Tp P base K mg) : Walk P w K mg base "law" s_law 37 N_law [] m_law_v80B := fun fa cdv A outer s H E Fi => b_one (s_ret (e_callB (cr_all rfl) all_d rfl (T.free 145) boot_all (l_cons (e_new (n_lc (n := 2) (fx' := [0]) (own := [("_law_lap", 1)]) rfl Fi.nd (i_range1 rfl (T.free 0) (l_cons (e_int) (l_nil))) (⟨rfl, by decide +kernel, by decide +kernel, by decide +kernel, by decide +kernel⟩ : BlkOk N_law (defScope s_law) _ [("_law_lap", 1)]) (fun _ _ _ _ _ => g_name 1 Fi.nd) (fun _ _ _ _ _ => if_nil) (fun _ _ _ _ _ => e_callN (ok__law_right T) Fi.hr Fi.hg takes0 rfl (n_callV (okN__law_lode T) Fi.hr Fi.hg takes0 rfl (l_cons (e_var 0) (l_cons (e_var 1) (l_nil))))) (by decide))) (l_nil))))
theorem ok_law (T : Tp P base K mg) : DefV P w K mg base "law" s_law 38 ["_law_script"] m_law_v80 := defV_mk T.sr (T.glo 146) (T.fd 34 (d := dd_law)) sc_law (fun _ _ _ _ _ _ us hl => match us, hl with | [_], _ => rfl) rfl (w_law T)
end PV
open PySem PySem.W PySem.Calls PyProof.Rows
set_option maxHeartbeats 0
theorem PySem.Challenge.cw_ironships_k01_errors_each_of_its_own_holds : PySem.Challenge.rw_ironships_k01_errors_each_of_its_own.Holds := by
  w_on; o_law
  refine HandSHeadRun.head_imp (r := OpenLaw.row PySem.Challenge.rw_ironships_k01_errors_each_of_its_own) (q := view (OpenLaw.row PySem.Challenge.rw_ironships_k01_errors_each_of_its_own).prog [42]) (H := HT.hk) (ob := HT.ob) (M := 20000) (loose := HT.names) (d := HandSHeadRun.topDef (OpenLaw.row PySem.Challenge.rw_ironships_k01_errors_each_of_its_own).prog 42) (kwd := []) HT.ob_eq
    HT.run (by kernel_rfl) (by kernel_rfl) (by kernel_rfl) (by rfl) (by first | assumption | decide +kernel) (by decide +kernel) ⟨rfl, rfl, rfl, rfl, rfl, by decide +kernel⟩ ?hw ?hc
  case hw => w_witness2
  case hc => exact PV.end_walkT (l := PySem.Challenge.rw_ironships_k01_errors_each_of_its_own) (n := 63) (k := 38) (x := "law") (y := "_law_script") (fs := PV.fs) (fn := PV.fn) (tf := PV.tf) (gv := PV.gv) (st := PV.s_law) (F := PV.m_law_v80) rfl (by decide) (by kernel_rfl) ⟨rfl, by decide, by decide⟩ (fun _ _ z => z) (by kernel_rfl) PB.good_k01 (fun w K mg h a b c base i1 i2 sr tb nd gv => PV.ok_law ⟨⟨⟨h, a, b, c⟩, sr⟩, tb, nd, gv⟩) (by kernel_rfl) rfl
