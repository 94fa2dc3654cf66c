import PyProof.Rows.All
import Wide.All
import OpenK.AllK
import Wide.FinOn
import HandS.ForMost
import HandS.ForExc
import KE.KeyNested
import HandS.Deep
import HandS.TupAny
import HandS.TupMul
import HandS.TupLe
import HandS.IsInst
import HandS.SetFor
import HandS.SortInts
import HandS.Style
import KE.KTupSum
import HandS.ExcIs
import HandS.ExcValue
import HandS.Strs
import PySem.Challenge.RW_liarbook_k52_whole_searched
set_option Elab.async false
set_option linter.all false
set_option autoImplicit false
set_option maxRecDepth 100000
set_option maxHeartbeats 4000000
/-! Lb0: a data layer over HandS. Values are data (D, by value, frozen) or addresses of mutable objects (MO in a store Mu). -/
namespace Lb
open PySem L2

/-! ### data -/
inductive D where
  | non
  | bl (b : Bool)
  | int (i : Int)
  | str (s : Str)
  | lst (xs : List D)
  | tup (xs : List D)

/-- the program's own exceptions -/
inductive Tag where
  | game | counts | question | liar | plan | text | row
  deriving DecidableEq
/-- the program's own classes -/
inductive CT where
  | game | worker | halver | denier | asker | foe | signs | desk
  deriving DecidableEq

inductive DV where
  | d (x : D)
  | r (a : Addr)
  | scr (ns : List Int)

inductive MO where
  | lst (xs : List D)
  | ins (c : CT) (fs : List (Str × DV))
  | exc (t : Tag)
  | tpl (es : List DV)
  | dic (kvs : List (D × D))

abbrev Mu := Addr → Option MO
abbrev DS := List (Option DV)

structure Ctx where
  K : PySem.W.Frag
  w : World
  le : Addr
  ex : Tag → Addr
  has : Tag → Bool
  cl : CT → Addr

def mset (m : Mu) (a : Addr) (o : MO) : Mu := fun b => if b = a then some o else m b
def mdel (m : Mu) (a : Addr) : Mu := fun b => if b = a then none else m b
theorem mset_same {m : Mu} {a : Addr} {o : MO} : mset m a o a = some o := if_pos rfl
theorem mset_ne {m : Mu} {a b : Addr} {o : MO} (h : b ≠ a) : mset m a o b = m b := if_neg h
theorem mdel_same {m : Mu} {a : Addr} : mdel m a a = none := if_pos rfl
theorem mdel_ne {m : Mu} {a b : Addr} (h : b ≠ a) : mdel m a b = m b := if_neg h
theorem mdel_mset {m : Mu} {a : Addr} {o : MO} (h : m a = none) : mdel (mset m a o) a = m := by
  funext b
  by_cases e : b = a
  · subst e; rw [mdel_same, h]
  · rw [mdel_ne e, mset_ne e]
theorem mset_mset {m : Mu} {a : Addr} {o u : MO} : mset (mset m a o) a u = mset m a u := by
  funext b; by_cases e : b = a
  · subst e; rw [mset_same, mset_same]
  · rw [mset_ne e, mset_ne e, mset_ne e]
theorem mdel_mset' {m : Mu} {a : Addr} {o : MO} : mdel (mset m a o) a = mdel m a := by
  funext b; by_cases e : b = a
  · subst e; rw [mdel_same, mdel_same]
  · rw [mdel_ne e, mdel_ne e, mset_ne e]

/-! ### heaps -/
def Ex (H H' : Hp) : Prop := ∀ a o, H a = some o → H' a = some o
theorem Ex.refl (H : Hp) : Ex H H := fun _ _ h => h
theorem Ex.trans {H H1 H2 : Hp} (a : Ex H H1) (b : Ex H1 H2) : Ex H H2 := fun x o h => b x o (a x o h)
def fz (H : Hp) (m : Mu) : Hp := fun a => match m a with
  | none => H a
  | some _ => none
theorem fz_none {H : Hp} {m : Mu} {a : Addr} (h : m a = none) : fz H m a = H a := by unfold fz; rw [h]
theorem fz_some {H : Hp} {m : Mu} {a : Addr} {x : MO} (h : m a = some x) : fz H m a = none := by unfold fz; rw [h]
theorem fz_inv {H : Hp} {m : Mu} {a : Addr} {o : HO} (h : fz H m a = some o) : H a = some o ∧ m a = none := by
  cases e : m a with
  | none => rw [fz_none e] at h; exact ⟨h, rfl⟩
  | some x => rw [fz_some e] at h; cases h
theorem fz_ex {H : Hp} {m : Mu} : Ex (fz H m) H := fun _ _ h => (fz_inv h).1

/-! ### what a value is -/
mutual
inductive Rp (F : Hp) : V → D → Prop
  | non : Rp F .non .non
  | bl (b : Bool) : Rp F (.bl b) (.bl b)
  | int (i : Int) : Rp F (.int i) (.int i)
  | str (x : Str) : Rp F (.str x) (.str x)
  | lst {a : Addr} {vs : List V} {xs : List D} : F a = some (.lst vs) → RpL F vs xs → Rp F (.ref a) (.lst xs)
  | tup {a : Addr} {vs : List V} {xs : List D} : F a = some (.tup vs) → RpL F vs xs → Rp F (.ref a) (.tup xs)
inductive RpL (F : Hp) : List V → List D → Prop
  | nil : RpL F [] []
  | cons {v : V} {vs : List V} {d : D} {ds : List D} : Rp F v d → RpL F vs ds → RpL F (v :: vs) (d :: ds)
end
mutual
theorem Rp.mono {F F' : Hp} (e : Ex F F') : ∀ (d : D) (v : V), Rp F v d → Rp F' v d
  | .non, _, h => by cases h; exact .non
  | .bl b, _, h => by cases h; exact .bl b
  | .int i, _, h => by cases h; exact .int i
  | .str x, _, h => by cases h; exact .str x
  | .lst xs, _, h => by
    cases h with
    | lst h1 h2 => exact .lst (e _ _ h1) (RpL.mono e xs _ h2)
  | .tup xs, _, h => by
    cases h with
    | tup h1 h2 => exact .tup (e _ _ h1) (RpL.mono e xs _ h2)
theorem RpL.mono {F F' : Hp} (e : Ex F F') : ∀ (ds : List D) (vs : List V), RpL F vs ds → RpL F' vs ds
  | [], _, h => by cases h; exact .nil
  | d :: ds, _, h => by
    cases h with
    | cons h1 h2 => exact .cons (Rp.mono e d _ h1) (RpL.mono e ds _ h2)
end
theorem RpL.length {F : Hp} : ∀ {vs : List V} {ds : List D}, RpL F vs ds → vs.length = ds.length
  | _, _, .nil => rfl
  | _, _, .cons _ t => by rw [List.length_cons, List.length_cons, RpL.length t]
theorem RpL.get {F : Hp} : ∀ {vs : List V} {ds : List D} {i : Nat} {d : D}, RpL F vs ds → ds[i]? = some d → ∃ v, vs[i]? = some v ∧ Rp F v d
  | _, _, _, _, .nil, e => by simp at e
  | _, _, 0, _, .cons r _, e => by simp at e; subst e; exact ⟨_, rfl, r⟩
  | _, _, i + 1, d, .cons _ t, e => by
    obtain ⟨u, h1, h2⟩ := RpL.get (i := i) (d := d) t (by simpa using e)
    exact ⟨u, by simpa using h1, h2⟩
theorem RpL.getV {F : Hp} : ∀ {vs : List V} {ds : List D} {i : Nat} {v : V}, RpL F vs ds → vs[i]? = some v → ∃ d, ds[i]? = some d ∧ Rp F v d
  | _, _, _, _, .nil, e => by simp at e
  | _, _, 0, _, .cons r _, e => by simp at e; subst e; exact ⟨_, rfl, r⟩
  | _, _, i + 1, d, .cons _ t, e => by
    obtain ⟨u, h1, h2⟩ := RpL.getV (i := i) (v := d) t (by simpa using e)
    exact ⟨u, by simpa using h1, h2⟩
theorem RpL.app {F : Hp} : ∀ {vs ws : List V} {ds es : List D}, RpL F vs ds → RpL F ws es → RpL F (vs ++ ws) (ds ++ es)
  | _, _, _, _, .nil, s => s
  | _, _, _, _, .cons r t, s => .cons r (RpL.app t s)
theorem RpL.one {F : Hp} {v : V} {d : D} (h : Rp F v d) : RpL F [v] [d] := .cons h .nil
theorem RpL.set {F : Hp} {v : V} {d : D} (r : Rp F v d) : ∀ {vs : List V} {ds : List D} (i : Nat), RpL F vs ds → RpL F (vs.set i v) (ds.set i d)
  | _, _, _, .nil => .nil
  | _, _, 0, .cons _ t => .cons r t
  | _, _, i + 1, .cons q t => .cons q (RpL.set r i t)
theorem RpL.take {F : Hp} : ∀ {vs : List V} {ds : List D} (n : Nat), RpL F vs ds → RpL F (vs.take n) (ds.take n)
  | _, _, 0, _ => .nil
  | _, _, _ + 1, .nil => .nil
  | _, _, n + 1, .cons r t => .cons r (RpL.take n t)
theorem RpL.drop {F : Hp} : ∀ {vs : List V} {ds : List D} (n : Nat), RpL F vs ds → RpL F (vs.drop n) (ds.drop n)
  | _, _, 0, r => r
  | _, _, _ + 1, .nil => .nil
  | _, _, n + 1, .cons _ t => RpL.drop n t
theorem RpL.rev {F : Hp} : ∀ {vs : List V} {ds : List D}, RpL F vs ds → RpL F vs.reverse ds.reverse
  | _, _, .nil => .nil
  | _, _, .cons r t => by rw [List.reverse_cons, List.reverse_cons]; exact RpL.app (RpL.rev t) (RpL.one r)
theorem RpL.rep {F : Hp} {vs : List V} {ds : List D} (h : RpL F vs ds) : ∀ k : Nat, RpL F (List.replicate k vs).flatten (List.replicate k ds).flatten
  | 0 => .nil
  | k + 1 => by rw [List.replicate_succ, List.replicate_succ, List.flatten_cons, List.flatten_cons]; exact RpL.app h (RpL.rep h k)

def RV (G : Ctx) (F : Hp) (v : V) : DV → Prop
  | .d x => Rp F v x
  | .r a => v = .ref a
  | .scr ns => ∃ a, v = .ref a ∧ SqL G.K F a (ns.map V.int)
theorem RV.mono {G : Ctx} {F F' : Hp} (e : Ex F F') {v : V} {d : DV} (h : RV G F v d) : RV G F' v d := by
  cases d with
  | d x => exact Rp.mono e x v h
  | r a => exact h
  | scr ns =>
    obtain ⟨a, h1, h2⟩ := h
    refine ⟨a, h1, ?_⟩
    rcases h2 with (h2 | ⟨o, h2⟩) | h2
    · exact .inl (.inl (e _ _ h2))
    · exact .inl (.inr ⟨o, e _ _ h2⟩)
    · exact .inr h2
theorem RV.dat {G : Ctx} {F : Hp} {v : V} {x : D} (h : Rp F v x) : RV G F v (.d x) := h
abbrev RVs (G : Ctx) (F : Hp) : List V → List DV → Prop := PySem.Paired (RV G F)
theorem RVs.mono {G : Ctx} {F F' : Hp} (e : Ex F F') : ∀ {vs : List V} {ds : List DV}, RVs G F vs ds → RVs G F' vs ds
  | _, _, .nil => .nil
  | _, _, .cons h t => .cons (h.mono e) (RVs.mono e t)
/-- the frame -/
structure REnv (G : Ctx) (F : Hp) (σ : L2.St) (ds : DS) : Prop where
  len : σ.length = ds.length
  at_ : ∀ (i : Nat) (d : DV), ds[i]? = some (some d) → ∃ v, σ[i]? = some (some v) ∧ RV G F v d
theorem REnv.mono {G : Ctx} {F F' : Hp} {σ : L2.St} {ds : DS} (e : Ex F F') (h : REnv G F σ ds) : REnv G F' σ ds :=
  ⟨h.len, fun i d q => let ⟨v, h1, h2⟩ := h.at_ i d q; ⟨v, h1, h2.mono e⟩⟩
theorem REnv.set {G : Ctx} {F : Hp} {σ : L2.St} {ds : DS} {v : V} {d : DV} (i : Nat) (h : REnv G F σ ds) (r : RV G F v d) : REnv G F (σ.set i (some v)) (ds.set i (some d)) := by
  refine ⟨by rw [List.length_set, List.length_set]; exact h.len, fun j e q => ?_⟩
  by_cases hj : i = j
  · subst hj
    have hi : i < ds.length := by
      cases Nat.lt_or_ge i ds.length with
      | inl z => exact z
      | inr z => rw [List.getElem?_eq_none (by rw [List.length_set]; exact z)] at q; cases q
    rw [List.getElem?_set_self hi] at q
    cases q
    exact ⟨v, List.getElem?_set_self (by rw [h.len]; exact hi), r⟩
  · rw [List.getElem?_set_ne hj] at q ⊢
    exact h.at_ j e q
theorem REnv.unset {G : Ctx} {F : Hp} {σ : L2.St} {ds : DS} (i : Nat) (h : REnv G F σ ds) : REnv G F (σ.set i none) (ds.set i none) := by
  refine ⟨by rw [List.length_set, List.length_set]; exact h.len, fun j e q => ?_⟩
  by_cases hj : i = j
  · subst hj
    have hi : i < ds.length := by
      cases Nat.lt_or_ge i ds.length with
      | inl z => exact z
      | inr z => rw [List.getElem?_eq_none (by rw [List.length_set]; exact z)] at q; cases q
    rw [List.getElem?_set_self hi] at q
    cases q
  · rw [List.getElem?_set_ne hj] at q ⊢
    exact h.at_ j e q

/-! ### mutable objects, the state -/
def RF (G : Ctx) (F : Hp) (p : Str × V) (q : Str × DV) : Prop := p.1 = q.1 ∧ RV G F p.2 q.2
/-- an exception of the class at C stands at a -/
def ExA (C a : Addr) : HO := .ext fun h => ∃ oe : Obj, h.get? a = some oe ∧ Zc (.ref C) none oe ∧ ∃ vs, oe.data = .fields vs
/-! ### keys of dicts -/
mutual
def toKey : D → NestedKey
  | .non => .none
  | .bl b => .num (if b = true then 1 else 0)
  | .int i => .num i
  | .str s => .text s
  | .lst _ => .none
  | .tup xs => .tup (toKeys xs)
def toKeys : List D → List NestedKey
  | [] => []
  | x :: xs => toKey x :: toKeys xs
end
mutual
def isKey : D → Bool
  | .non => true
  | .bl _ => true
  | .int _ => true
  | .str _ => true
  | .lst _ => false
  | .tup xs => isKeys xs
def isKeys : List D → Bool
  | [] => true
  | x :: xs => isKey x && isKeys xs
end
/-- a dict's own object: its entries -/
def NDo (w : World) (a : Addr) (xs : List (NestedKey × Addr × Value)) : HO := .ext fun h => ∃ o es ep, h.get? a = some o ∧ o.ExactDict ∧ o.data = .dict es ep ∧ es.toList = xs.map fun x => (⟨x.1.hash w, .ref x.2.1, x.2.2⟩ : DictEntry)
structure RK (F : Hp) (x : NestedKey × Addr × Value) (q : D × D) : Prop where
  k : x.1 = toKey q.1
  d : x.1.depth ≤ 8
  i : isKey q.1 = true
  a : Rp F (.ref x.2.1) q.1
  v : ∃ v, Rp F v q.2 ∧ RelV v x.2.2
abbrev RKs (F : Hp) : List (NestedKey × Addr × Value) → List (D × D) → Prop := PySem.Paired (RK F)
theorem RKs.mono {F F' : Hp} (e : Ex F F') : ∀ {xs : List (NestedKey × Addr × Value)} {kvs : List (D × D)}, RKs F xs kvs → RKs F' xs kvs
  | _, _, .nil => .nil
  | _, _, .cons h t => .cons ⟨h.k, h.d, h.i, Rp.mono e _ _ h.a, let ⟨v, h1, h2⟩ := h.v; ⟨v, Rp.mono e _ _ h1, h2⟩⟩ (RKs.mono e t)
def RO (G : Ctx) (F H : Hp) (a : Addr) : MO → Prop
  | .lst xs => ∃ vs, H a = some (.lst vs) ∧ RpL F vs xs
  | .ins c fs => ∃ dx vs, H a = some (.ins (G.cl c) dx vs) ∧ PySem.Paired (RF G F) vs fs
  | .exc t => H a = some (ExA (G.ex t) a) ∧ G.has t = true
  | .tpl es => ∃ vs, H a = some (.tup vs) ∧ RVs G F vs es
  | .dic kvs => ∃ xs, H a = some (NDo G.w a xs) ∧ (a == sysModules) = false ∧ (xs.map (·.1)).Nodup ∧ RKs F xs kvs
theorem RF.mono {G : Ctx} {F F' : Hp} (e : Ex F F') : ∀ {vs : List (Str × V)} {fs : List (Str × DV)}, PySem.Paired (RF G F) vs fs → PySem.Paired (RF G F') vs fs
  | _, _, .nil => .nil
  | _, _, .cons h t => .cons ⟨h.1, h.2.mono e⟩ (RF.mono e t)
theorem RO.mono {G : Ctx} {F F' H H' : Hp} {a : Addr} (e : Ex F F') (q : H' a = H a) {o : MO} (h : RO G F H a o) : RO G F' H' a o := by
  cases o with
  | lst xs => obtain ⟨vs, h1, h2⟩ := h; exact ⟨vs, q.trans h1, RpL.mono e xs vs h2⟩
  | ins c fs => obtain ⟨dx, vs, h1, h2⟩ := h; exact ⟨dx, vs, q.trans h1, RF.mono e h2⟩
  | exc t => exact ⟨q.trans h.1, h.2⟩
  | tpl es => obtain ⟨vs, h1, h2⟩ := h; exact ⟨vs, q.trans h1, RVs.mono e h2⟩
  | dic kvs => obtain ⟨xs, h1, h2, h3, h4⟩ := h; exact ⟨xs, q.trans h1, h2, h3, RKs.mono e h4⟩
theorem RO.there {G : Ctx} {F H : Hp} {a : Addr} {o : MO} (h : RO G F H a o) : H a ≠ none := by
  cases o with
  | lst xs => obtain ⟨vs, h1, h2⟩ := h; rw [h1]; exact fun z => nomatch z
  | ins c fs => obtain ⟨dx, vs, h1, h2⟩ := h; rw [h1]; exact fun z => nomatch z
  | exc t => rw [show H a = _ from h.1]; exact fun z => nomatch z
  | tpl es => obtain ⟨vs, h1, h2⟩ := h; rw [h1]; exact fun z => nomatch z
  | dic kvs => obtain ⟨xs, h1, h2⟩ := h; rw [h1]; exact fun z => nomatch z

def S0 (G : Ctx) (H : Hp) (m : Mu) : Prop := ∀ a o, m a = some o → RO G (fz H m) H a o
abbrev Tr (H : Hp) (m : Mu) (H' : Hp) (m' : Mu) : Prop := Ex (fz H m) (fz H' m')
section
variable {G : Ctx} {H H' H1 : Hp} {m m' m1 : Mu} {a p : Addr} {o : HO}
theorem S0.free (s : S0 G H m) (h : H p = none) : m p = none := by
  cases e : m p with
  | none => rfl
  | some x => exact absurd h (s p x e).there
theorem fz_upd (h : m p = none) : fz (upd H p o) m = upd (fz H m) p o := by
  funext b
  by_cases e : b = p
  · subst e; rw [fz_none h, upd_same, upd_same]
  · rw [upd_ne e]
    cases q : m b with
    | none => rw [fz_none q, fz_none q, upd_ne e]
    | some x => rw [fz_some q, fz_some q]
theorem Ex.new {F : Hp} (h : F p = none) : Ex F (upd F p o) := fun b u e => by
  rw [upd_ne (ne_of_none e h)]
  exact e
/-- a new thing, frozen -/
theorem S0.lay (s : S0 G H m) (h : H p = none) : S0 G (upd H p o) m ∧ Tr H m (upd H p o) m ∧ fz (upd H p o) m p = some o := by
  have n := s.free h
  have t : Tr H m (upd H p o) m := by
    show Ex (fz H m) (fz (upd H p o) m)
    rw [fz_upd n]
    exact Ex.new (by rw [fz_none n]; exact h)
  refine ⟨fun b x e => (s b x e).mono t (upd_ne fun z => ?_), t, by rw [fz_none n, upd_same]⟩
  rw [z, n] at e
  cases e
theorem fz_mset (h : fz H m p = none) {x : MO} : fz (upd H p o) (mset m p x) = fz H m := by
  funext b
  by_cases e : b = p
  · subst e; rw [fz_some mset_same, h]
  · cases q : m b with
    | none => rw [fz_none (by rw [mset_ne e]; exact q), fz_none q, upd_ne e]
    | some y => rw [fz_some (x := y) (by rw [mset_ne e]; exact q), fz_some q]
/-- a mutable thing is written (or laid) -/
theorem S0.put (s : S0 G H m) (h : fz H m p = none) {x : MO} (r : RO G (fz H m) (upd H p o) p x) : S0 G (upd H p o) (mset m p x) ∧ Tr H m (upd H p o) (mset m p x) := by
  have e := fz_mset (o := o) (x := x) h
  refine ⟨fun b y q => ?_, by show Ex _ _; rw [e]; exact Ex.refl _⟩
  rw [e]
  by_cases z : b = p
  · subst z
    rw [mset_same] at q
    cases q
    exact r
  · rw [mset_ne z] at q
    exact (s b y q).mono (Ex.refl _) (upd_ne z)
/-- what is no longer changed is frozen (or forgotten) -/
theorem fz_mdel : Ex (fz H m) (fz H (mdel m p)) := fun b u e => by
  obtain ⟨h1, h2⟩ := fz_inv e
  by_cases z : b = p
  · subst z; rw [fz_none mdel_same]; exact h1
  · rw [fz_none (by rw [mdel_ne z]; exact h2)]; exact h1
theorem S0.del (s : S0 G H m) : S0 G H (mdel m p) ∧ Tr H m H (mdel m p) := by
  refine ⟨fun b x e => ?_, fz_mdel⟩
  by_cases z : b = p
  · subst z; rw [mdel_same] at e; cases e
  · rw [mdel_ne z] at e
    exact (s b x e).mono fz_mdel rfl
/-- a store that holds less -/
def Sub (m' m : Mu) : Prop := ∀ a, m' a = none ∨ m' a = m a
theorem fz_sub (h : Sub m' m) : Ex (fz H m) (fz H m') := fun b u e => by
  obtain ⟨h1, h2⟩ := fz_inv e
  have z : m' b = none := by
    rcases h b with z | z
    · exact z
    · rw [z]; exact h2
  rw [fz_none z]
  exact h1
theorem S0.sub (s : S0 G H m) (h : Sub m' m) : S0 G H m' ∧ Tr H m H m' := by
  refine ⟨fun b x e => ?_, fz_sub h⟩
  rcases h b with z | z
  · rw [z] at e; cases e
  · rw [z] at e
    exact (s b x e).mono (fz_sub h) rfl
end

/-! ### what is wanted behind -/
def Post (G : Ctx) (H : Hp) (m : Mu) (R : DV → Mu → Prop) (Q : VK) : Prop := ∀ v H' d m', Tr H m H' m' → S0 G H' m' → RV G (fz H' m') v d → R d m' → Q v H'
def XPost (G : Ctx) (H : Hp) (m : Mu) (XR : Tag → Mu → Prop) (E : XK) : Prop := ∀ t, G.has t = true → ∀ H' m', Tr H m H' m' → S0 G H' m' → XR t m' → E (.ref (G.ex t)) none H'
theorem Post.tr {G : Ctx} {H H' : Hp} {m m' : Mu} {R : DV → Mu → Prop} {Q : VK} (p : Post G H m R Q) (t : Tr H m H' m') : Post G H' m' R Q := fun v H2 d m2 t2 s r q => p v H2 d m2 (t.trans t2) s r q
theorem XPost.tr {G : Ctx} {H H' : Hp} {m m' : Mu} {R : Tag → Mu → Prop} {Q : XK} (p : XPost G H m R Q) (t : Tr H m H' m') : XPost G H' m' R Q := fun c hc H2 m2 t2 s q => p c hc H2 m2 (t.trans t2) s q

/-- an expression -/
def EvD (G : Ctx) (W : WX) (te : TE) (ds : DS) (m : Mu) (R : DV → Mu → Prop) (XR : Tag → Mu → Prop) : Prop :=
  ∀ (σ : L2.St) (H : Hp) (Q : VK), S0 G H m → REnv G (fz H m) σ ds → Post G H m R Q → XPost G H m XR (fun c d H' => W c d σ H') → te σ H Q
def PostT (G : Ctx) (H : Hp) (m : Mu) (R : Bool → Mu → Prop) (Q : Bool → Hp → Prop) : Prop := ∀ b H' m', Tr H m H' m' → S0 G H' m' → R b m' → Q b H'
def EvT (G : Ctx) (W : WX) (te : TT) (ds : DS) (m : Mu) (R : Bool → Mu → Prop) (XR : Tag → Mu → Prop) : Prop :=
  ∀ (σ : L2.St) (H : Hp) (Q : Bool → Hp → Prop), S0 G H m → REnv G (fz H m) σ ds → PostT G H m R Q → XPost G H m XR (fun c d H' => W c d σ H') → te σ H Q
def PostA (G : Ctx) (H : Hp) (m : Mu) (R : List DV → Mu → Prop) (Q : List V → Hp → Prop) : Prop := ∀ vs H' ds m', Tr H m H' m' → S0 G H' m' → RVs G (fz H' m') vs ds → R ds m' → Q vs H'
def EvA (G : Ctx) (W : WX) (te : TA) (ds : DS) (m : Mu) (R : List DV → Mu → Prop) (XR : Tag → Mu → Prop) : Prop :=
  ∀ (σ : L2.St) (H : Hp) (Q : List V → Hp → Prop), S0 G H m → REnv G (fz H m) σ ds → PostA G H m R Q → XPost G H m XR (fun c d H' => W c d σ H') → te σ H Q

/-- statements -/
structure EndsD where
  nx : DS → Mu → Prop
  rt : DV → Mu → Prop
  bk : DS → Mu → Prop := fun _ _ => False
  ct : DS → Mu → Prop := fun _ _ => False
def PostS (G : Ctx) (H : Hp) (m : Mu) (R : DS → Mu → Prop) (Q : L2.St → Hp → Prop) : Prop := ∀ σ H' ds m', Tr H m H' m' → S0 G H' m' → REnv G (fz H' m') σ ds → R ds m' → Q σ H'
structure SPost (G : Ctx) (W : WX) (H : Hp) (m : Mu) (N : EndsD) (XR : Tag → DS → Mu → Prop) (E : Ends) : Prop where
  nx : PostS G H m N.nx E.nx
  rt : Post G H m N.rt E.rt
  bk : PostS G H m N.bk E.bk
  ct : PostS G H m N.ct E.ct
  xe : ∀ t, G.has t = true → ∀ σ H' ds m', Tr H m H' m' → S0 G H' m' → REnv G (fz H' m') σ ds → XR t ds m' → W (.ref (G.ex t)) none σ H'
def StD (G : Ctx) (W : WX) (t : TS) (ds : DS) (m : Mu) (N : EndsD) (XR : Tag → DS → Mu → Prop) : Prop :=
  ∀ (σ : L2.St) (H : Hp) (E : Ends), S0 G H m → REnv G (fz H m) σ ds → SPost G W H m N XR E → t E σ H
theorem PostS.tr {G : Ctx} {H H' : Hp} {m m' : Mu} {R : DS → Mu → Prop} {Q : L2.St → Hp → Prop} (p : PostS G H m R Q) (t : Tr H m H' m') : PostS G H' m' R Q := fun v H2 d m2 t2 s r q => p v H2 d m2 (t.trans t2) s r q
theorem SPost.tr {G : Ctx} {W : WX} {H H' : Hp} {m m' : Mu} {N : EndsD} {XR : Tag → DS → Mu → Prop} {E : Ends} (p : SPost G W H m N XR E) (t : Tr H m H' m') : SPost G W H' m' N XR E :=
  ⟨p.nx.tr t, p.rt.tr t, p.bk.tr t, p.ct.tr t, fun c hc σ H2 ds m2 t2 => p.xe c hc σ H2 ds m2 (t.trans t2)⟩
theorem SPost.x {G : Ctx} {W : WX} {H : Hp} {m : Mu} {N : EndsD} {XR : Tag → DS → Mu → Prop} {E : Ends} (p : SPost G W H m N XR E) {σ : L2.St} {ds : DS} (r : REnv G (fz H m) σ ds) : XPost G H m (fun t m' => XR t ds m') (fun c d H' => W c d σ H') :=
  fun t ht H' m' tr s q => p.xe t ht σ H' ds m' tr s (r.mono tr) q

/-! ### rules: expressions -/
section
variable {G : Ctx} {W : WX} {ds : DS} {m : Mu} {R : DV → Mu → Prop} {XR : Tag → Mu → Prop} {ta tb tc te : TE}
theorem ev_var {i : Nat} {d : DV} (h : ds[i]? = some (some d)) (k : R d m) : EvD G W (tVar i) ds m R XR := fun σ H Q s r p x => by
  obtain ⟨v, h1, h2⟩ := r.at_ i d h
  exact ⟨v, h1, p v H d m (Ex.refl _) s h2 k⟩
/-- a mutable list, read as a value: from now on it is data -/
theorem ev_varF {i : Nat} {a : Addr} {xs : List D} (h : ds[i]? = some (some (.r a))) (hm : m a = some (.lst xs)) (k : R (.d (.lst xs)) (mdel m a)) : EvD G W (tVar i) ds m R XR := fun σ H Q s r p x => by
  obtain ⟨v, h1, h2⟩ := r.at_ i _ h
  cases h2
  obtain ⟨vs, e1, e2⟩ := s a _ hm
  obtain ⟨s', t⟩ := s.del (p := a)
  exact ⟨_, h1, p _ H _ _ t s' (RV.dat (Rp.lst (by rw [fz_none mdel_same]; exact e1) (RpL.mono t _ _ e2))) k⟩
theorem ev_int {i : Int} (k : R (.d (.int i)) m) : EvD G W (tC (.int i)) ds m R XR := fun σ H Q s r p x => p _ H _ m (Ex.refl _) s (RV.dat (Rp.int i)) k
theorem ev_bl {b : Bool} (k : R (.d (.bl b)) m) : EvD G W (tC (.bl b)) ds m R XR := fun σ H Q s r p x => p _ H _ m (Ex.refl _) s (RV.dat (Rp.bl b)) k
theorem ev_non (k : R (.d .non) m) : EvD G W (tC .non) ds m R XR := fun σ H Q s r p x => p _ H _ m (Ex.refl _) s (RV.dat Rp.non) k
theorem ev_str {z : Str} (k : R (.d (.str z)) m) : EvD G W (tC (.str z)) ds m R XR := fun σ H Q s r p x => p _ H _ m (Ex.refl _) s (RV.dat (Rp.str z)) k
theorem EvD.imp {R' : DV → Mu → Prop} {XR' : Tag → Mu → Prop} (h : EvD G W te ds m R XR) (hR : ∀ d m', R d m' → R' d m') (hX : ∀ t m', XR t m' → XR' t m') : EvD G W te ds m R' XR' := fun σ H Q s r p x =>
  h σ H Q s r (fun v H' d m' t s' r' q => p v H' d m' t s' r' (hR d m' q)) (fun c hc H' m' t s' q => x c hc H' m' t s' (hX c m' q))

/-- an operation on two values, by data -/
abbrev F2 := DV → DV → Mu → (DV → Mu → Prop) → Prop
def rD2 (G : Ctx) (f : F2) : R2 := fun x y H Q => ∃ dx dy m R, S0 G H m ∧ RV G (fz H m) x dx ∧ RV G (fz H m) y dy ∧ f dx dy m R ∧ Post G H m R Q
theorem ev_op {f : F2} (h : EvD G W ta ds m (fun x m1 => EvD G W tb ds m1 (fun y m2 => f x y m2 R) XR) XR) : EvD G W (tOp (rD2 G f) ta tb) ds m R XR := fun σ H Q s r p x =>
  h σ H _ s r (fun v H1 d m1 t1 s1 r1 q1 => q1 σ H1 _ s1 (r.mono t1) (fun u H2 e m2 t2 s2 r2 q2 => ⟨d, e, m2, R, s2, r1.mono t2, r2, q2, p.tr (t1.trans t2)⟩) (x.tr t1)) x
abbrev F1 := DV → Mu → (DV → Mu → Prop) → Prop
def rD1 (G : Ctx) (f : F1) : V → Hp → VK → Prop := fun x H Q => ∃ dx m R, S0 G H m ∧ RV G (fz H m) x dx ∧ f dx m R ∧ Post G H m R Q
theorem ev_un {f : F1} (h : EvD G W ta ds m (fun x m1 => f x m1 R) XR) : EvD G W (tUn (rD1 G f) ta) ds m R XR := fun σ H Q s r p x =>
  h σ H _ s r (fun v H1 d m1 t1 s1 r1 q1 => ⟨d, m1, R, s1, r1, q1, p.tr t1⟩) x
abbrev FN := List DV → Mu → (DV → Mu → Prop) → Prop
def rDn (G : Ctx) (f : FN) : List V → Hp → VK → Prop := fun xs H Q => ∃ dx m R, S0 G H m ∧ RVs G (fz H m) xs dx ∧ f dx m R ∧ Post G H m R Q
theorem ev_cb {f : FN} {t : TA} (h : EvA G W t ds m (fun xs m1 => f xs m1 R) XR) : EvD G W (tCB (rDn G f) t) ds m R XR := fun σ H Q s r p x =>
  h σ H _ s r (fun vs H1 xs m1 t1 s1 r1 q1 => ⟨xs, m1, R, s1, r1, q1, p.tr t1⟩) x
theorem ea_nil {RA : List DV → Mu → Prop} (k : RA [] m) : EvA G W tNil ds m RA XR := fun σ H Q s r p x => p [] H [] m (Ex.refl _) s .nil k
theorem ea_cons {RA : List DV → Mu → Prop} {t : TA} (h : EvD G W te ds m (fun x m1 => EvA G W t ds m1 (fun xs m2 => RA (x :: xs) m2) XR) XR) : EvA G W (tCons te t) ds m RA XR := fun σ H Q s r p x =>
  h σ H _ s r (fun v H1 d m1 t1 s1 r1 q1 => q1 σ H1 _ s1 (r.mono t1) (fun vs H2 es m2 t2 s2 r2 q2 => p (v :: vs) H2 (d :: es) m2 (t1.trans t2) s2 (.cons (r1.mono t2) r2) q2) (x.tr t1)) x
theorem ev_if {t : TT} (h : EvT G W t ds m (fun b m1 => if b = true then EvD G W ta ds m1 R XR else EvD G W tb ds m1 R XR) XR) : EvD G W (tIf t ta tb) ds m R XR := fun σ H Q s r p x =>
  h σ H _ s r (fun b H1 m1 t1 s1 q1 => by
    cases b with
    | true => exact q1 σ H1 Q s1 (r.mono t1) (p.tr t1) (x.tr t1)
    | false => exact q1 σ H1 Q s1 (r.mono t1) (p.tr t1) (x.tr t1)) x
/-- a tuple, a list display -/
theorem RVs.data {F : Hp} : ∀ {vs : List V} {xs : List D}, RVs G F vs (xs.map DV.d) → RpL F vs xs
  | _, [], .nil => .nil
  | _, _ :: _, .cons h t => .cons h (RVs.data t)
theorem RVs.undata {F : Hp} : ∀ {vs : List V} {xs : List D}, RpL F vs xs → RVs G F vs (xs.map DV.d)
  | _, [], .nil => .nil
  | _, _ :: _, .cons h t => .cons h (RVs.undata t)
theorem sz_of {n : Nat} (h : n ≤ 100000) : n ≤ sizeLine := Nat.le_trans h (by decide)
theorem sz_lt {n : Nat} (h : n < 100000) : n < sizeLine := Nat.lt_of_lt_of_le h (by decide)
theorem ev_tup {t : TA} (h : EvA G W t ds m (fun es m1 => ∃ xs : List D, es = xs.map DV.d ∧ xs.length ≤ 100000 ∧ R (.d (.tup xs)) m1) XR) : EvD G W (tTup t) ds m R XR := fun σ H Q s r p x =>
  h σ H _ s r (fun vs H1 es m1 t1 s1 r1 ⟨xs, e, l, q⟩ => by
    subst e
    have r2 := RVs.data r1
    refine ⟨sz_of (by rw [r2.length]; exact l), fun a ha => ?_⟩
    obtain ⟨s2, t2, e2⟩ := s1.lay (o := .tup vs) ha
    exact p _ _ _ _ (t1.trans t2) s2 (RV.dat (Rp.tup e2 (RpL.mono t2 _ _ r2))) q) x
theorem ev_lst {t : TA} (h : EvA G W t ds m (fun es m1 => ∃ xs : List D, es = xs.map DV.d ∧ xs.length ≤ 100000 ∧ R (.d (.lst xs)) m1) XR) : EvD G W (tLst t) ds m R XR := fun σ H Q s r p x =>
  h σ H _ s r (fun vs H1 es m1 t1 s1 r1 ⟨xs, e, l, q⟩ => by
    subst e
    have r2 := RVs.data r1
    refine ⟨sz_of (by rw [r2.length]; exact l), fun a ha => ?_⟩
    obtain ⟨s2, t2, e2⟩ := s1.lay (o := .lst vs) ha
    exact p _ _ _ _ (t1.trans t2) s2 (RV.dat (Rp.lst e2 (RpL.mono t2 _ _ r2))) q) x
end

/-! ### rules: tests -/
section
variable {G : Ctx} {W : WX} {ds : DS} {m : Mu} {R : Bool → Mu → Prop} {XR : Tag → Mu → Prop} {te : TE} {t u : TT}
theorem et_B (h : EvD G W te ds m (fun d m1 => ∃ b, d = .d (.bl b) ∧ R b m1) XR) : EvT G W (tB te) ds m R XR := fun σ H Q s r p x =>
  h σ H _ s r (fun v H1 d m1 t1 s1 r1 ⟨b, e, q⟩ => by
    subst e
    cases r1
    exact ⟨b, rfl, p b H1 m1 t1 s1 q⟩) x
theorem et_test (h : EvD G W te ds m (fun d m1 => ∃ b, d = .d (.bl b) ∧ R b m1) XR) : EvT G W (tTest te) ds m R XR := fun σ H Q s r p x =>
  h σ H _ s r (fun v H1 d m1 t1 s1 r1 ⟨b, e, q⟩ => by
    subst e
    cases r1
    exact ⟨b, rfl, p b H1 m1 t1 s1 q⟩) x
theorem et_and (h : EvT G W t ds m (fun b m1 => if b = true then EvT G W u ds m1 R XR else R false m1) XR) : EvT G W (tAnd t u) ds m R XR := fun σ H Q s r p x =>
  h σ H _ s r (fun b H1 m1 t1 s1 q1 => by
    cases b with
    | true => exact q1 σ H1 Q s1 (r.mono t1) (fun c H2 m2 t2 s2 q2 => p c H2 m2 (t1.trans t2) s2 q2) (x.tr t1)
    | false => exact p false H1 m1 t1 s1 q1) x
theorem et_or (h : EvT G W t ds m (fun b m1 => if b = true then R true m1 else EvT G W u ds m1 R XR) XR) : EvT G W (tOr t u) ds m R XR := fun σ H Q s r p x =>
  h σ H _ s r (fun b H1 m1 t1 s1 q1 => by
    cases b with
    | false => exact q1 σ H1 Q s1 (r.mono t1) (fun c H2 m2 t2 s2 q2 => p c H2 m2 (t1.trans t2) s2 q2) (x.tr t1)
    | true => exact p true H1 m1 t1 s1 q1) x
theorem et_not (h : EvT G W t ds m (fun b m1 => R (!b) m1) XR) : EvT G W (tNot t) ds m R XR := fun σ H Q s r p x =>
  h σ H _ s r (fun b H1 m1 t1 s1 q1 => p (!b) H1 m1 t1 s1 q1) x
theorem et_yes (k : R true m) : EvT G W tYes ds m R XR := fun σ H Q s r p x => p true H m (Ex.refl _) s k
end

/-! ### rules: statements -/
section
variable {G : Ctx} {W : WX} {ds : DS} {m : Mu} {N : EndsD} {XR : Tag → DS → Mu → Prop} {te : TE} {t u : TS} {c : TT}
theorem st_next (k : N.nx ds m) : StD G W tNext ds m N XR := fun σ H E s r p => p.nx σ H ds m (Ex.refl _) s r k
theorem st_seq (h : StD G W t ds m { N with nx := fun ds' m' => StD G W u ds' m' N XR } XR) : StD G W (tSeq t u) ds m N XR := fun σ H E s r p =>
  h σ H { E with nx := u E } s r ⟨fun σ1 H1 ds1 m1 t1 s1 r1 q1 => q1 σ1 H1 E s1 r1 (p.tr t1), p.rt, p.bk, p.ct, p.xe⟩
theorem st_asg {i : Nat} (h : EvD G W te ds m (fun d m1 => N.nx (ds.set i (some d)) m1) (fun t m1 => XR t ds m1)) : StD G W (tAsg te (gName i)) ds m N XR := fun σ H E s r p =>
  h σ H _ s r (fun v H1 d m1 t1 s1 r1 q1 => p.nx _ H1 _ m1 t1 s1 ((r.mono t1).set i r1) q1) (p.x r)
theorem st_drop (h : EvD G W te ds m (fun _ m1 => N.nx ds m1) (fun t m1 => XR t ds m1)) : StD G W (tDrop te) ds m N XR := fun σ H E s r p =>
  h σ H _ s r (fun v H1 d m1 t1 s1 r1 q1 => p.nx _ H1 _ m1 t1 s1 (r.mono t1) q1) (p.x r)
theorem st_ret (h : EvD G W te ds m N.rt (fun t m1 => XR t ds m1)) : StD G W (tRet te) ds m N XR := fun σ H E s r p => h σ H _ s r p.rt (p.x r)
theorem st_if (h : EvT G W c ds m (fun b m1 => if b = true then StD G W t ds m1 N XR else StD G W u ds m1 N XR) (fun t m1 => XR t ds m1)) : StD G W (tIfS c t u) ds m N XR := fun σ H E s r p =>
  h σ H _ s r (fun b H1 m1 t1 s1 q1 => by
    cases b with
    | true => exact q1 σ H1 E s1 (r.mono t1) (p.tr t1)
    | false => exact q1 σ H1 E s1 (r.mono t1) (p.tr t1)) (p.x r)
theorem st_break (k : N.bk ds m) : StD G W tBreak ds m N XR := fun σ H E s r p => p.bk σ H ds m (Ex.refl _) s r k
theorem st_cont (k : N.ct ds m) : StD G W tCont ds m N XR := fun σ H E s r p => p.ct σ H ds m (Ex.refl _) s r k
theorem StD.imp {N' : EndsD} {XR' : Tag → DS → Mu → Prop} (h : StD G W t ds m N XR) (h1 : ∀ d m', N.nx d m' → N'.nx d m') (h2 : ∀ d m', N.rt d m' → N'.rt d m') (h3 : ∀ d m', N.bk d m' → N'.bk d m') (h4 : ∀ d m', N.ct d m' → N'.ct d m') (h5 : ∀ t d m', XR t d m' → XR' t d m') : StD G W t ds m N' XR' := fun σ H E s r p =>
  h σ H E s r ⟨fun a b c d e f g q => p.nx a b c d e f g (h1 _ _ q), fun a b c d e f g q => p.rt a b c d e f g (h2 _ _ q), fun a b c d e f g q => p.bk a b c d e f g (h3 _ _ q), fun a b c d e f g q => p.ct a b c d e f g (h4 _ _ q), fun a ha b c d e f g k q => p.xe a ha b c d e f g k (h5 _ _ _ q)⟩
/-- less in the store -/
theorem StD.sub {m' : Mu} (h : StD G W t ds m' N XR) (b : Sub m' m) : StD G W t ds m N XR := fun σ H E s r p => by
  obtain ⟨s', tr⟩ := s.sub b
  exact h σ H E s' (r.mono tr) (p.tr tr)
theorem EvD.sub {R : DV → Mu → Prop} {YR : Tag → Mu → Prop} {m' : Mu} (h : EvD G W te ds m' R YR) (b : Sub m' m) : EvD G W te ds m R YR := fun σ H E s r p x => by
  obtain ⟨s', tr⟩ := s.sub b
  exact h σ H E s' (r.mono tr) (p.tr tr) (x.tr tr)
end
end Lb

/-! Lb1: operators and built-ins by data. -/
namespace Lb
open PySem L2

/-! ### data as the library reads it -/
mutual
def toPy : D → PyData
  | .non => .none
  | .bl b => .bool b
  | .int i => .int i
  | .str s => .str s
  | .lst xs => .list (toPys xs)
  | .tup xs => .tuple (toPys xs)
def toPys : List D → List PyData
  | [] => []
  | x :: xs => toPy x :: toPys xs
end
theorem toPys_map : ∀ xs : List D, toPys xs = xs.map toPy
  | [] => rfl
  | x :: xs => by rw [toPys, toPys_map xs, List.map_cons]
def eqD (a b : D) : Bool := PyData.eqv (toPy a) (toPy b)
def eqDs (a b : List D) : Bool := PyData.eqvAll (toPys a) (toPys b)
/-- a text whose signs are signs -/
abbrev okS (s : Str) : Prop := PyData.strOk s = true
/-- data of at most so many things within one another -/
def Sh : Nat → D → Prop
  | _, .non => True
  | _, .bl _ => True
  | _, .int _ => True
  | _, .str s => okS s
  | 0, .lst xs => xs = []
  | 0, .tup xs => xs = []
  | n + 1, .lst xs => ∀ x ∈ xs, Sh n x
  | n + 1, .tup xs => ∀ x ∈ xs, Sh n x
theorem Sh.lays {f : D → Prop} : ∀ (xs : List D), (∀ x ∈ xs, PyData.canLay0 (toPy x) = true) → PyData.canLayAll0 (toPys xs) = true
  | [], _ => rfl
  | x :: xs, h => by
    rw [toPys, PyData.canLayAll0, h x List.mem_cons_self, Sh.lays (f := f) xs fun y hy => h y (List.mem_cons_of_mem _ hy)]
    rfl
theorem Sh.deps {n : Nat} : ∀ (xs : List D), (∀ x ∈ xs, PyData.depth (toPy x) ≤ n) → PyData.depthAll (toPys xs) ≤ n
  | [], _ => by rw [toPys, PyData.depthAll]; exact Nat.zero_le _
  | x :: xs, h => by
    rw [toPys, PyData.depthAll]
    exact Nat.max_le.mpr ⟨h x List.mem_cons_self, Sh.deps xs fun y hy => h y (List.mem_cons_of_mem _ hy)⟩
theorem Sh.both : ∀ (n : Nat) (d : D), Sh n d → PyData.canLay0 (toPy d) = true ∧ PyData.depth (toPy d) ≤ n + 1
  | n, .non, _ => ⟨by rw [toPy, PyData.canLay0], by rw [toPy, PyData.depth]; omega⟩
  | n, .bl _, _ => ⟨by rw [toPy, PyData.canLay0], by rw [toPy, PyData.depth]; omega⟩
  | n, .int _, _ => ⟨by rw [toPy, PyData.canLay0], by rw [toPy, PyData.depth]; omega⟩
  | n, .str s, h => ⟨by rw [toPy, PyData.canLay0]; unfold Sh at h; exact h, by rw [toPy, PyData.depth]; omega⟩
  | 0, .lst xs, h => by unfold Sh at h; subst h; exact ⟨by rw [toPy, toPys, PyData.canLay0, PyData.canLayAll0], by rw [toPy, toPys, PyData.depth, PyData.depthAll]; omega⟩
  | 0, .tup xs, h => by unfold Sh at h; subst h; exact ⟨by rw [toPy, toPys, PyData.canLay0, PyData.canLayAll0], by rw [toPy, toPys, PyData.depth, PyData.depthAll]; omega⟩
  | n + 1, .lst xs, h => by
    unfold Sh at h
    refine ⟨?_, ?_⟩
    · rw [toPy, PyData.canLay0]; exact Sh.lays (f := Sh n) xs fun x hx => (Sh.both n x (h x hx)).1
    · rw [toPy, PyData.depth]; have := Sh.deps xs fun x hx => (Sh.both n x (h x hx)).2; omega
  | n + 1, .tup xs, h => by
    unfold Sh at h
    refine ⟨?_, ?_⟩
    · rw [toPy, PyData.canLay0]; exact Sh.lays (f := Sh n) xs fun x hx => (Sh.both n x (h x hx)).1
    · rw [toPy, PyData.depth]; have := Sh.deps xs fun x hx => (Sh.both n x (h x hx)).2; omega
theorem Sh.shaped {d : D} (h : Sh 63 d) : SeqAt.shaped (toPy d) = true := by
  obtain ⟨h1, h2⟩ := Sh.both 63 d h
  unfold SeqAt.shaped
  rw [h1, decide_eq_true h2]
  rfl
theorem Sh.up : ∀ {n k : Nat} {d : D}, Sh n d → n ≤ k → Sh k d
  | _, _, .non, _, _ => by unfold Sh; trivial
  | _, _, .bl _, _, _ => by unfold Sh; trivial
  | _, _, .int _, _, _ => by unfold Sh; trivial
  | _, _, .str _, h, _ => by unfold Sh at h ⊢; exact h
  | 0, k, .lst xs, h, _ => by
    unfold Sh at h; subst h
    cases k with
    | zero => rfl
    | succ k => intro x hx; cases hx
  | 0, k, .tup xs, h, _ => by
    unfold Sh at h; subst h
    cases k with
    | zero => rfl
    | succ k => intro x hx; cases hx
  | n + 1, 0, .lst xs, _, hk => absurd hk (by omega)
  | n + 1, 0, .tup xs, _, hk => absurd hk (by omega)
  | n + 1, k + 1, .lst xs, h, hk => by
    unfold Sh at h ⊢
    exact fun x hx => (h x hx).up (Nat.le_of_succ_le_succ hk)
  | n + 1, k + 1, .tup xs, h, hk => by
    unfold Sh at h ⊢
    exact fun x hx => (h x hx).up (Nat.le_of_succ_le_succ hk)
mutual
theorem Rp.dp {K : PySem.W.Frag} {F : Hp} : ∀ (d : D) (v : V), Rp F v d → Dp K F v (toPy d)
  | .non, _, h => by cases h; rw [toPy]; exact .non
  | .bl b, _, h => by cases h; rw [toPy]; exact .bl b
  | .int i, _, h => by cases h; rw [toPy]; exact .int i
  | .str x, _, h => by cases h; rw [toPy]; exact .str x
  | .lst xs, _, h => by
    cases h with
    | lst h1 h2 => rw [toPy]; exact .lst (SqL.of h1) (RpL.dp xs _ h2)
  | .tup xs, _, h => by
    cases h with
    | tup h1 h2 => rw [toPy]; exact .tup (SqT.of h1) (RpL.dp xs _ h2)
theorem RpL.dp {K : PySem.W.Frag} {F : Hp} : ∀ (ds : List D) (vs : List V), RpL F vs ds → DpAll K F vs (toPys ds)
  | [], _, h => by cases h; rw [toPys]; exact .nil
  | d :: ds, _, h => by
    cases h with
    | cons h1 h2 => rw [toPys]; exact .cons (Rp.dp d _ h1) (RpL.dp ds _ h2)
end

/-! ### the view of a value: data, or a mutable list as it stands -/
def moL : Option MO → Option D
  | some (.lst xs) => some (.lst xs)
  | _ => none
def vw (m : Mu) : DV → Option D
  | .d x => some x
  | .r a => moL (m a)
  | .scr _ => none
theorem vw_d {m : Mu} {x : D} : vw m (.d x) = some x := rfl
theorem vw_r {m : Mu} {a : Addr} {xs : List D} (h : m a = some (.lst xs)) : vw m (.r a) = some (.lst xs) := by show moL (m a) = _; rw [h]; rfl
theorem vw_rp {G : Ctx} {H : Hp} {m : Mu} {v : V} {dv : DV} {x : D} (s : S0 G H m) (r : RV G (fz H m) v dv) (h : vw m dv = some x) : Rp H v x := by
  cases dv with
  | d y => cases h; exact Rp.mono fz_ex _ _ r
  | r a =>
    cases r
    have h : moL (m a) = some x := h
    cases e : m a with
    | none => rw [e] at h; cases h
    | some o =>
      rw [e] at h
      cases o with
      | lst xs =>
        cases h
        obtain ⟨vs, h1, h2⟩ := s a _ e
        exact .lst h1 (RpL.mono fz_ex _ _ h2)
      | ins c fs => cases h
      | exc t => cases h
      | tpl es => cases h
      | dic kvs => cases h
  | scr ns => cases h
theorem Post.here {G : Ctx} {H : Hp} {m : Mu} {R : DV → Mu → Prop} {Q : VK} (p : Post G H m R Q) (s : S0 G H m) {v : V} {d : DV} (r : RV G (fz H m) v d) (k : R d m) : Q v H := p v H d m (Ex.refl _) s r k
theorem Post.lay {G : Ctx} {H : Hp} {m : Mu} {R : DV → Mu → Prop} {Q : VK} (p : Post G H m R Q) (s : S0 G H m) {a : Addr} (ha : H a = none) {vs : List V} {xs : List D} (r : RpL (fz H m) vs xs) (k : R (.d (.lst xs)) m) : Q (.ref a) (upd H a (.lst vs)) := by
  obtain ⟨s2, t2, e2⟩ := s.lay (o := .lst vs) ha
  exact p _ _ _ _ t2 s2 (RV.dat (Rp.lst e2 (RpL.mono t2 _ _ r))) k
theorem Post.layT {G : Ctx} {H : Hp} {m : Mu} {R : DV → Mu → Prop} {Q : VK} (p : Post G H m R Q) (s : S0 G H m) {a : Addr} (ha : H a = none) {vs : List V} {xs : List D} (r : RpL (fz H m) vs xs) (k : R (.d (.tup xs)) m) : Q (.ref a) (upd H a (.tup vs)) := by
  obtain ⟨s2, t2, e2⟩ := s.lay (o := .tup vs) ha
  exact p _ _ _ _ t2 s2 (RV.dat (Rp.tup e2 (RpL.mono t2 _ _ r))) k
theorem RpL.ints {F : Hp} : ∀ {ns : List Int} {vs : List V}, RpL F vs (ns.map D.int) → vs = ns.map V.int
  | [], _, .nil => rfl
  | n :: ns, _, .cons h t => by
    cases h
    rw [List.map_cons, RpL.ints t]
theorem RpL.ofInts {F : Hp} : ∀ (ns : List Int), RpL F (ns.map V.int) (ns.map D.int)
  | [] => .nil
  | n :: ns => .cons (.int n) (RpL.ofInts ns)
theorem RpL.bls {F : Hp} : ∀ {ns : List Bool} {vs : List V}, RpL F vs (ns.map D.bl) → vs = ns.map V.bl
  | [], _, .nil => rfl
  | n :: ns, _, .cons h t => by
    cases h
    rw [List.map_cons, RpL.bls t]
theorem atI_rp {F : Hp} {vs : List V} {xs : List D} {i : Int} {x : D} (r : RpL F vs xs) (h : atI xs i = some x) : ∃ v, atI vs i = some v ∧ Rp F v x := by
  unfold atI at h ⊢
  rw [r.length]
  cases e : ixN xs.length i with
  | none => rw [e] at h; cases h
  | some j =>
    rw [e] at h
    exact r.get h

/-! ### the operators -/
def addF : F2
  | .d (.int i), .d (.int j), m, R => R (.d (.int (i + j))) m
  | .d (.str s), .d (.str t), m, R => s.length + t.length ≤ 100000 ∧ R (.d (.str (s ++ t))) m
  | .d (.lst xs), .d (.lst ys), m, R => xs.length + ys.length ≤ 100000 ∧ R (.d (.lst (xs ++ ys))) m
  | .d (.tup xs), .d (.tup ys), m, R => xs.length + ys.length ≤ 100000 ∧ R (.d (.tup (xs ++ ys))) m
  | _, _, _, _ => False
def subF : F2
  | .d (.int i), .d (.int j), m, R => R (.d (.int (i - j))) m
  | _, _, _, _ => False
def mulF : F2
  | .d (.int i), .d (.int j), m, R => CMul i j ∧ R (.d (.int (i * j))) m
  | .d (.lst xs), .d (.int k), m, R => 0 ≤ k ∧ k ≤ 100000 ∧ xs.length * k.toNat ≤ 100000 ∧ R (.d (.lst (List.replicate k.toNat xs).flatten)) m
  | .d (.tup xs), .d (.int k), m, R => xs ≠ [] ∧ 1 ≤ k ∧ k ≤ 1000 ∧ xs.length ≤ 1000 ∧ R (.d (.tup (List.replicate k.toNat xs).flatten)) m
  | _, _, _, _ => False
def divF : F2
  | .d (.int i), .d (.int j), m, R => CDiv i j ∧ R (.d (.int (i / j))) m
  | _, _, _, _ => False
def modF : F2
  | .d (.int i), .d (.int j), m, R => 0 < j ∧ R (.d (.int (i % j))) m
  | _, _, _, _ => False
def powF : F2
  | .d (.int i), .d (.int j), m, R => CPow i j ∧ R (.d (.int (i ^ j.toNat))) m
  | _, _, _, _ => False
def ltF : F2
  | .d (.int i), .d (.int j), m, R => R (.d (.bl (decide (i < j)))) m
  | .d (.tup xs), .d (.tup ys), m, R => ∃ ns ms : List Int, xs = ns.map D.int ∧ ys = ms.map D.int ∧ R (.d (.bl (HT.lexLt ns ms))) m
  | _, _, _, _ => False
def leF : F2
  | .d (.int i), .d (.int j), m, R => R (.d (.bl (decide (i ≤ j)))) m
  | _, _, _, _ => False
def gtF : F2
  | .d (.int i), .d (.int j), m, R => R (.d (.bl (decide (j < i)))) m
  | _, _, _, _ => False
def geF : F2
  | .d (.int i), .d (.int j), m, R => R (.d (.bl (decide (j ≤ i)))) m
  | _, _, _, _ => False
def eqF : F2
  | .d x, .d y, m, R => Sh 63 x ∧ Sh 63 y ∧ R (.d (.bl (eqD x y))) m
  | x, y, m, R => ∃ a b, vw m x = some a ∧ vw m y = some b ∧ Sh 63 a ∧ Sh 63 b ∧ R (.d (.bl (eqD a b))) m
def neF : F2
  | .d x, .d y, m, R => Sh 63 x ∧ Sh 63 y ∧ R (.d (.bl (!eqD x y))) m
  | x, y, m, R => ∃ a b, vw m x = some a ∧ vw m y = some b ∧ Sh 63 a ∧ Sh 63 b ∧ R (.d (.bl (!eqD a b))) m
def isNon : DV → Bool
  | .d .non => true
  | _ => false
def isF : F2
  | x, .d .non, m, R => R (.d (.bl (isNon x))) m
  | _, _, _, _ => False
def isnotF : F2
  | x, .d .non, m, R => R (.d (.bl (!isNon x))) m
  | _, _, _, _ => False
def inF : F2
  | .d x, .d (.lst ys), m, R => Sh 63 x ∧ (∀ y ∈ ys, Sh 62 y) ∧ R (.d (.bl (ys.any fun y => eqD y x))) m
  | .d x, .d (.tup ys), m, R => Sh 63 x ∧ (∀ y ∈ ys, Sh 62 y) ∧ R (.d (.bl (ys.any fun y => eqD y x))) m
  | .d (.str s), .d (.str t), m, R => R (.d (.bl (!(Builtin.Str.occurrences t s 0 t.length 1).isEmpty))) m
  | .d x, .r a, m, R => ∃ ys, m a = some (.lst ys) ∧ Sh 63 x ∧ (∀ y ∈ ys, Sh 62 y) ∧ R (.d (.bl (ys.any fun y => eqD y x))) m
  | _, _, _, _ => False
def notinF : F2
  | .d x, .d (.lst ys), m, R => Sh 63 x ∧ (∀ y ∈ ys, Sh 62 y) ∧ R (.d (.bl (!ys.any fun y => eqD y x))) m
  | .d x, .d (.tup ys), m, R => Sh 63 x ∧ (∀ y ∈ ys, Sh 62 y) ∧ R (.d (.bl (!ys.any fun y => eqD y x))) m
  | .d (.str s), .d (.str t), m, R => R (.d (.bl (!(!(Builtin.Str.occurrences t s 0 t.length 1).isEmpty)))) m
  | .d x, .r a, m, R => ∃ ys, m a = some (.lst ys) ∧ Sh 63 x ∧ (∀ y ∈ ys, Sh 62 y) ∧ R (.d (.bl (!ys.any fun y => eqD y x))) m
  | _, _, _, _ => False
def negF : F1
  | .d (.int i), m, R => R (.d (.int (-i))) m
  | _, _, _ => False

open PySem.Spec PyProof.Rows in
theorem tuple_mul1 (l : Addr) (items : Array Value) (n : Nat) (dd : Option Addr) (sl : Array (Option Value)) (u : Tok) :
    Meets (Builtin.«tuple.__mul__» ⟨[.ref l, .int 1 u], []⟩) (fun _ R s => s.heap.get? l = some { cls := .type "tuple", dict := dd, data := .seq items n, slots := sl } ∧
      R (.ok (.ret (Value.ref l))) s) :=
  .of_wp fun prog w A R s h => by
    obtain ⟨hp, g, d, tk, os⟩ := s
    obtain ⟨hl, h⟩ := h
    have f1 := AutoSeq1.idx_int
    have c1 : (items.isEmpty || (1 : Int) == 1) = true := by rw [show ((1 : Int) == 1) = true from rfl, Bool.or_true]
    wp_walk using wpAny_loadPart' hl
    repeat (first
      | (refine wpAny_ite_true (decide_eq_true c1) ?_; wp_walk using wpAny_loadPart' hl)
      | (refine wpAny_ite_true c1 ?_; wp_walk using wpAny_loadPart' hl))
    exact ⟨_, rfl, h⟩
open PySem.Spec PyProof.Rows in
theorem rep1_ok {X : Cx} {pins : List (Addr × Obj)} {s : Shared} {σ : L2.St} {H : Hp} {l : Addr} {xs : List V} {t : Tok} {Q : VK} (I : L2.Inv X pins σ H s) (hT : SqT X.K H l xs) (q : Q (.ref l) H) : wpAny (model X.prog X.w) X.A (binaryOp .Mult (.ref l) (.int 1 t)) (EP X pins σ Q) X.xe s := by
  obtain ⟨its, r, ⟨⟨cls, dd, data, sl⟩, ho, hc, n, hd⟩, hs⟩ := I.tuple hT
  simp only at hc hd
  subst hc hd
  exact wpAny_binaryOp_repeat_ref (T := "tuple") (U := "int") (by decide) ⟨_, ho, rfl⟩ (fun s' => typeIs_int s' 1 t) noFill_tuple_mul F.fills_int_mul F.slot_int_rmul repeat_tuple F.slot_int_index.lookup
    (call_meets F.slot_int_rmul (typeIs_int s 1 t) F.entry_int_rmul (F.args_int_rmul_2 _ _) (int_rmul_tuple 1 t l its.toArray n dd sl)
      ⟨ho, rfl, ⟨_, ho, rfl⟩, call_meets F.slot_tuple_mul ⟨_, ho, rfl⟩ F.entry_tuple_mul (F.args_tuple_mul_2 _ _) (tuple_mul1 l its.toArray n dd sl t) ⟨ho, ⟨.ref l, H, I, rfl, q⟩⟩⟩)
section
variable {X : Cx} {G : Ctx}
theorem or_add (hK : X.K = G.K) : OpR X (binaryOp .Add) (rD2 G addF) := by
  intro pins s σ H x y v u Q I rx ry h
  obtain ⟨dx, dy, m, R, s0, r1, r2, h, p⟩ := h
  unfold addF at h
  split at h
  · cases r1; cases r2
    exact op_add pins s σ H _ _ v u Q I rx ry ⟨_, _, rfl, rfl, p.here s0 (RV.dat (Rp.int _)) h⟩
  · cases r1; cases r2
    exact op_add_str pins s σ H _ _ v u Q I rx ry ⟨_, _, rfl, rfl, sz_of h.1, p.here s0 (RV.dat (Rp.str _)) h.2⟩
  · cases r1 with
    | lst h1 h2 =>
      cases r2 with
      | lst h3 h4 =>
        exact op_cat pins s σ H _ _ v u Q I rx ry ⟨_, _, _, _, rfl, rfl, fz_ex _ _ h1, fz_ex _ _ h3, sz_of (by rw [h2.length, h4.length]; exact h.1), fun a ha => p.lay s0 ha (h2.app h4) h.2⟩
  · cases r1 with
    | tup h1 h2 =>
      cases r2 with
      | tup h3 h4 =>
        refine op_catA pins s σ H _ _ v u Q I rx ry ⟨_, _, _, _, rfl, rfl, SqT.of (fz_ex _ _ h1), SqT.of (fz_ex _ _ h3), sz_of (by rw [h2.length, h4.length]; exact h.1), fun e => ?_, fun _ e => ?_, fun _ _ a ha => p.layT s0 ha (h2.app h4) h.2⟩
        · subst e
          cases h2
          exact p.here s0 (RV.dat (Rp.tup h3 h4)) h.2
        · subst e
          cases h4
          exact p.here s0 (RV.dat (Rp.tup h1 h2)) (by have z := h.2; rw [List.append_nil] at z; exact z)
  · exact h.elim
theorem or_sub : OpR X (binaryOp .Sub) (rD2 G subF) := by
  intro pins s σ H x y v u Q I rx ry h
  obtain ⟨dx, dy, m, R, s0, r1, r2, h, p⟩ := h
  unfold subF at h
  split at h
  · cases r1; cases r2
    exact op_sub pins s σ H _ _ v u Q I rx ry ⟨_, _, rfl, rfl, p.here s0 (RV.dat (Rp.int _)) h⟩
  · exact h.elim
theorem or_mul : OpR X (binaryOp .Mult) (rD2 G mulF) := by
  intro pins s σ H x y v u Q I rx ry h
  obtain ⟨dx, dy, m, R, s0, r1, r2, h, p⟩ := h
  unfold mulF at h
  split at h
  · cases r1; cases r2
    exact op_mul pins s σ H _ _ v u Q I rx ry ⟨_, _, rfl, rfl, h.1, p.here s0 (RV.dat (Rp.int _)) h.2⟩
  · cases r2
    cases r1 with
    | lst h1 h2 =>
      exact op_rep pins s σ H _ _ v u Q I rx ry ⟨_, _, _, rfl, rfl, fz_ex _ _ h1, by omega, by omega, sz_of (by rw [h2.length]; exact h.2.2.1), fun a ha => p.lay s0 ha (h2.rep _) h.2.2.2⟩
  · cases r2
    cases r1 with
    | tup h1 h2 =>
      rename_i k _ _
      by_cases hk1 : k = 1
      · subst hk1
        cases (show v = Value.ref _ from rx)
        obtain ⟨t, rfl⟩ := (show ∃ t, u = Value.int 1 t from ry)
        refine rep1_ok I (SqT.of (fz_ex _ _ h1)) (p.here s0 (RV.dat (Rp.tup h1 h2)) ?_)
        have z := h.2.2.2.2
        rw [show (1 : Int).toNat = 1 from rfl, List.replicate_one, List.flatten_cons, List.flatten_nil, List.append_nil] at z
        exact z
      have h : _ ≠ [] ∧ 2 ≤ k ∧ _ := ⟨h.1, by have := h.2.1; omega, h.2.2⟩
      exact op_repT pins s σ H _ _ v u Q I rx ry ⟨_, _, _, rfl, rfl, .inl (.inl (fz_ex _ _ h1)), fun e => h.1 (List.eq_nil_of_length_eq_zero (by rw [← h2.length, e]; rfl)), h.2.1, h.2.2.1, by rw [h2.length]; exact h.2.2.2.1, fun a ha => p.layT s0 ha (h2.rep _) h.2.2.2.2⟩
  · exact h.elim
theorem or_div : OpR X (binaryOp .FloorDiv) (rD2 G divF) := by
  intro pins s σ H x y v u Q I rx ry h
  obtain ⟨dx, dy, m, R, s0, r1, r2, h, p⟩ := h
  unfold divF at h
  split at h
  · cases r1; cases r2
    exact op_fdiv pins s σ H _ _ v u Q I rx ry ⟨_, _, rfl, rfl, h.1, p.here s0 (RV.dat (Rp.int _)) h.2⟩
  · exact h.elim
theorem or_mod : OpR X (binaryOp .Mod) (rD2 G modF) := by
  intro pins s σ H x y v u Q I rx ry h
  obtain ⟨dx, dy, m, R, s0, r1, r2, h, p⟩ := h
  unfold modF at h
  split at h
  · cases r1; cases r2
    exact op_mod pins s σ H _ _ v u Q I rx ry ⟨_, _, rfl, rfl, h.1, p.here s0 (RV.dat (Rp.int _)) h.2⟩
  · exact h.elim
theorem or_pow : OpR X (binaryOp .Pow) (rD2 G powF) := by
  intro pins s σ H x y v u Q I rx ry h
  obtain ⟨dx, dy, m, R, s0, r1, r2, h, p⟩ := h
  unfold powF at h
  split at h
  · cases r1; cases r2
    exact op_pow pins s σ H _ _ v u Q I rx ry ⟨_, _, rfl, rfl, h.1, p.here s0 (RV.dat (Rp.int _)) h.2⟩
  · exact h.elim
theorem or_lt (hu : X.A.units < cLine) : OpR X (compareOp .Lt) (rD2 G ltF) := by
  intro pins s σ H x y v u Q I rx ry h
  obtain ⟨dx, dy, m, R, s0, r1, r2, h, p⟩ := h
  unfold ltF at h
  split at h
  · cases r1; cases r2
    exact op_lt pins s σ H _ _ v u Q I rx ry ⟨_, _, rfl, rfl, p.here s0 (RV.dat (Rp.bl _)) h⟩
  · obtain ⟨ns, ms, rfl, rfl, h⟩ := h
    cases r1 with
    | tup h1 h2 =>
      cases r2 with
      | tup h3 h4 =>
        have e1 := h2.ints
        have e2 := h4.ints
        subst e1 e2
        exact op_ltT hu pins s σ H _ _ v u Q I rx ry ⟨_, _, ns, ms, rfl, rfl, SqT.of (fz_ex _ _ h1), SqT.of (fz_ex _ _ h3), p.here s0 (RV.dat (Rp.bl _)) h⟩
  · exact h.elim
theorem or_le : OpR X (compareOp .LtE) (rD2 G leF) := by
  intro pins s σ H x y v u Q I rx ry h
  obtain ⟨dx, dy, m, R, s0, r1, r2, h, p⟩ := h
  unfold leF at h
  split at h
  · cases r1; cases r2
    exact op_le pins s σ H _ _ v u Q I rx ry ⟨_, _, rfl, rfl, p.here s0 (RV.dat (Rp.bl _)) h⟩
  · exact h.elim
theorem or_gt : OpR X (compareOp .Gt) (rD2 G gtF) := by
  intro pins s σ H x y v u Q I rx ry h
  obtain ⟨dx, dy, m, R, s0, r1, r2, h, p⟩ := h
  unfold gtF at h
  split at h
  · cases r1; cases r2
    exact op_gt pins s σ H _ _ v u Q I rx ry ⟨_, _, rfl, rfl, p.here s0 (RV.dat (Rp.bl _)) h⟩
  · exact h.elim
theorem or_ge : OpR X (compareOp .GtE) (rD2 G geF) := by
  intro pins s σ H x y v u Q I rx ry h
  obtain ⟨dx, dy, m, R, s0, r1, r2, h, p⟩ := h
  unfold geF at h
  split at h
  · cases r1; cases r2
    exact op_ge pins s σ H _ _ v u Q I rx ry ⟨_, _, rfl, rfl, p.here s0 (RV.dat (Rp.bl _)) h⟩
  · exact h.elim
theorem eqF_out {dx dy : DV} {m : Mu} {R : DV → Mu → Prop} (h : eqF dx dy m R) : ∃ a b, vw m dx = some a ∧ vw m dy = some b ∧ Sh 63 a ∧ Sh 63 b ∧ R (.d (.bl (eqD a b))) m := by
  unfold eqF at h
  split at h
  · exact ⟨_, _, rfl, rfl, h⟩
  · exact h
theorem neF_out {dx dy : DV} {m : Mu} {R : DV → Mu → Prop} (h : neF dx dy m R) : ∃ a b, vw m dx = some a ∧ vw m dy = some b ∧ Sh 63 a ∧ Sh 63 b ∧ R (.d (.bl (!eqD a b))) m := by
  unfold neF at h
  split at h
  · exact ⟨_, _, rfl, rfl, h⟩
  · exact h
theorem or_eq (hu : X.A.units + 64 < cLine) : OpR X (compareOp .Eq) (rD2 G eqF) := by
  intro pins s σ H x y v u Q I rx ry h
  obtain ⟨dx, dy, m, R, s0, r1, r2, h, p⟩ := h
  obtain ⟨a, b, e1, e2, h1, h2, h⟩ := eqF_out h
  exact op_eqD hu pins s σ H x y v u Q I rx ry ⟨_, _, Rp.dp _ _ (vw_rp s0 r1 e1), Rp.dp _ _ (vw_rp s0 r2 e2), h1.shaped, h2.shaped, p.here s0 (RV.dat (Rp.bl _)) h⟩
theorem or_ne (hu : X.A.units + 64 < cLine) : OpR X (compareOp .NotEq) (rD2 G neF) := by
  intro pins s σ H x y v u Q I rx ry h
  obtain ⟨dx, dy, m, R, s0, r1, r2, h, p⟩ := h
  obtain ⟨a, b, e1, e2, h1, h2, h⟩ := neF_out h
  exact op_neD hu pins s σ H x y v u Q I rx ry ⟨_, _, Rp.dp _ _ (vw_rp s0 r1 e1), Rp.dp _ _ (vw_rp s0 r2 e2), h1.shaped, h2.shaped, p.here s0 (RV.dat (Rp.bl _)) h⟩
theorem isNon_of {F : Hp} {v : V} {d : DV} (r : RV G F v d) : decide (v = .non) = isNon d := by
  cases d with
  | d x => cases r <;> rfl
  | r a => cases r; rfl
  | scr ns => obtain ⟨a, rfl, _⟩ := r; rfl
theorem or_is : OpR X (compareOp .Is) (rD2 G isF) := by
  intro pins s σ H x y v u Q I rx ry h
  obtain ⟨dx, dy, m, R, s0, r1, r2, h, p⟩ := h
  unfold isF at h
  split at h
  · cases r2
    exact op_isN pins s σ H _ _ v u Q I rx ry ⟨rfl, by rw [isNon_of r1]; exact p.here s0 (RV.dat (Rp.bl _)) h⟩
  · exact h.elim
theorem or_isnot : OpR X (compareOp .IsNot) (rD2 G isnotF) := by
  intro pins s σ H x y v u Q I rx ry h
  obtain ⟨dx, dy, m, R, s0, r1, r2, h, p⟩ := h
  unfold isnotF at h
  split at h
  · cases r2
    exact op_notN pins s σ H _ _ v u Q I rx ry ⟨rfl, by rw [isNon_of r1]; exact p.here s0 (RV.dat (Rp.bl _)) h⟩
  · exact h.elim
theorem any_toPy (x : D) : ∀ ys : List D, ((toPys ys).any fun z => PyData.eqv z (toPy x)) = ys.any fun y => eqD y x
  | [] => rfl
  | y :: ys => by rw [toPys, List.any_cons, List.any_cons, any_toPy x ys]; rfl
theorem Sh.lst {ys : List D} (h : ∀ y ∈ ys, Sh 62 y) : Sh 63 (.lst ys) := by unfold Sh; exact h
theorem Sh.tup {ys : List D} (h : ∀ y ∈ ys, Sh 62 y) : Sh 63 (.tup ys) := by unfold Sh; exact h
theorem inL {hu : X.A.units + 65 < cLine} {pins : List (Addr × Obj)} {s : Shared} {σ : L2.St} {H : Hp} {x y : V} {v u : Value} {Q : VK} (I : Inv X pins σ H s) (rx : RelV x v) (ry : RelV y u) {a : D} {ys : List D} (r1 : Rp H x a) (r2 : Rp H y (.lst ys)) (h1 : Sh 63 a) (h2 : ∀ y ∈ ys, Sh 62 y) (q : Q (.bl (ys.any fun y => eqD y a)) H) : wpAny (model X.prog X.w) X.A (compareOp .In v u) (EP X pins σ Q) X.xe s :=
  op_inD hu pins s σ H x y v u Q I rx ry ⟨toPy a, toPys ys, Rp.dp _ _ r1, by have z := Rp.dp (K := X.K) _ _ r2; rw [toPy] at z; exact z, h1.shaped, by have z := (Sh.lst h2).shaped; rw [toPy] at z; exact z, by rw [any_toPy]; exact q⟩
theorem notinL {hu : X.A.units + 65 < cLine} {pins : List (Addr × Obj)} {s : Shared} {σ : L2.St} {H : Hp} {x y : V} {v u : Value} {Q : VK} (I : Inv X pins σ H s) (rx : RelV x v) (ry : RelV y u) {a : D} {ys : List D} (r1 : Rp H x a) (r2 : Rp H y (.lst ys)) (h1 : Sh 63 a) (h2 : ∀ y ∈ ys, Sh 62 y) (q : Q (.bl (!ys.any fun y => eqD y a)) H) : wpAny (model X.prog X.w) X.A (compareOp .NotIn v u) (EP X pins σ Q) X.xe s :=
  op_notInD hu pins s σ H x y v u Q I rx ry ⟨toPy a, toPys ys, Rp.dp _ _ r1, by have z := Rp.dp (K := X.K) _ _ r2; rw [toPy] at z; exact z, h1.shaped, by have z := (Sh.lst h2).shaped; rw [toPy] at z; exact z, by rw [any_toPy]; exact q⟩
theorem or_in (hu : X.A.units + 65 < cLine) : OpR X (compareOp .In) (rD2 G inF) := by
  intro pins s σ H x y v u Q I rx ry h
  obtain ⟨dx, dy, m, R, s0, r1, r2, h, p⟩ := h
  unfold inF at h
  split at h
  · exact inL (hu := hu) I rx ry (vw_rp s0 r1 rfl) (vw_rp s0 r2 rfl) h.1 h.2.1 (p.here s0 (RV.dat (Rp.bl _)) h.2.2)
  · obtain ⟨as, q1⟩ := Dp.reads I _ x v (Rp.dp (K := X.K) _ _ (vw_rp s0 r1 rfl)) rx
    have z := Rp.dp (K := X.K) _ _ (vw_rp s0 r2 rfl)
    obtain ⟨bs, q2⟩ := Dp.reads I _ y u z ry
    rw [toPy] at q2
    have sh := (Sh.tup h.2.1).shaped
    rw [toPy] at sh
    refine SeqAt.in_tuple_reads q2 q1 (SeqAt.canLay_of_shaped sh) (SeqAt.canLay_of_shaped h.1.shaped) (PyProof.Rows.room_in_shaped h.1.shaped hu) ⟨.bl _, H, I, rfl, ?_⟩
    rw [any_toPy]
    exact p.here s0 (RV.dat (Rp.bl _)) h.2.2
  · cases r1; cases r2
    exact op_in_str pins s σ H _ _ v u Q I rx ry ⟨_, _, rfl, rfl, p.here s0 (RV.dat (Rp.bl _)) h⟩
  · obtain ⟨ys, e, h1, h2, h⟩ := h
    exact inL (hu := hu) I rx ry (vw_rp s0 r1 rfl) (vw_rp s0 r2 (vw_r e)) h1 h2 (p.here s0 (RV.dat (Rp.bl _)) h)
  · exact h.elim
theorem or_notin (hu : X.A.units + 65 < cLine) : OpR X (compareOp .NotIn) (rD2 G notinF) := by
  intro pins s σ H x y v u Q I rx ry h
  obtain ⟨dx, dy, m, R, s0, r1, r2, h, p⟩ := h
  unfold notinF at h
  split at h
  · exact notinL (hu := hu) I rx ry (vw_rp s0 r1 rfl) (vw_rp s0 r2 rfl) h.1 h.2.1 (p.here s0 (RV.dat (Rp.bl _)) h.2.2)
  · obtain ⟨as, q1⟩ := Dp.reads I _ x v (Rp.dp (K := X.K) _ _ (vw_rp s0 r1 rfl)) rx
    have z := Rp.dp (K := X.K) _ _ (vw_rp s0 r2 rfl)
    obtain ⟨bs, q2⟩ := Dp.reads I _ y u z ry
    rw [toPy] at q2
    have sh := (Sh.tup h.2.1).shaped
    rw [toPy] at sh
    refine SeqAt.notIn_tuple_reads q2 q1 (SeqAt.canLay_of_shaped sh) (SeqAt.canLay_of_shaped h.1.shaped) (PyProof.Rows.room_in_shaped h.1.shaped hu) ⟨.bl _, H, I, rfl, ?_⟩
    rw [any_toPy]
    exact p.here s0 (RV.dat (Rp.bl _)) h.2.2
  · cases r1; cases r2
    exact op_notin_str pins s σ H _ _ v u Q I rx ry ⟨_, _, rfl, rfl, p.here s0 (RV.dat (Rp.bl _)) h⟩
  · obtain ⟨ys, e, h1, h2, h⟩ := h
    exact notinL (hu := hu) I rx ry (vw_rp s0 r1 rfl) (vw_rp s0 r2 (vw_r e)) h1 h2 (p.here s0 (RV.dat (Rp.bl _)) h)
  · exact h.elim
theorem ur_neg : UnR X (unaryOp .USub) (rD1 G negF) := by
  intro pins s σ H x v Q I rx h
  obtain ⟨dx, m, R, s0, r1, h, p⟩ := h
  unfold negF at h
  split at h
  · cases r1
    exact un_neg pins s σ H _ v Q I rx ⟨_, rfl, p.here s0 (RV.dat (Rp.int _)) h⟩
  · exact h.elim
end
end Lb

/-! Lb2: built-ins, subscripts, slices, methods, tests by data. -/
namespace Lb
open PySem L2

/-! ### calls of built-ins -/
def lenF : FN
  | [.d (.lst xs)], m, R => R (.d (.int xs.length)) m
  | [.d (.tup xs)], m, R => R (.d (.int xs.length)) m
  | [.d (.str s)], m, R => s.length ≤ 100000 ∧ R (.d (.int s.length)) m
  | [.r a], m, R => ∃ xs, m a = some (.lst xs) ∧ R (.d (.int xs.length)) m
  | [.scr ns], m, R => R (.d (.int ns.length)) m
  | _, _, _ => False
def absF : FN
  | [.d (.int i)], m, R => R (.d (.int (if i < 0 then -i else i))) m
  | _, _, _ => False
def sumF : FN
  | [.d (.lst xs)], m, R => ∃ ns : List Int, xs = ns.map D.int ∧ R (.d (.int ns.sum)) m
  | [.d (.tup xs)], m, R => ∃ ns : List Int, xs = ns.map D.int ∧ R (.d (.int ns.sum)) m
  | _, _, _ => False
def minF : FN
  | [.d (.int i), .d (.int j)], m, R => R (.d (.int (if j < i then j else i))) m
  | [.d (.lst xs)], m, R => ∃ ns : List Int, xs = ns.map D.int ∧ 0 < ns.length ∧ ∀ k, k ∈ ns → (∀ y, y ∈ ns → k ≤ y) → R (.d (.int k)) m
  | [.r a], m, R => ∃ ns : List Int, m a = some (.lst (ns.map D.int)) ∧ 0 < ns.length ∧ ∀ k, k ∈ ns → (∀ y, y ∈ ns → k ≤ y) → R (.d (.int k)) m
  | _, _, _ => False
def maxF : FN
  | [.d (.int i), .d (.int j)], m, R => R (.d (.int (if j > i then j else i))) m
  | [.d (.lst xs)], m, R => ∃ ns : List Int, xs = ns.map D.int ∧ 0 < ns.length ∧ ∀ k, k ∈ ns → (∀ y, y ∈ ns → y ≤ k) → R (.d (.int k)) m
  | _, _, _ => False
def allF : FN
  | [.d (.lst xs)], m, R => ∃ bs : List Bool, xs = bs.map D.bl ∧ R (.d (.bl (bs.all id))) m
  | _, _, _ => False
def anyF : FN
  | [.d (.lst xs)], m, R => ∃ bs : List Bool, xs = bs.map D.bl ∧ R (.d (.bl (bs.any id))) m
  | _, _, _ => False
def listF : FN
  | [.d (.lst xs)], m, R => R (.d (.lst xs)) m
  | [.d (.tup xs)], m, R => R (.d (.lst xs)) m
  | [.r a], m, R => ∃ xs, m a = some (.lst xs) ∧ R (.d (.lst xs)) m
  | _, _, _ => False
def tupleF : FN
  | [.d (.lst xs)], m, R => R (.d (.tup xs)) m
  | [.d (.tup xs)], m, R => R (.d (.tup xs)) m
  | [.r a], m, R => ∃ xs, m a = some (.lst xs) ∧ R (.d (.tup xs)) m
  | _, _, _ => False
def intF : FN
  | [.d (.int i)], m, R => R (.d (.int i)) m
  | [.d (.bl b)], m, R => R (.d (.int (if b then 1 else 0))) m
  | _, _, _ => False
section
variable {X : Cx} {G : Ctx}
theorem sqL_of {H : Hp} {a : Addr} {xs : List D} (h : Rp H (.ref a) (.lst xs)) : ∃ vs, H a = some (.lst vs) ∧ RpL H vs xs := by
  cases h with
  | lst h1 h2 => exact ⟨_, h1, h2⟩
theorem cr_len (hK : X.K = G.K) : CallR X (.builtin "len") (rDn G lenF) := by
  intro pins s σ H xs us Q I r h
  obtain ⟨dx, m, R, s0, r1, h, p⟩ := h
  unfold lenF at h
  split at h
  · cases r1 with
    | cons q1 q2 =>
      cases q2
      cases q1 with
      | lst h1 h2 => exact call_len_seq pins s σ H _ us Q I r ⟨_, _, rfl, .inl (SqL.of (fz_ex _ _ h1)), p.here s0 (RV.dat (by rw [h2.length]; exact Rp.int _)) h⟩
  · cases r1 with
    | cons q1 q2 =>
      cases q2
      cases q1 with
      | tup h1 h2 => exact call_len_seq pins s σ H _ us Q I r ⟨_, _, rfl, .inr (SqT.of (fz_ex _ _ h1)), p.here s0 (RV.dat (by rw [h2.length]; exact Rp.int _)) h⟩
  · cases r1 with
    | cons q1 q2 =>
      cases q2
      cases q1
      exact call_len_str pins s σ H _ us Q I r ⟨_, rfl, sz_of h.1, p.here s0 (RV.dat (Rp.int _)) h.2⟩
  · obtain ⟨xs, e, h⟩ := h
    cases r1 with
    | cons q1 q2 =>
      cases q2
      cases q1
      obtain ⟨vs, h1, h2⟩ := s0 _ _ e
      exact call_len_seq pins s σ H _ us Q I r ⟨_, _, rfl, .inl (SqL.of h1), p.here s0 (RV.dat (by rw [h2.length]; exact Rp.int _)) h⟩
  · cases r1 with
    | cons q1 q2 =>
      cases q2
      obtain ⟨a, rfl, h1⟩ := q1
      have h2 := Same.seq (show Same (fz H m) H from fz_ex) h1
      rw [← hK] at h2
      refine call_len_seq pins s σ H _ us Q I r ⟨_, _, rfl, .inl h2, p.here s0 (RV.dat ?_) h⟩
      rw [List.length_map]; exact Rp.int _
  · exact h.elim
theorem cr_abs : CallR X (.builtin "abs") (rDn G absF) := by
  intro pins s σ H xs us Q I r h
  obtain ⟨dx, m, R, s0, r1, h, p⟩ := h
  unfold absF at h
  split at h
  · cases r1 with
    | cons q1 q2 =>
      cases q2
      cases q1
      exact call_abs pins s σ H _ us Q I r ⟨_, rfl, p.here s0 (RV.dat (Rp.int _)) h⟩
  · exact h.elim
theorem cr_sumTup (hc : X.calm = true) : CallR X (.builtin "sum") (fun xs H Q => ∃ (a : Addr) (ns : List Int), xs = [V.ref a] ∧ SqT X.K H a (ns.map V.int) ∧ Q (.int ns.sum) H) := by
  intro pins s σ H xs us Q I r h
  obtain ⟨a, ns, rfl, hs, q⟩ := h
  rw [Vals.ref1 r]
  obtain ⟨its, rv, ht, hz⟩ := I.tuple hs
  have hi := Vals.ints rv
  obtain ⟨zs, e⟩ := hi.allInts.items
  have hn : PySem.numsOf (PySem.intItems zs).toList = ns := by rw [← e]; exact hi.numsOf
  rw [PySem.nums_intItems] at hn
  have ht2 : s.heap.IsTuple a its.toArray := ht
  rw [e] at ht2
  refine PySem.W.ktm_sumG (I.ok.hd hc) ht2 fun h' tk t' hk => ?_
  rw [PySem.preSum_eq, List.take_of_length_le (by simp), hn]
  exact ⟨.int ns.sum, H, I.kept hk, ⟨_, rfl⟩, q⟩
theorem cr_sumD (hc : X.calm = true) : CallR X (.builtin "sum") (rDn G sumF) := by
  intro pins s σ H xs us Q I r h
  obtain ⟨dx, m, R, s0, r1, h, p⟩ := h
  unfold sumF at h
  split at h
  · obtain ⟨ns, rfl, h⟩ := h
    cases r1 with
    | cons q1 q2 =>
      cases q2
      cases q1 with
      | lst h1 h2 =>
        have e := h2.ints
        subst e
        exact cr_sum hc pins s σ H _ us Q I r ⟨_, ns, rfl, SqL.of (fz_ex _ _ h1), p.here s0 (RV.dat (Rp.int _)) h⟩
  · obtain ⟨ns, rfl, h⟩ := h
    cases r1 with
    | cons q1 q2 =>
      cases q2
      cases q1 with
      | tup h1 h2 =>
        have e := h2.ints
        subst e
        exact cr_sumTup hc pins s σ H _ us Q I r ⟨_, ns, rfl, SqT.of (fz_ex _ _ h1), p.here s0 (RV.dat (Rp.int _)) h⟩
  · exact h.elim
theorem cr_minD (hc : X.calm = true) : CallR X (.builtin "min") (rDn G minF) := by
  intro pins s σ H xs us Q I r h
  obtain ⟨dx, m, R, s0, r1, h, p⟩ := h
  unfold minF at h
  split at h
  · cases r1 with
    | cons q1 q2 =>
      cases q2 with
      | cons q2 q3 =>
        cases q3
        cases q1
        cases q2
        exact call_min2 hc pins s σ H _ us Q I r ⟨_, _, rfl, p.here s0 (RV.dat (Rp.int _)) h⟩
  · obtain ⟨ns, rfl, hl, h⟩ := h
    cases r1 with
    | cons q1 q2 =>
      cases q2
      cases q1 with
      | lst h1 h2 =>
        have e := h2.ints
        subst e
        exact cr_min hc pins s σ H _ us Q I r ⟨_, ns, rfl, SqL.of (fz_ex _ _ h1), hl, fun k hk hy => p.here s0 (RV.dat (Rp.int _)) (h k hk hy)⟩
  · obtain ⟨ns, e, hl, h⟩ := h
    cases r1 with
    | cons q1 q2 =>
      cases q2
      cases q1
      obtain ⟨vs, h1, h2⟩ := s0 _ _ e
      have e := h2.ints
      subst e
      exact cr_min hc pins s σ H _ us Q I r ⟨_, ns, rfl, SqL.of h1, hl, fun k hk hy => p.here s0 (RV.dat (Rp.int _)) (h k hk hy)⟩
  · exact h.elim
theorem cr_maxD (hc : X.calm = true) : CallR X (.builtin "max") (rDn G maxF) := by
  intro pins s σ H xs us Q I r h
  obtain ⟨dx, m, R, s0, r1, h, p⟩ := h
  unfold maxF at h
  split at h
  · cases r1 with
    | cons q1 q2 =>
      cases q2 with
      | cons q2 q3 =>
        cases q3
        cases q1
        cases q2
        exact call_max2 hc pins s σ H _ us Q I r ⟨_, _, rfl, p.here s0 (RV.dat (Rp.int _)) h⟩
  · obtain ⟨ns, rfl, hl, h⟩ := h
    cases r1 with
    | cons q1 q2 =>
      cases q2
      cases q1 with
      | lst h1 h2 =>
        have e := h2.ints
        subst e
        exact cr_max hc pins s σ H _ us Q I r ⟨_, ns, rfl, SqL.of (fz_ex _ _ h1), hl, fun k hk hy => p.here s0 (RV.dat (Rp.int _)) (h k hk hy)⟩
  · exact h.elim
theorem cr_allD (hc : X.calm = true) : CallR X (.builtin "all") (rDn G allF) := by
  intro pins s σ H xs us Q I r h
  obtain ⟨dx, m, R, s0, r1, h, p⟩ := h
  unfold allF at h
  split at h
  · obtain ⟨ns, rfl, h⟩ := h
    cases r1 with
    | cons q1 q2 =>
      cases q2
      cases q1 with
      | lst h1 h2 =>
        have e := h2.bls
        subst e
        exact cr_all hc pins s σ H _ us Q I r ⟨_, ns, rfl, SqL.of (fz_ex _ _ h1), p.here s0 (RV.dat (Rp.bl _)) h⟩
  · exact h.elim
theorem cr_anyD (hc : X.calm = true) : CallR X (.builtin "any") (rDn G anyF) := by
  intro pins s σ H xs us Q I r h
  obtain ⟨dx, m, R, s0, r1, h, p⟩ := h
  unfold anyF at h
  split at h
  · obtain ⟨ns, rfl, h⟩ := h
    cases r1 with
    | cons q1 q2 =>
      cases q2
      cases q1 with
      | lst h1 h2 =>
        have e := h2.bls
        subst e
        exact cr_any hc pins s σ H _ us Q I r ⟨_, ns, rfl, SqL.of (fz_ex _ _ h1), p.here s0 (RV.dat (Rp.bl _)) h⟩
  · exact h.elim
theorem cr_listD : CallR X (.type "list") (rDn G listF) := by
  intro pins s σ H xs us Q I r h
  obtain ⟨dx, m, R, s0, r1, h, p⟩ := h
  unfold listF at h
  split at h
  · cases r1 with
    | cons q1 q2 =>
      cases q2
      cases q1 with
      | lst h1 h2 => exact call_list_of pins s σ H _ us Q I r ⟨_, _, rfl, .inl (SqL.of (fz_ex _ _ h1)), fun l hl => p.lay s0 hl h2 h⟩
  · cases r1 with
    | cons q1 q2 =>
      cases q2
      cases q1 with
      | tup h1 h2 => exact call_list_of pins s σ H _ us Q I r ⟨_, _, rfl, .inr (SqT.of (fz_ex _ _ h1)), fun l hl => p.lay s0 hl h2 h⟩
  · obtain ⟨xs, e, h⟩ := h
    cases r1 with
    | cons q1 q2 =>
      cases q2
      cases q1
      obtain ⟨vs, h1, h2⟩ := s0 _ _ e
      exact call_list_of pins s σ H _ us Q I r ⟨_, _, rfl, .inl (SqL.of h1), fun l hl => p.lay s0 hl h2 h⟩
  · exact h.elim
theorem cr_tupleD : CallR X (.type "tuple") (rDn G tupleF) := by
  intro pins s σ H xs us Q I r h
  obtain ⟨dx, m, R, s0, r1, h, p⟩ := h
  unfold tupleF at h
  split at h
  · cases r1 with
    | cons q1 q2 =>
      cases q2
      cases q1 with
      | lst h1 h2 => exact call_tuple_of pins s σ H _ us Q I r ⟨_, _, rfl, .inl ⟨SqL.of (fz_ex _ _ h1), fun l hl => p.layT s0 hl h2 h⟩⟩
  · cases r1 with
    | cons q1 q2 =>
      cases q2
      cases q1 with
      | tup h1 h2 => exact call_tuple_of pins s σ H _ us Q I r ⟨_, _, rfl, .inr ⟨SqT.of (fz_ex _ _ h1), p.here s0 (RV.dat (Rp.tup h1 h2)) h⟩⟩
  · obtain ⟨xs, e, h⟩ := h
    cases r1 with
    | cons q1 q2 =>
      cases q2
      cases q1
      obtain ⟨vs, h1, h2⟩ := s0 _ _ e
      exact call_tuple_of pins s σ H _ us Q I r ⟨_, _, rfl, .inl ⟨SqL.of h1, fun l hl => p.layT s0 hl h2 h⟩⟩
  · exact h.elim
theorem cr_intD : CallR X (.type "int") (rDn G intF) := by
  intro pins s σ H xs us Q I r h
  obtain ⟨dx, m, R, s0, r1, h, p⟩ := h
  unfold intF at h
  split at h
  · cases r1 with
    | cons q1 q2 =>
      cases q2
      cases q1
      exact call_int1 pins s σ H _ us Q I r (.inl ⟨_, rfl, p.here s0 (RV.dat (Rp.int _)) h⟩)
  · cases r1 with
    | cons q1 q2 =>
      cases q2
      cases q1
      exact call_int1 pins s σ H _ us Q I r (.inr ⟨_, rfl, p.here s0 (RV.dat (Rp.int _)) h⟩)
  · exact h.elim
end

/-! ### subscripts -/
def idxF : F2
  | .d (.lst xs), .d (.int i), m, R => ∃ x, atI xs i = some x ∧ R (.d x) m
  | .d (.tup xs), .d (.int i), m, R => ∃ x, atI xs i = some x ∧ R (.d x) m
  | .d (.str s), .d (.int i), m, R => s.length ≤ 100000 ∧ ∃ c, atI s.cps.toList i = some c ∧ R (.d (.str ⟨#[c]⟩)) m
  | .r a, .d (.int i), m, R => ∃ xs, m a = some (.lst xs) ∧ ∃ x, atI xs i = some x ∧ R (.d x) m
  | .scr ns, .d (.int i), m, R => ∃ n, atI ns i = some n ∧ R (.d (.int n)) m
  | _, _, _, _ => False
theorem atI_map {α β : Type} {f : α → β} {xs : List α} {i : Int} {x : α} (h : atI xs i = some x) : atI (xs.map f) i = some (f x) := by
  unfold atI at h ⊢
  rw [List.length_map]
  cases e : ixN xs.length i with
  | none => rw [e] at h; cases h
  | some j =>
    rw [e] at h
    have h : xs[j]? = some x := h
    show (xs.map f)[j]? = some (f x)
    rw [List.getElem?_map, h]
    rfl
section
variable {X : Cx} {G : Ctx}
theorem ix_D (hK : X.K = G.K) : IxR X (rD2 G idxF) := by
  intro ve se pins s σ H x y v u Q I rx ry h hsub
  obtain ⟨dx, dy, m, R, s0, r1, r2, h, p⟩ := h
  unfold idxF at h
  split at h
  · obtain ⟨x, e, h⟩ := h
    cases r2
    cases r1 with
    | lst h1 h2 =>
      obtain ⟨z, e2, rz⟩ := atI_rp h2 e
      exact ix_list ve se pins s σ H _ _ v u Q I rx ry ⟨_, _, _, z, rfl, rfl, SqL.of (fz_ex _ _ h1), e2, p.here s0 (RV.dat rz) h⟩ hsub
  · obtain ⟨x, e, h⟩ := h
    cases r2
    cases r1 with
    | tup h1 h2 =>
      obtain ⟨z, e2, rz⟩ := atI_rp h2 e
      exact ix_tup ve se pins s σ H _ _ v u Q I rx ry ⟨_, _, _, z, rfl, rfl, SqT.of (fz_ex _ _ h1), e2, p.here s0 (RV.dat rz) h⟩ hsub
  · obtain ⟨hz, c, e, h⟩ := h
    cases r1; cases r2
    exact ix_str ve se pins s σ H _ _ v u Q I rx ry ⟨_, _, c, rfl, rfl, sz_of hz, e, p.here s0 (RV.dat (Rp.str _)) h⟩ hsub
  · obtain ⟨xs, em, x, e, h⟩ := h
    cases r2
    cases r1
    obtain ⟨vs, h1, h2⟩ := s0 _ _ em
    obtain ⟨z, e2, rz⟩ := atI_rp h2 e
    exact ix_list ve se pins s σ H _ _ v u Q I rx ry ⟨_, _, _, z, rfl, rfl, SqL.of h1, e2, p.here s0 (RV.dat rz) h⟩ hsub
  · obtain ⟨n, e, h⟩ := h
    cases r2
    obtain ⟨a, rfl, h1⟩ := r1
    have h2 := Same.seq (show Same (fz H m) H from fz_ex) h1
    rw [← hK] at h2
    exact ix_list ve se pins s σ H _ _ v u Q I rx ry ⟨_, _, _, _, rfl, rfl, h2, atI_map e, p.here s0 (RV.dat (Rp.int _)) h⟩ hsub
  · exact h.elim
end

/-! ### slices -/
def cut {α : Type} (xs : List α) (lo hi : Option Int) : List α := (xs.drop (HT.sIx xs.length 0 lo)).take (HT.sIx xs.length xs.length hi - HT.sIx xs.length 0 lo)
abbrev FS := DV → Option Int → Option Int → Mu → (DV → Mu → Prop) → Prop
def sliceF : FS
  | .d (.lst xs), lo, hi, m, R => R (.d (.lst (cut xs lo hi))) m
  | .d (.tup xs), lo, hi, m, R => R (.d (.tup (cut xs lo hi))) m
  | .r a, lo, hi, m, R => ∃ xs, m a = some (.lst xs) ∧ R (.d (.lst (cut xs lo hi))) m
  | .d (.str s), lo, hi, m, R => s.length ≤ 100000 ∧ R (.d (.str (cutS s lo hi))) m
  | _, _, _, _, _ => False
def rDS (G : Ctx) (f : FS) : V → Option Int → Option Int → Hp → VK → Prop := fun x lo hi H Q => ∃ dx m R, S0 G H m ∧ RV G (fz H m) x dx ∧ f dx lo hi m R ∧ Post G H m R Q
theorem cut_rp {F : Hp} {vs : List V} {xs : List D} {lo hi : Option Int} (r : RpL F vs xs) : RpL F (cutV vs lo hi) (cut xs lo hi) := by
  unfold cutV cut
  rw [r.length]
  exact (r.drop _).take _
theorem cut_whole {α : Type} {xs : List α} {lo hi : Option Int} (h : HT.sIx xs.length 0 lo = 0 ∧ HT.sIx xs.length xs.length hi = xs.length) : cut xs lo hi = xs := by
  unfold cut
  rw [h.1, h.2, List.drop_zero, Nat.sub_zero, List.take_length]
section
variable {X : Cx} {G : Ctx}
theorem sl_D : SlR X (rDS G sliceF) := by
  intro pins s σ H x v vl vu lo hi sl Q I rx hs pl pu h
  obtain ⟨dx, m, R, s0, r1, h, p⟩ := h
  unfold sliceF at h
  split at h
  · cases r1 with
    | lst h1 h2 => exact sl_list pins s σ H _ v vl vu _ _ sl Q I rx hs pl pu ⟨_, _, rfl, SqL.of (fz_ex _ _ h1), fun a ha => p.lay s0 ha (cut_rp h2) h⟩
  · cases r1 with
    | tup h1 h2 =>
      refine sl_tupA pins s σ H _ v vl vu _ _ sl Q I rx hs pl pu ⟨_, _, rfl, SqT.of (fz_ex _ _ h1), fun e => ?_, fun _ a ha => p.layT s0 ha (cut_rp h2) h⟩
      rw [h2.length] at e
      rw [cut_whole e] at h
      exact p.here s0 (RV.dat (Rp.tup h1 h2)) h
  · obtain ⟨xs, em, h⟩ := h
    cases r1
    obtain ⟨vs, h1, h2⟩ := s0 _ _ em
    exact sl_list pins s σ H _ v vl vu _ _ sl Q I rx hs pl pu ⟨_, _, rfl, SqL.of h1, fun a ha => p.lay s0 ha (cut_rp h2) h⟩
  · cases r1
    exact sl_str pins s σ H _ v vl vu _ _ sl Q I rx hs pl pu ⟨_, rfl, sz_of h.1, p.here s0 (RV.dat (Rp.str _)) h.2⟩
  · exact h.elim
end
section
variable {G : Ctx} {W : WX} {ds : DS} {m : Mu} {R : DV → Mu → Prop} {XR : Tag → Mu → Prop} {te tl th : TE}
/-- e[a:b], e[a:], e[:b], e[:] -/
theorem ev_sl2 {f : FS} (h : EvD G W te ds m (fun x m1 => EvD G W tl ds m1 (fun a m2 => ∃ i, a = .d (.int i) ∧ EvD G W th ds m2 (fun b m3 => ∃ j, b = .d (.int j) ∧ f x (some i) (some j) m3 R) XR) XR) XR) : EvD G W (tSl (rDS G f) te (tPart tl) (tPart th)) ds m R XR := fun σ H Q s r p x =>
  h σ H _ s r (fun v H1 d m1 t1 s1 r1 q1 => q1 σ H1 _ s1 (r.mono t1) (fun u H2 e m2 t2 s2 r2 ⟨i, ei, q2⟩ => by
    subst ei
    cases r2
    exact ⟨i, rfl, q2 σ H2 _ s2 (r.mono (t1.trans t2)) (fun w H3 e3 m3 t3 s3 r3 ⟨j, ej, q3⟩ => by
      subst ej
      cases r3
      exact ⟨j, rfl, d, m3, R, s3, (r1.mono t2).mono t3, q3, p.tr ((t1.trans t2).trans t3)⟩) (x.tr (t1.trans t2))⟩) (x.tr t1)) x
theorem ev_slA {f : FS} (h : EvD G W te ds m (fun x m1 => EvD G W tl ds m1 (fun a m2 => ∃ i, a = .d (.int i) ∧ f x (some i) none m2 R) XR) XR) : EvD G W (tSl (rDS G f) te (tPart tl) tNoPart) ds m R XR := fun σ H Q s r p x =>
  h σ H _ s r (fun v H1 d m1 t1 s1 r1 q1 => q1 σ H1 _ s1 (r.mono t1) (fun u H2 e m2 t2 s2 r2 ⟨i, ei, q2⟩ => by
    subst ei
    cases r2
    exact ⟨i, rfl, d, m2, R, s2, r1.mono t2, q2, p.tr (t1.trans t2)⟩) (x.tr t1)) x
theorem ev_slB {f : FS} (h : EvD G W te ds m (fun x m1 => EvD G W th ds m1 (fun a m2 => ∃ i, a = .d (.int i) ∧ f x none (some i) m2 R) XR) XR) : EvD G W (tSl (rDS G f) te tNoPart (tPart th)) ds m R XR := fun σ H Q s r p x =>
  h σ H _ s r (fun v H1 d m1 t1 s1 r1 q1 => q1 σ H1 _ s1 (r.mono t1) (fun u H2 e m2 t2 s2 r2 ⟨i, ei, q2⟩ => by
    subst ei
    cases r2
    exact ⟨i, rfl, d, m2, R, s2, r1.mono t2, q2, p.tr (t1.trans t2)⟩) (x.tr t1)) x
end

/-! ### truth -/
def truF : DV → Mu → (Bool → Mu → Prop) → Prop
  | .d .non, m, R => R false m
  | .d (.bl b), m, R => R b m
  | .d (.int i), m, R => R (i != 0) m
  | .d (.str s), m, R => s.length ≤ 100000 ∧ R ((s.length : Int) != 0) m
  | .d (.lst xs), m, R => R (!xs.isEmpty) m
  | .d (.tup xs), m, R => R (!xs.isEmpty) m
  | .r a, m, R => ∃ xs, m a = some (.lst xs) ∧ R (!xs.isEmpty) m
  | .scr ns, m, R => R (!ns.isEmpty) m
def tTru (K : PySem.W.Frag) (te : TE) : TT := fun σ H Q => te σ H fun x H' => ∃ k, TruV K x H' k ∧ Q k H'
theorem RpL.isEmpty {F : Hp} {vs : List V} {xs : List D} (r : RpL F vs xs) : vs.isEmpty = xs.isEmpty := by cases r <;> rfl
theorem et_tru {G : Ctx} {W : WX} {ds : DS} {m : Mu} {R : Bool → Mu → Prop} {XR : Tag → Mu → Prop} {te : TE} (h : EvD G W te ds m (fun d m1 => truF d m1 R) XR) : EvT G W (tTru G.K te) ds m R XR := fun σ H Q s r p x =>
  h σ H _ s r (fun v H1 d m1 t1 s1 r1 q1 => by
    have q1 : truF d m1 R := q1
    unfold truF at q1
    split at q1
    · cases r1; exact ⟨_, rfl, p _ _ _ t1 s1 q1⟩
    · cases r1; exact ⟨_, rfl, p _ _ _ t1 s1 q1⟩
    · cases r1; exact ⟨_, rfl, p _ _ _ t1 s1 q1⟩
    · cases r1; exact ⟨_, ⟨sz_of q1.1, rfl⟩, p _ _ _ t1 s1 q1.2⟩
    · cases r1 with
      | lst h1 h2 => exact ⟨_, .inl ⟨_, SqL.of (fz_ex _ _ h1), rfl⟩, by rw [h2.isEmpty]; exact p _ _ _ t1 s1 q1⟩
    · cases r1 with
      | tup h1 h2 => exact ⟨_, .inr (.inl ⟨_, SqT.of (fz_ex _ _ h1), rfl⟩), by rw [h2.isEmpty]; exact p _ _ _ t1 s1 q1⟩
    · obtain ⟨xs, e, q1⟩ := q1
      cases r1
      obtain ⟨vs, h1, h2⟩ := s1 _ _ e
      exact ⟨_, .inl ⟨_, SqL.of h1, rfl⟩, by rw [h2.isEmpty]; exact p _ _ _ t1 s1 q1⟩
    · obtain ⟨a, rfl, h1⟩ := r1
      refine ⟨_, .inl ⟨_, Same.seq (show Same (fz H1 _) H1 from fz_ex) h1, rfl⟩, ?_⟩
      rw [List.isEmpty_map]
      exact p _ _ _ t1 s1 q1) x

/-! ### chains of comparisons -/
def tChain3 (r r' r'' : R2) (ta tb tc td : TE) : TE := fun σ H Q => ta σ H fun x H1 => tb σ H1 fun y H2 => r x y H2 fun z H3 => ∃ k, z = .bl k ∧
  (if k = true then tc σ H3 fun w' H4 => r' y w' H4 (fun z H5 => ∃ k, z = .bl k ∧ (if k = true then td σ H5 fun w2 H6 => r'' w' w2 H6 Q else Q (.bl false) H5)) else Q (.bl false) H3)
section
variable {G : Ctx} {W : WX} {ds : DS} {m : Mu} {R : DV → Mu → Prop} {XR : Tag → Mu → Prop} {ta tb tc td : TE}
theorem ev_chain {f f' : F2} (h : EvD G W ta ds m (fun x m1 => EvD G W tb ds m1 (fun y m2 => f x y m2 (fun z m3 => ∃ k, z = .d (.bl k) ∧ if k = true then EvD G W tc ds m3 (fun w m4 => f' y w m4 R) XR else R (.d (.bl false)) m3)) XR) XR) :
    EvD G W (tChain (rD2 G f) (rD2 G f') ta tb tc) ds m R XR := fun σ H Q s r p x =>
  h σ H _ s r (fun v H1 d m1 t1 s1 r1 q1 => q1 σ H1 _ s1 (r.mono t1) (fun u H2 e m2 t2 s2 r2 q2 => ⟨d, e, m2, _, s2, r1.mono t2, r2, q2, fun z H3 dz m3 t3 s3 r3 ⟨k, ek, q3⟩ => by
    subst ek
    cases r3
    refine ⟨k, rfl, ?_⟩
    cases k with
    | true =>
      rw [if_pos rfl] at q3 ⊢
      exact q3 σ H3 _ s3 (r.mono ((t1.trans t2).trans t3)) (fun w H4 dw m4 t4 s4 r4 q4 => ⟨e, dw, m4, R, s4, (r2.mono t3).mono t4, r4, q4, p.tr (((t1.trans t2).trans t3).trans t4)⟩) (x.tr ((t1.trans t2).trans t3))
    | false =>
      rw [if_neg Bool.false_ne_true] at q3 ⊢
      exact p _ H3 _ m3 ((t1.trans t2).trans t3) s3 (RV.dat (Rp.bl _)) q3⟩) (x.tr t1)) x
theorem ev_chain3 {f f' f'' : F2} (h : EvD G W ta ds m (fun x m1 => EvD G W tb ds m1 (fun y m2 => f x y m2 (fun z m3 => ∃ k, z = .d (.bl k) ∧ if k = true then EvD G W tc ds m3 (fun w m4 => f' y w m4 (fun z m5 => ∃ k, z = .d (.bl k) ∧ if k = true then EvD G W td ds m5 (fun w2 m6 => f'' w w2 m6 R) XR else R (.d (.bl false)) m5)) XR else R (.d (.bl false)) m3)) XR) XR) :
    EvD G W (tChain3 (rD2 G f) (rD2 G f') (rD2 G f'') ta tb tc td) ds m R XR := fun σ H Q s r p x =>
  h σ H _ s r (fun v H1 d m1 t1 s1 r1 q1 => q1 σ H1 _ s1 (r.mono t1) (fun u H2 e m2 t2 s2 r2 q2 => ⟨d, e, m2, _, s2, r1.mono t2, r2, q2, fun z H3 dz m3 t3 s3 r3 ⟨k, ek, q3⟩ => by
    subst ek
    cases r3
    refine ⟨k, rfl, ?_⟩
    have t13 := (t1.trans t2).trans t3
    cases k with
    | true =>
      rw [if_pos rfl] at q3 ⊢
      exact q3 σ H3 _ s3 (r.mono t13) (fun w H4 dw m4 t4 s4 r4 q4 => ⟨e, dw, m4, _, s4, (r2.mono t3).mono t4, r4, q4, fun z5 H5 dz5 m5 t5 s5 r5 ⟨k5, ek5, q5⟩ => by
        subst ek5
        cases r5
        refine ⟨k5, rfl, ?_⟩
        cases k5 with
        | true =>
          rw [if_pos rfl] at q5 ⊢
          exact q5 σ H5 _ s5 (r.mono ((t13.trans t4).trans t5)) (fun w6 H6 dw6 m6 t6 s6 r6 q6 => ⟨dw, dw6, m6, R, s6, (r4.mono t5).mono t6, r6, q6, p.tr (((t13.trans t4).trans t5).trans t6)⟩) (x.tr ((t13.trans t4).trans t5))
        | false =>
          rw [if_neg Bool.false_ne_true] at q5 ⊢
          exact p _ H5 _ m5 ((t13.trans t4).trans t5) s5 (RV.dat (Rp.bl _)) q5⟩) (x.tr t13)
    | false =>
      rw [if_neg Bool.false_ne_true] at q3 ⊢
      exact p _ H3 _ m3 t13 s3 (RV.dat (Rp.bl _)) q3⟩) (x.tr t1)) x
/-- and, or, not as values -/
theorem ev_andV (h : EvD G W ta ds m (fun x m1 => ∃ c, x = .d (.bl c) ∧ if c = true then EvD G W tb ds m1 R XR else R (.d (.bl false)) m1) XR) : EvD G W (tAndV ta tb) ds m R XR := fun σ H Q s r p x =>
  h σ H _ s r (fun v H1 d m1 t1 s1 r1 ⟨c, e, q1⟩ => by
    subst e
    cases r1
    refine ⟨c, rfl, ?_⟩
    cases c with
    | true => rw [if_pos rfl] at q1 ⊢; exact q1 σ H1 Q s1 (r.mono t1) (p.tr t1) (x.tr t1)
    | false => rw [if_neg Bool.false_ne_true] at q1 ⊢; exact p _ H1 _ m1 t1 s1 (RV.dat (Rp.bl _)) q1) x
theorem ev_orV (h : EvD G W ta ds m (fun x m1 => ∃ c, x = .d (.bl c) ∧ if c = true then R (.d (.bl true)) m1 else EvD G W tb ds m1 R XR) XR) : EvD G W (tOrV ta tb) ds m R XR := fun σ H Q s r p x =>
  h σ H _ s r (fun v H1 d m1 t1 s1 r1 ⟨c, e, q1⟩ => by
    subst e
    cases r1
    refine ⟨c, rfl, ?_⟩
    cases c with
    | true => rw [if_pos rfl] at q1 ⊢; exact p _ H1 _ m1 t1 s1 (RV.dat (Rp.bl _)) q1
    | false => rw [if_neg Bool.false_ne_true] at q1 ⊢; exact q1 σ H1 Q s1 (r.mono t1) (p.tr t1) (x.tr t1)) x
theorem ev_notV (h : EvD G W ta ds m (fun x m1 => ∃ c, x = .d (.bl c) ∧ R (.d (.bl (!c))) m1) XR) : EvD G W (tNotV ta) ds m R XR := fun σ H Q s r p x =>
  h σ H _ s r (fun v H1 d m1 t1 s1 r1 ⟨c, e, q1⟩ => by
    subst e
    cases r1
    exact ⟨c, rfl, p _ H1 _ m1 t1 s1 (RV.dat (Rp.bl _)) q1⟩) x
end
section
variable {X : Cx} {a b c d : Expr} {ta tb tc td : TE} {pos : Pos}
open PySem.Spec PyProof.Rows in
theorem pe_chain3 {op op' op'' : CmpOp} {r r' r'' : R2} (ho : OpR X (compareOp op) r) (ho' : OpR X (compareOp op') r') (ho'' : OpR X (compareOp op'') r'') (ha : PE X a ta) (hb : PE X b tb) (hc : PE X c tc) (hd : PE X d td)
    (hm : lastMarks [op, op', op''] [b, c, d] = false := by with_unfolding_all rfl) : PE X (.Compare a [op, op', op''] [b, c, d] pos) (tChain3 r r' r'' ta tb tc td) := by
  refine ⟨fun pins s σ H Q I h => Compare_chain (thn (ha.run pins s σ H _ I h) fun v s1 ⟨x, H1, I1, r1, q1⟩ => chain_link (thn (hb.run pins s1 σ H1 _ I1 q1) fun u s2 ⟨y, H2, I2, r2, q2⟩ => thn (ho pins s2 σ H2 x y v u _ I2 r1 r2 q2) fun d s3 ⟨z, H3, I3, r3, k, e, q3⟩ => ?_)) hm⟩
  subst e
  cases r3
  refine wpAny_truthy_bool ?_
  cases k with
  | false => exact ite_ff ⟨.bl false, H3, I3, rfl, q3⟩
  | true =>
    refine ite_tt (chain_link (thn (hc.run pins s3 σ H3 _ I3 q3) fun w' s4 ⟨z', H4, I4, r4, q4⟩ => thn (ho' pins s4 σ H4 y z' u w' _ I4 r2 r4 q4) fun d s5 ⟨z5, H5, I5, r5, k5, e5, q5⟩ => ?_))
    subst e5
    cases r5
    refine wpAny_truthy_bool ?_
    cases k5 with
    | false => exact ite_ff ⟨.bl false, H5, I5, rfl, q5⟩
    | true => exact ite_tt (chain_last (thn (hd.run pins s5 σ H5 _ I5 q5) fun w6 s6 ⟨z6, H6, I6, r6, q6⟩ => ho'' pins s6 σ H6 z' z6 w' w6 Q I6 r4 r6 q6))
open PySem.Spec PyProof.Rows in
theorem pt_chain3 {op op' op'' : CmpOp} {r r' r'' : R2} (ho : OpR X (compareOp op) r) (ho' : OpR X (compareOp op') r') (ho'' : OpR X (compareOp op'') r'') (ha : PE X a ta) (hb : PE X b tb) (hc : PE X c tc) (hd : PE X d td)
    (hm : lastMarks [op, op', op''] [b, c, d] = false := by with_unfolding_all rfl) : PT X (.Compare a [op, op', op''] [b, c, d] pos) (tTest (tChain3 r r' r'' ta tb tc td)) := by
  refine ⟨fun pins s σ H Q I h => isTrue_chain (thn (ha.run pins s σ H _ I h) fun v s1 ⟨x, H1, I1, r1, q1⟩ => test_link (thn (hb.run pins s1 σ H1 _ I1 q1) fun u s2 ⟨y, H2, I2, r2, q2⟩ => thn (ho pins s2 σ H2 x y v u _ I2 r1 r2 q2) fun d s3 ⟨z, H3, I3, r3, k, e, q3⟩ => ?_)) hm⟩
  subst e
  cases r3
  refine wpAny_truthy_bool ?_
  cases k with
  | false =>
    obtain ⟨k', e', q'⟩ := q3
    cases e'
    exact ite_ff ⟨H3, I3, q'⟩
  | true =>
    refine ite_tt (test_link (thn (hc.run pins s3 σ H3 _ I3 q3) fun w' s4 ⟨z', H4, I4, r4, q4⟩ => thn (ho' pins s4 σ H4 y z' u w' _ I4 r2 r4 q4) fun d s5 ⟨z5, H5, I5, r5, k5, e5, q5⟩ => ?_))
    subst e5
    cases r5
    refine wpAny_truthy_bool ?_
    cases k5 with
    | false =>
      obtain ⟨k', e', q'⟩ := q5
      cases e'
      exact ite_ff ⟨H5, I5, q'⟩
    | true =>
      refine ite_tt (test_last (thn (hd.run pins s5 σ H5 _ I5 q5) fun w6 s6 ⟨z6, H6, I6, r6, q6⟩ => thn (ho'' pins s6 σ H6 z' z6 w' w6 _ I6 r4 r6 q6) fun d7 s7 ⟨z7, H7, I7, r7, k7, e7, q7⟩ => ?_))
      subst e7
      cases r7
      exact wpAny_truthy_bool ⟨H7, I7, q7⟩
end
end Lb

/-! Lb3: targets, loops, comprehensions, methods of lists. -/
namespace Lb
open PySem L2

/-! ### targets -/
def GtD (G : Ctx) (g : TG) (d : DV) (ds : DS) (m : Mu) (R : DS → Mu → Prop) : Prop := ∀ (σ : L2.St) (H : Hp) (Q : L2.St → Hp → Prop) (v : V), S0 G H m → REnv G (fz H m) σ ds → RV G (fz H m) v d → PostS G H m R Q → g v σ H Q
section
variable {G : Ctx} {W : WX} {ds : DS} {m : Mu} {R : DS → Mu → Prop} {N : EndsD} {XR : Tag → DS → Mu → Prop} {te to ti : TE} {d : DV}
theorem gt_name {i : Nat} (k : R (ds.set i (some d)) m) : GtD G (gName i) d ds m R := fun σ H Q v s r rv p => p _ H _ m (Ex.refl _) s (r.set i rv) k
theorem gt_tup2 {i j : Nat} {x y : D} (k : R ((ds.set i (some (.d x))).set j (some (.d y))) m) : GtD G (gTup G.K 2 (gCons (gName i) (gCons (gName j) gNil))) (.d (.tup [x, y])) ds m R := fun σ H Q v s r rv p => by
  cases rv with
  | tup h1 h2 =>
    cases h2 with
    | cons a1 h2 =>
      cases h2 with
      | cons a2 h2 =>
        cases h2
        exact ⟨_, _, rfl, SqT.of (fz_ex _ _ h1), rfl, _, _, rfl, _, _, rfl, rfl, p _ H _ m (Ex.refl _) s ((r.set i (RV.dat a1)).set j (RV.dat a2)) k⟩
theorem gt_tup3 {i j l : Nat} {x y z : D} (k : R (((ds.set i (some (.d x))).set j (some (.d y))).set l (some (.d z))) m) : GtD G (gTup G.K 3 (gCons (gName i) (gCons (gName j) (gCons (gName l) gNil)))) (.d (.tup [x, y, z])) ds m R := fun σ H Q v s r rv p => by
  cases rv with
  | tup h1 h2 =>
    cases h2 with
    | cons a1 h2 =>
      cases h2 with
      | cons a2 h2 =>
        cases h2 with
        | cons a3 h2 =>
          cases h2
          exact ⟨_, _, rfl, SqT.of (fz_ex _ _ h1), rfl, _, _, rfl, _, _, rfl, _, _, rfl, rfl, p _ H _ m (Ex.refl _) s (((r.set i (RV.dat a1)).set j (RV.dat a2)).set l (RV.dat a3)) k⟩
theorem st_asgG {g : TG} (h : EvD G W te ds m (fun d m1 => GtD G g d ds m1 N.nx) (fun t m1 => XR t ds m1)) : StD G W (tAsg te g) ds m N XR := fun σ H E s r p =>
  h σ H _ s r (fun v H1 d m1 t1 s1 r1 q1 => q1 σ H1 _ v s1 (r.mono t1) r1 (p.nx.tr t1)) (p.x r)
/-- o[i] = e -/
theorem st_setL (h : EvD G W te ds m (fun v m1 => EvD G W to ds m1 (fun o m2 => EvD G W ti ds m2 (fun i m3 => ∃ a xs k j x, o = .r a ∧ i = .d (.int k) ∧ v = .d x ∧ m3 a = some (.lst xs) ∧ ixN xs.length k = some j ∧ N.nx ds (mset m3 a (.lst (xs.set j x)))) (fun t m1 => XR t ds m1)) (fun t m1 => XR t ds m1)) (fun t m1 => XR t ds m1)) :
    StD G W (tAsg te (gSub to ti rSetL)) ds m N XR := fun σ H E s r p =>
  h σ H _ s r (fun v H1 d m1 t1 s1 r1 q1 => q1 σ H1 _ s1 (r.mono t1) (fun o H2 e m2 t2 s2 r2 q2 => q2 σ H2 _ s2 (r.mono (t1.trans t2)) (fun iv H3 f m3 t3 s3 r3 ⟨a, xs, k, j, x, e1, e2, e3, em, ej, q3⟩ => by
    subst e1 e2 e3
    cases r3
    cases r2
    obtain ⟨vs, h1, h2⟩ := s3 _ _ em
    refine ⟨a, vs, k, j, rfl, rfl, h1, by rw [h2.length]; exact ej, ?_⟩
    have r1' : Rp (fz H3 m3) v x := (r1.mono t2).mono t3
    obtain ⟨s4, t4⟩ := s3.put (p := a) (o := .lst (vs.set j v)) (x := .lst (xs.set j x)) (fz_some em) ⟨_, upd_same, RpL.set r1' j h2⟩
    have t14 := ((t1.trans t2).trans t3).trans t4
    exact p.nx _ _ _ _ t14 s4 (r.mono t14) q3) ((p.x r).tr (t1.trans t2))) ((p.x r).tr t1)) (p.x r)
end

/-! ### what is walked -/
structure ItD (G : Ctx) (J : It) (xs : List DV) (gd : Mu → Prop) (good : Hp → Mu → Prop) : Prop where
  go : ∀ (i : Nat) (H : Hp) (m : Mu), S0 G H m → good H m → i < xs.length → J.go i H
  yld : ∀ (i : Nat) (H : Hp) (m : Mu) (x : V) (H' : Hp), S0 G H m → good H m → J.yld i H x H' → i < xs.length → H' = H ∧ ∃ d, xs[i]? = some d ∧ RV G (fz H m) x d
  stop : ∀ (i : Nat) (H : Hp) (m : Mu), S0 G H m → good H m → xs.length ≤ i → J.stop i H
  keep : ∀ (H : Hp) (m : Mu) (H' : Hp) (m' : Mu), Tr H m H' m' → good H m → gd m' → good H' m'
def EvI (G : Ctx) (W : WX) (wi : TI) (ds : DS) (m : Mu) (R : List DV → (Mu → Prop) → Mu → Prop) (XR : Tag → Mu → Prop) : Prop :=
  ∀ (σ : L2.St) (H : Hp) (Q : It → Hp → Prop), S0 G H m → REnv G (fz H m) σ ds → (∀ J H1 m1 xs gd good, Tr H m H1 m1 → S0 G H1 m1 → ItD G J xs gd good → good H1 m1 → R xs gd m1 → Q J H1) → XPost G H m XR (fun c d H' => W c d σ H') → wi σ H Q
abbrev GT : Mu → Prop := fun _ => True
section
variable {G : Ctx} {W : WX} {ds : DS} {m : Mu} {R : List DV → (Mu → Prop) → Mu → Prop} {XR : Tag → Mu → Prop} {te : TE} {ta : TA}
theorem itd_list {a : Addr} {vs : List V} {xs : List D} : ItD G (Itl G.K a) (xs.map DV.d) GT (fun H m => fz H m a = some (.lst vs) ∧ RpL (fz H m) vs xs) where
  go := fun i H m s ⟨h1, h2⟩ hi => by
    rw [List.length_map, ← h2.length] at hi
    exact ⟨vs, vs[i], SqL.of (fz_ex _ _ h1), List.getElem?_eq_getElem hi⟩
  yld := fun i H m x H' s ⟨h1, h2⟩ ⟨e, h⟩ hi => by
    obtain ⟨d, e1, e2⟩ := h2.getV (h _ (SqL.of (fz_ex _ _ h1)))
    exact ⟨e, .d d, by rw [List.getElem?_map, e1]; rfl, e2⟩
  stop := fun i H m s ⟨h1, h2⟩ hi => ⟨vs, SqL.of (fz_ex _ _ h1), by rw [List.length_map] at hi; rw [h2.length]; exact hi⟩
  keep := fun H m H' m' t ⟨h1, h2⟩ _ => ⟨t _ _ h1, RpL.mono t _ _ h2⟩
theorem itd_tup {a : Addr} {vs : List V} {xs : List D} : ItD G (Itt G.K a) (xs.map DV.d) GT (fun H m => fz H m a = some (.tup vs) ∧ RpL (fz H m) vs xs) where
  go := fun i H m s ⟨h1, h2⟩ hi => by
    rw [List.length_map, ← h2.length] at hi
    exact ⟨vs, vs[i], SqT.of (fz_ex _ _ h1), List.getElem?_eq_getElem hi⟩
  yld := fun i H m x H' s ⟨h1, h2⟩ ⟨e, h⟩ hi => by
    obtain ⟨d, e1, e2⟩ := h2.getV (h _ (SqT.of (fz_ex _ _ h1)))
    exact ⟨e, .d d, by rw [List.getElem?_map, e1]; rfl, e2⟩
  stop := fun i H m s ⟨h1, h2⟩ hi => ⟨vs, SqT.of (fz_ex _ _ h1), by rw [List.length_map] at hi; rw [h2.length]; exact hi⟩
  keep := fun H m H' m' t ⟨h1, h2⟩ _ => ⟨t _ _ h1, RpL.mono t _ _ h2⟩
/-- a mutable list that the turns leave as it is -/
theorem itd_mut {a : Addr} {xs : List D} : ItD G (Itl G.K a) (xs.map DV.d) (fun m => m a = some (.lst xs)) (fun _ m => m a = some (.lst xs)) where
  go := fun i H m s h hi => by
    obtain ⟨vs, h1, h2⟩ := s _ _ h
    rw [List.length_map, ← h2.length] at hi
    exact ⟨vs, vs[i], SqL.of h1, List.getElem?_eq_getElem hi⟩
  yld := fun i H m x H' s h ⟨e, k⟩ hi => by
    obtain ⟨vs, h1, h2⟩ := s _ _ h
    obtain ⟨d, e1, e2⟩ := h2.getV (k _ (SqL.of h1))
    exact ⟨e, .d d, by rw [List.getElem?_map, e1]; rfl, e2⟩
  stop := fun i H m s h hi => by
    obtain ⟨vs, h1, h2⟩ := s _ _ h
    exact ⟨vs, SqL.of h1, by rw [List.length_map] at hi; rw [h2.length]; exact hi⟩
  keep := fun _ _ _ _ _ _ g => g
def rng (lo : Int) (n : Nat) : List DV := (List.range n).map fun i => DV.d (.int (lo + (i : Nat)))
theorem rng_len (lo : Int) (n : Nat) : (rng lo n).length = n := by unfold rng; rw [List.length_map, List.length_range]
theorem rng_get {lo : Int} {n i : Nat} (h : i < n) : (rng lo n)[i]? = some (.d (.int (lo + (i : Nat)))) := by
  unfold rng
  rw [List.getElem?_map, List.getElem?_range h]
  rfl
theorem itd_rng {lo : Int} {n : Nat} : ItD G (Itr lo n) (rng lo n) GT (fun _ _ => True) where
  go := fun i H m s _ hi => by rw [rng_len] at hi; exact hi
  yld := fun i H m x H' s _ ⟨e, h⟩ hi => by
    rw [rng_len] at hi
    subst h
    exact ⟨e, _, rng_get hi, RV.dat (Rp.int _)⟩
  stop := fun i H m s _ hi => by rw [rng_len] at hi; exact hi
  keep := fun _ _ _ _ _ _ _ => trivial
def signs (z : Str) : List D := z.cps.toList.map fun c => D.str ⟨#[c]⟩
theorem itd_str {z : Str} : ItD G (Its z) ((signs z).map DV.d) GT (fun _ _ => True) where
  go := fun i H m s _ hi => by
    rw [List.length_map, signs, List.length_map, Array.length_toList] at hi
    exact hi
  yld := fun i H m x H' s _ ⟨e, c, h1, h2⟩ hi => by
    subst h2
    refine ⟨e, .d (.str ⟨#[c]⟩), ?_, RV.dat (Rp.str _)⟩
    rw [List.getElem?_map, signs, List.getElem?_map, Array.getElem?_toList, h1]
    rfl
  stop := fun i H m s _ hi => by
    rw [List.length_map, signs, List.length_map, Array.length_toList] at hi
    exact hi
  keep := fun _ _ _ _ _ _ _ => trivial
theorem ei_list (h : EvD G W te ds m (fun d m1 => ∃ xs, d = .d (.lst xs) ∧ R (xs.map DV.d) GT m1) XR) : EvI G W (iList G.K te) ds m R XR := fun σ H Q s r p x =>
  h σ H _ s r (fun v H1 d m1 t1 s1 r1 ⟨xs, e, q⟩ => by
    subst e
    cases r1 with
    | lst h1 h2 => exact ⟨_, rfl, ⟨_, SqL.of (fz_ex _ _ h1)⟩, p _ _ m1 _ _ _ t1 s1 itd_list ⟨h1, h2⟩ q⟩) x
theorem ei_mut (h : EvD G W te ds m (fun d m1 => ∃ a xs, d = .r a ∧ m1 a = some (.lst xs) ∧ R (xs.map DV.d) (fun m => m a = some (.lst xs)) m1) XR) : EvI G W (iList G.K te) ds m R XR := fun σ H Q s r p x =>
  h σ H _ s r (fun v H1 d m1 t1 s1 r1 ⟨a, xs, e, em, q⟩ => by
    subst e
    cases r1
    obtain ⟨vs, h1, h2⟩ := s1 _ _ em
    exact ⟨_, rfl, ⟨_, SqL.of h1⟩, p _ _ m1 _ _ _ t1 s1 itd_mut em q⟩) x
theorem ei_tup (h : EvD G W te ds m (fun d m1 => ∃ xs, d = .d (.tup xs) ∧ R (xs.map DV.d) GT m1) XR) : EvI G W (iTup G.K te) ds m R XR := fun σ H Q s r p x =>
  h σ H _ s r (fun v H1 d m1 t1 s1 r1 ⟨xs, e, q⟩ => by
    subst e
    cases r1 with
    | tup h1 h2 => exact ⟨_, rfl, ⟨_, SqT.of (fz_ex _ _ h1)⟩, p _ _ m1 _ _ _ t1 s1 itd_tup ⟨h1, h2⟩ q⟩) x
theorem ei_str (h : EvD G W te ds m (fun d m1 => ∃ z, d = .d (.str z) ∧ R ((signs z).map DV.d) GT m1) XR) : EvI G W (iStr te) ds m R XR := fun σ H Q s r p x =>
  h σ H _ s r (fun v H1 d m1 t1 s1 r1 ⟨z, e, q⟩ => by
    subst e
    cases r1
    exact ⟨z, rfl, p _ _ m1 _ _ _ t1 s1 itd_str trivial q⟩) x
theorem ei_rng1 (h : EvA G W ta ds m (fun es m1 => ∃ n : Int, es = [.d (.int n)] ∧ -(2 ^ 62) ≤ n ∧ n < 2 ^ 62 ∧ R (rng 0 n.toNat) GT m1) XR) : EvI G W (iRng1 ta) ds m R XR := fun σ H Q s r p x =>
  h σ H _ s r (fun vs H1 es m1 t1 s1 r1 ⟨n, e, h1, h2, q⟩ => by
    subst e
    cases r1 with
    | cons a b =>
      cases b
      cases a
      exact ⟨n, rfl, h1, h2, p _ _ m1 _ _ _ t1 s1 itd_rng trivial q⟩) x
theorem ei_rng2 (h : EvA G W ta ds m (fun es m1 => ∃ i n : Int, es = [.d (.int i), .d (.int n)] ∧ (-(2 ^ 62) ≤ i ∧ i < 2 ^ 62 ∧ -(2 ^ 62) ≤ n ∧ n < 2 ^ 62) ∧ R (rng i (n - i).toNat) GT m1) XR) : EvI G W (iRng2 ta) ds m R XR := fun σ H Q s r p x =>
  h σ H _ s r (fun vs H1 es m1 t1 s1 r1 ⟨i, n, e, h1, q⟩ => by
    subst e
    cases r1 with
    | cons a b =>
      cases b with
      | cons b c =>
        cases c
        cases a
        cases b
        exact ⟨i, n, rfl, h1, p _ _ m1 _ _ _ t1 s1 itd_rng trivial q⟩) x
end

/-! ### for, while -/
section
variable {G : Ctx} {W : WX} {ds : DS} {m : Mu} {N : EndsD} {XR : Tag → DS → Mu → Prop} {wi : TI} {g : TG} {tb : TS} {c : TT}
theorem st_for (h : EvI G W wi ds m (fun xs gd m1 => ∃ P : Nat → DS → Mu → Prop, P 0 ds m1 ∧ (∀ i ds' m', P i ds' m' → gd m') ∧
      (∀ i x ds' m', xs[i]? = some x → P i ds' m' → GtD G g x ds' m' (fun ds2 m2 => StD G W tb ds2 m2 { nx := P (i + 1), rt := N.rt, bk := N.nx, ct := P (i + 1) } XR)) ∧
      (∀ ds' m', P xs.length ds' m' → N.nx ds' m')) (fun t m1 => XR t ds m1)) : StD G W (tFor wi g tb) ds m N XR := fun σ H E s r p =>
  h σ H _ s r (fun J H1 m1 xs gd good t1 s1 it g1 ⟨P, p0, pg, pt, pe⟩ => by
    refine ⟨fun i k σ' H' => k = xs.length - i ∧ i ≤ xs.length ∧ ∃ ds' m', Tr H m H' m' ∧ S0 G H' m' ∧ REnv G (fz H' m') σ' ds' ∧ good H' m' ∧ P i ds' m', ⟨xs.length, by simp, Nat.zero_le _, ds, m1, t1, s1, r.mono t1, g1, p0⟩, ?_⟩
    rintro i k σ' H' ⟨rfl, hi, ds', m', t', s', r', g', p'⟩
    by_cases hlt : i < xs.length
    · refine .inr ⟨it.go i H' m' s' g' hlt, fun σ2 H2 => ∃ ds2 m2, Tr H m H2 m2 ∧ S0 G H2 m2 ∧ REnv G (fz H2 m2) σ2 ds2 ∧ good H2 m2 ∧ P (i + 1) ds2 m2, fun σ2 H2 ⟨ds2, m2, q⟩ => ⟨xs.length - (i + 1), by omega, rfl, hlt, ds2, m2, q⟩, fun x H2 y => ?_⟩
      obtain ⟨rfl, d, ed, rd⟩ := it.yld i H' m' x H2 s' g' y hlt
      refine pt i d ds' m' ed p' σ' H2 _ x s' r' rd fun σ3 H3 ds3 m3 t3 s3 r3 q3 => ?_
      have fin : ∀ σ4 H4 ds4 m4, Tr H3 m3 H4 m4 → S0 G H4 m4 → REnv G (fz H4 m4) σ4 ds4 → P (i + 1) ds4 m4 → ∃ ds2 m2, Tr H m H4 m2 ∧ S0 G H4 m2 ∧ REnv G (fz H4 m2) σ4 ds2 ∧ good H4 m2 ∧ P (i + 1) ds2 m2 := fun σ4 H4 ds4 m4 t4 s4 r4 q4 =>
        ⟨ds4, m4, (t'.trans t3).trans t4, s4, r4, it.keep _ _ _ _ (t3.trans t4) g' (pg _ _ _ q4), q4⟩
      exact q3 σ3 H3 _ s3 r3 ⟨fun σ4 H4 ds4 m4 t4 s4 r4 q4 => fin σ4 H4 ds4 m4 t4 s4 r4 q4, (p.rt.tr t').tr t3, (p.nx.tr t').tr t3, fun σ4 H4 ds4 m4 t4 s4 r4 q4 => fin σ4 H4 ds4 m4 t4 s4 r4 q4, fun c hc σ4 H4 ds4 m4 t4 => p.xe c hc σ4 H4 ds4 m4 ((t'.trans t3).trans t4)⟩
    · have e : i = xs.length := by omega
      subst e
      exact .inl ⟨it.stop _ H' m' s' g' (Nat.le_refl _), p.nx σ' H' ds' m' t' s' r' (pe ds' m' p')⟩) (p.x r)
/-- over a list of things, by what was taken -/
theorem for_pre {α : Type} {ys : List α} {enc : α → DV} {gd : Mu → Prop} (P : List α → DS → Mu → Prop) (h0 : P [] ds m) (hg : ∀ pre ds' m', P pre ds' m' → gd m')
    (hs : ∀ pre y post ds' m', ys = pre ++ y :: post → P pre ds' m' → GtD G g (enc y) ds' m' (fun ds2 m2 => StD G W tb ds2 m2 { nx := P (pre ++ [y]), rt := N.rt, bk := N.nx, ct := P (pre ++ [y]) } XR)) (hd : ∀ ds' m', P ys ds' m' → N.nx ds' m') :
    ∃ P : Nat → DS → Mu → Prop, P 0 ds m ∧ (∀ i ds' m', P i ds' m' → gd m') ∧
      (∀ i x ds' m', (ys.map enc)[i]? = some x → P i ds' m' → GtD G g x ds' m' (fun ds2 m2 => StD G W tb ds2 m2 { nx := P (i + 1), rt := N.rt, bk := N.nx, ct := P (i + 1) } XR)) ∧
      (∀ ds' m', P (ys.map enc).length ds' m' → N.nx ds' m') := by
  refine ⟨fun i => P (ys.take i), h0, fun i ds' m' q => hg _ _ _ q, fun i x ds' m' hx q => ?_, fun ds' m' q => hd ds' m' (by rw [List.length_map, List.take_length] at q; exact q)⟩
  rw [List.getElem?_map] at hx
  cases e : ys[i]? with
  | none => rw [e] at hx; cases hx
  | some y =>
    rw [e] at hx
    cases hx
    obtain ⟨hi, e2⟩ := List.getElem?_eq_some_iff.mp e
    have e3 : ys.take (i + 1) = ys.take i ++ [y] := by rw [List.take_add_one, e]; rfl
    have h := hs (ys.take i) y (ys.drop (i + 1)) ds' m' (by rw [← e2, List.getElem_cons_drop, List.take_append_drop]) q
    rw [← e3] at h
    exact h
/-- while, by a measure -/
theorem st_while (P : Nat → DS → Mu → Prop) (k0 : Nat) (h0 : P k0 ds m)
    (hs : ∀ k ds' m', P k ds' m' → EvT G W c ds' m' (fun b m1 => if b = true then StD G W tb ds' m1 { nx := fun ds2 m2 => ∃ k', k' < k ∧ P k' ds2 m2, rt := N.rt, bk := N.nx, ct := fun ds2 m2 => ∃ k', k' < k ∧ P k' ds2 m2 } XR else N.nx ds' m1) (fun t m1 => XR t ds' m1)) : StD G W (tWhile c tb) ds m N XR := fun σ H E s r p => by
  refine ⟨fun k σ' H' => ∃ ds' m', Tr H m H' m' ∧ S0 G H' m' ∧ REnv G (fz H' m') σ' ds' ∧ P k ds' m', ⟨k0, ds, m, Ex.refl _, s, r, h0⟩, ?_⟩
  rintro k σ' H' ⟨ds', m', t', s', r', p'⟩
  refine hs k ds' m' p' σ' H' _ s' r' (fun b H1 m1 t1 s1 q1 => ?_) ((p.tr t').x r')
  cases b with
  | true =>
    rw [if_pos rfl] at q1 ⊢
    refine ⟨fun σ2 H2 => ∃ k', k' < k ∧ ∃ ds2 m2, Tr H m H2 m2 ∧ S0 G H2 m2 ∧ REnv G (fz H2 m2) σ2 ds2 ∧ P k' ds2 m2, fun σ2 H2 ⟨k', hk, q⟩ => ⟨k', hk, q⟩, ?_⟩
    have fin : ∀ σ4 H4 ds4 m4, Tr H1 m1 H4 m4 → S0 G H4 m4 → REnv G (fz H4 m4) σ4 ds4 → (∃ k', k' < k ∧ P k' ds4 m4) → ∃ k', k' < k ∧ ∃ ds2 m2, Tr H m H4 m2 ∧ S0 G H4 m2 ∧ REnv G (fz H4 m2) σ4 ds2 ∧ P k' ds2 m2 := fun σ4 H4 ds4 m4 t4 s4 r4 ⟨k', hk, q4⟩ =>
      ⟨k', hk, ds4, m4, (t'.trans t1).trans t4, s4, r4, q4⟩
    exact q1 σ' H1 _ s1 (r'.mono t1) ⟨fin, (p.rt.tr t').tr t1, (p.nx.tr t').tr t1, fin, fun c hc σ4 H4 ds4 m4 t4 => p.xe c hc σ4 H4 ds4 m4 ((t'.trans t1).trans t4)⟩
  | false =>
    rw [if_neg Bool.false_ne_true] at q1 ⊢
    exact p.nx σ' H1 ds' m1 (t'.trans t1) s1 (r'.mono t1) q1
end

/-! ### comprehensions -/
def wipeD (ds : DS) : List Nat → DS
  | [] => ds
  | v :: vs => (wipeD ds vs).set v none
end Lb

/-! Lb4: comprehensions, methods of lists, owned lists. -/
namespace Lb
open PySem L2

theorem wipe_get (σ : L2.St) (i : Nat) : ∀ vs : List Nat, (wipe σ vs)[i]? = if i ∈ vs then (if i < σ.length then some none else none) else σ[i]?
  | [] => by simp [wipe]
  | v :: vs => by
    unfold wipe
    by_cases e : v = i
    · subst e
      rw [if_pos List.mem_cons_self]
      by_cases h : v < σ.length
      · rw [if_pos h, List.getElem?_set_self (by rw [wipe_length]; exact h)]
      · rw [if_neg h, List.getElem?_eq_none (by rw [List.length_set, wipe_length]; omega)]
    · rw [List.getElem?_set_ne e, wipe_get σ i vs]
      have z : i ∈ v :: vs ↔ i ∈ vs := by
        rw [List.mem_cons]
        exact ⟨fun h => h.elim (fun q => absurd q.symm e) id, .inr⟩
      by_cases h : i ∈ vs
      · rw [if_pos h, if_pos (z.mpr h)]
      · rw [if_neg h, if_neg fun q => h (z.mp q)]
theorem wipe_set {σ : L2.St} {vs : List Nat} {j : Nat} (hj : j ∈ vs) (y : Option V) : wipe ((wipe σ vs).set j y) vs = wipe σ vs := by
  apply List.ext_getElem?
  intro i
  rw [wipe_get, wipe_get, List.length_set, wipe_length]
  by_cases h : i ∈ vs
  · rw [if_pos h, if_pos h]
  · rw [if_neg h, if_neg h, List.getElem?_set_ne (fun e => by rw [e] at hj; exact h hj), wipe_get, if_neg h]
theorem wipe_set2 {σ : L2.St} {vs : List Nat} {j l : Nat} (hj : j ∈ vs) (hl : l ∈ vs) (y z : Option V) : wipe (((wipe σ vs).set j y).set l z) vs = wipe σ vs := by
  apply List.ext_getElem?
  intro i
  rw [wipe_get, wipe_get, List.length_set, List.length_set, wipe_length]
  by_cases h : i ∈ vs
  · rw [if_pos h, if_pos h]
  · rw [if_neg h, if_neg h, List.getElem?_set_ne (fun e => by rw [e] at hl; exact h hl), List.getElem?_set_ne (fun e => by rw [e] at hj; exact h hj), wipe_get, if_neg h]
theorem REnv.wipe {G : Ctx} {F : Hp} {σ : L2.St} {ds : DS} (h : REnv G F σ ds) : ∀ vs : List Nat, REnv G F (L2.wipe σ vs) (wipeD ds vs)
  | [] => h
  | v :: vs => (REnv.wipe h vs).unset v

abbrev WF : WX := fun _ _ _ _ => False
abbrev XF : Tag → Mu → Prop := fun _ _ => False
/-- a store that holds more -/
def Ext (m M : Mu) : Prop := ∀ a o, m a = some o → M a = some o
theorem Ext.refl (m : Mu) : Ext m m := fun _ _ h => h
theorem Ext.put {m : Mu} {a : Addr} {o : MO} (h : m a = none) : Ext m (mset m a o) := fun b u e => by
  rw [mset_ne (fun z => by rw [z, h] at e; cases e)]
  exact e
/-- how a comprehension's target takes an item: slots of its own -/
inductive TgRun (K : PySem.W.Frag) (vs : List Nat) : TG → DV → DS → DS → Prop
  | name {j : Nat} {x : DV} {ds : DS} (h : j ∈ vs) : TgRun K vs (gName j) x ds (ds.set j (some x))
  | pair {i j : Nat} {a b : D} {ds : DS} (hi : i ∈ vs) (hj : j ∈ vs) : TgRun K vs (gTup K 2 (gCons (gName i) (gCons (gName j) gNil))) (.d (.tup [a, b])) ds ((ds.set i (some (.d a))).set j (some (.d b)))
/-- the turns of a comprehension that changes nothing -/
def LcOk (G : Ctx) (g : TG) (tt : TT) (te : TE) (vs : List Nat) (ds : DS) (m : Mu) (xs : List DV) (f : Nat → Option D) : Prop :=
  ∀ i x M, xs[i]? = some x → Ext m M → ∃ ds2, TgRun G.K vs g x (wipeD ds vs) ds2 ∧ EvT G WF tt ds2 M (fun b M3 => M3 = M ∧ if b = true then EvD G WF te ds2 M (fun y M4 => M4 = M ∧ ∃ z, y = .d z ∧ f i = some z) XF else f i = none) XF
section
variable {G : Ctx} {W : WX} {ds : DS} {m : Mu} {R : DV → Mu → Prop} {XR : Tag → Mu → Prop} {wi : TI} {g : TG} {tt : TT} {te : TE} {vs : List Nat}
theorem fm_succ (f : Nat → Option D) (i : Nat) : (List.range (i + 1)).filterMap f = (List.range i).filterMap f ++ (f i).toList := by
  rw [List.range_succ, List.filterMap_append]
  congr 1
theorem fm_len (f : Nat → Option D) (i : Nat) : ((List.range i).filterMap f).length ≤ i := by
  have := List.length_filterMap_le f (List.range i)
  rw [List.length_range] at this
  exact this
theorem lc_main (h : EvI G W wi ds m (fun xs gd m1 => (∀ M, Ext m1 M → gd M) ∧ ∃ f : Nat → Option D, LcOk G g tt te vs ds m1 xs f ∧ xs.length ≤ 50000 ∧
      ∀ a, m1 a = none → R (.d (.lst ((List.range xs.length).filterMap f))) m1 ∨ R (.r a) (mset m1 a (.lst ((List.range xs.length).filterMap f)))) XR) : EvD G W (tLc wi g tt te vs) ds m R XR := fun σ H Q s r p x =>
  h σ H _ s r (fun J H1 m1 xs gd good t1 s1 it g1 ⟨hgd, f, hf, hz, hR⟩ Dn hD => by
    have mD : m1 Dn = none := s1.free hD
    have fD : fz H1 m1 Dn = none := by rw [fz_none mD]; exact hD
    obtain ⟨s2, t2⟩ := s1.put (p := Dn) (o := .lst []) (x := .lst []) fD ⟨[], upd_same, .nil⟩
    refine ⟨fun i k H' => k = xs.length - i ∧ i ≤ xs.length ∧ S0 G H' (mset m1 Dn (.lst ((List.range i).filterMap f))) ∧ Tr H m H' (mset m1 Dn (.lst ((List.range i).filterMap f))) ∧ good H' (mset m1 Dn (.lst ((List.range i).filterMap f))),
      ⟨xs.length, by simp, Nat.zero_le _, s2, t1.trans t2, it.keep _ _ _ _ t2 g1 (hgd _ (Ext.put mD))⟩, ?_⟩
    rintro i k H' ⟨rfl, hi, s', t', g'⟩
    by_cases hlt : i < xs.length
    · refine .inr ⟨it.go i H' _ s' g' hlt, fun H2 => S0 G H2 (mset m1 Dn (.lst ((List.range (i + 1)).filterMap f))) ∧ Tr H m H2 (mset m1 Dn (.lst ((List.range (i + 1)).filterMap f))) ∧ good H2 (mset m1 Dn (.lst ((List.range (i + 1)).filterMap f))), fun H2 q => ⟨xs.length - (i + 1), by omega, rfl, hlt, q⟩, fun xv H2 y => ?_⟩
      obtain ⟨rfl, d, ed, rd⟩ := it.yld i H' _ xv H2 s' g' y hlt
      obtain ⟨ds2, tg, ev2⟩ := hf i d _ ed (Ext.put (o := .lst ((List.range i).filterMap f)) mD)
      have fin : ∀ (σ3 : L2.St) (ds3 : DS) (M3 : Mu) (_ : REnv G (fz H2 (mset m1 Dn (.lst ((List.range i).filterMap f)))) σ3 ds3) (_ : EvT G WF tt ds3 (mset m1 Dn (.lst ((List.range i).filterMap f))) (fun b M3 => M3 = mset m1 Dn (.lst ((List.range i).filterMap f)) ∧ if b = true then EvD G WF te ds3 (mset m1 Dn (.lst ((List.range i).filterMap f))) (fun y M4 => M4 = mset m1 Dn (.lst ((List.range i).filterMap f)) ∧ ∃ z, y = .d z ∧ f i = some z) XF else f i = none) XF),
          tt σ3 H2 fun b H3 => if b = true then te σ3 H3 fun y H4 => ∃ acc, H4 Dn = some (.lst acc) ∧ acc.length < sizeLine ∧ (S0 G (upd H4 Dn (.lst (acc ++ [y]))) (mset m1 Dn (.lst ((List.range (i + 1)).filterMap f))) ∧ Tr H m (upd H4 Dn (.lst (acc ++ [y]))) (mset m1 Dn (.lst ((List.range (i + 1)).filterMap f))) ∧ good (upd H4 Dn (.lst (acc ++ [y]))) (mset m1 Dn (.lst ((List.range (i + 1)).filterMap f)))) else
            (S0 G H3 (mset m1 Dn (.lst ((List.range (i + 1)).filterMap f))) ∧ Tr H m H3 (mset m1 Dn (.lst ((List.range (i + 1)).filterMap f))) ∧ good H3 (mset m1 Dn (.lst ((List.range (i + 1)).filterMap f)))) := fun σ3 ds3 _ r3 ev => by
        refine ev σ3 H2 _ s' r3 (fun b H3 M3 t3 s3 ⟨e3, q3⟩ => ?_) (fun _ _ _ _ _ _ z => z.elim)
        subst e3
        cases b with
        | true =>
          rw [if_pos rfl] at q3 ⊢
          refine q3 σ3 H3 _ s3 (r3.mono t3) (fun yv H4 dy M4 t4 s4 r4 ⟨e4, z, ez, fz'⟩ => ?_) (fun _ _ _ _ _ _ z => z.elim)
          subst e4 ez
          obtain ⟨acc, a1, a2⟩ := s4 Dn _ mset_same
          have e5 : (List.range (i + 1)).filterMap f = (List.range i).filterMap f ++ [z] := by rw [fm_succ, fz']; rfl
          obtain ⟨s5, t5⟩ := s4.put (p := Dn) (o := .lst (acc ++ [yv])) (x := .lst ((List.range (i + 1)).filterMap f)) (fz_some mset_same) ⟨_, upd_same, by rw [e5]; exact a2.app (RpL.one r4)⟩
          rw [mset_mset] at s5 t5
          refine ⟨acc, a1, sz_lt (by rw [a2.length]; have := fm_len f i; omega), s5, ((t'.trans t3).trans t4).trans t5, it.keep _ _ _ _ ((t3.trans t4).trans t5) g' (hgd _ (Ext.put mD))⟩
        | false =>
          rw [if_neg Bool.false_ne_true] at q3 ⊢
          have e5 : (List.range (i + 1)).filterMap f = (List.range i).filterMap f := by rw [fm_succ, q3]; exact List.append_nil _
          rw [e5]
          exact ⟨s3, t'.trans t3, it.keep _ _ _ _ t3 g' (hgd _ (Ext.put mD))⟩
      have rw0 : REnv G (fz H2 (mset m1 Dn (.lst ((List.range i).filterMap f)))) (L2.wipe σ vs) (wipeD ds vs) := (r.mono t').wipe vs
      cases tg with
      | name hj => exact ⟨wipe_set hj _, fin _ _ m1 (rw0.set _ rd) ev2⟩
      | pair hi hj =>
        cases rd with
        | tup h1 h2 =>
          cases h2 with
          | cons a1 h2 =>
            cases h2 with
            | cons a2 h2 =>
              cases h2
              exact ⟨_, _, rfl, SqT.of (fz_ex _ _ h1), rfl, _, _, rfl, _, _, rfl, rfl, wipe_set2 hi hj _ _, fin _ _ m1 ((rw0.set _ (RV.dat a1)).set _ (RV.dat a2)) ev2⟩
    · have e : i = xs.length := by omega
      subst e
      refine .inl ⟨it.stop _ H' _ s' g' (Nat.le_refl _), ?_⟩
      rcases hR Dn mD with q | q
      · obtain ⟨acc, a1, a2⟩ := s' Dn _ mset_same
        obtain ⟨s3, t3⟩ := s'.del (p := Dn)
        rw [mdel_mset mD] at s3 t3
        exact p _ H' _ m1 (t'.trans t3) s3 (RV.dat (Rp.lst (by rw [fz_none mD]; exact a1) (RpL.mono t3 _ _ a2))) q
      · exact p _ H' (.r Dn) _ t' s' rfl q) x
/-- typed: over things, each to data or to nothing -/
theorem lc_typed {α : Type} {ys : List α} {enc : α → DV} (F : α → Option D) (h : ∀ (i : Nat) (y : α) (M : Mu), ys[i]? = some y → Ext m M → ∃ ds2, TgRun G.K vs g (enc y) (wipeD ds vs) ds2 ∧ EvT G WF tt ds2 M (fun b M3 => M3 = M ∧ if b = true then EvD G WF te ds2 M (fun x M4 => M4 = M ∧ ∃ z, x = .d z ∧ F y = some z) XF else F y = none) XF) :
    LcOk G g tt te vs ds m (ys.map enc) (fun i => ys[i]?.bind F) := fun i x M hx hM => by
  rw [List.getElem?_map] at hx
  cases e : ys[i]? with
  | none => rw [e] at hx; cases hx
  | some y =>
    rw [e] at hx
    cases hx
    have k := h i y M e hM
    simp only [e, Option.bind_some]
    exact k
theorem lc_len {α : Type} (ys : List α) (F : α → Option D) : ∀ n, n ≤ ys.length → (List.range n).filterMap (fun i => ys[i]?.bind F) = (ys.take n).filterMap F
  | 0, _ => rfl
  | n + 1, h => by
    rw [fm_succ, lc_len ys F n (by omega), List.take_add_one, List.filterMap_append]
    have e : ys[n]? = some ys[n] := List.getElem?_eq_getElem (by omega)
    rw [e]
    rfl
theorem lc_all {α : Type} (ys : List α) (enc : α → DV) (F : α → Option D) : (List.range (ys.map enc).length).filterMap (fun i => ys[i]?.bind F) = ys.filterMap F := by
  rw [List.length_map, lc_len ys F _ (Nat.le_refl _), List.take_length]
/-- [e for x in ..] as data -/
theorem ev_lc (h : EvI G W wi ds m (fun xs gd m1 => (∀ M, Ext m1 M → gd M) ∧ ∃ (α : Type) (ys : List α) (enc : α → DV) (F : α → Option D), xs = ys.map enc ∧ ys.length ≤ 50000 ∧
      (∀ (i : Nat) (y : α) (M : Mu), ys[i]? = some y → Ext m1 M → ∃ ds2, TgRun G.K vs g (enc y) (wipeD ds vs) ds2 ∧ EvT G WF tt ds2 M (fun b M3 => M3 = M ∧ if b = true then EvD G WF te ds2 M (fun x M4 => M4 = M ∧ ∃ z, x = .d z ∧ F y = some z) XF else F y = none) XF) ∧ R (.d (.lst (ys.filterMap F))) m1) XR) : EvD G W (tLc wi g tt te vs) ds m R XR :=
  lc_main fun σ H Q s r p x => h σ H Q s r (fun J H1 m1 xs gd good t1 s1 it g1 ⟨hg, α, ys, enc, F, e, hz, hs, hR⟩ => by
    subst e
    exact p J H1 m1 _ gd good t1 s1 it g1 ⟨hg, _, lc_typed F hs, by rw [List.length_map]; exact hz, fun a _ => .inl (by rw [lc_all]; exact hR)⟩) x
/-- .. as a new list of our own -/
theorem ev_lcO (h : EvI G W wi ds m (fun xs gd m1 => (∀ M, Ext m1 M → gd M) ∧ ∃ (α : Type) (ys : List α) (enc : α → DV) (F : α → Option D), xs = ys.map enc ∧ ys.length ≤ 50000 ∧
      (∀ (i : Nat) (y : α) (M : Mu), ys[i]? = some y → Ext m1 M → ∃ ds2, TgRun G.K vs g (enc y) (wipeD ds vs) ds2 ∧ EvT G WF tt ds2 M (fun b M3 => M3 = M ∧ if b = true then EvD G WF te ds2 M (fun x M4 => M4 = M ∧ ∃ z, x = .d z ∧ F y = some z) XF else F y = none) XF) ∧ ∀ a, m1 a = none → R (.r a) (mset m1 a (.lst (ys.filterMap F)))) XR) : EvD G W (tLc wi g tt te vs) ds m R XR :=
  lc_main fun σ H Q s r p x => h σ H Q s r (fun J H1 m1 xs gd good t1 s1 it g1 ⟨hg, α, ys, enc, F, e, hz, hs, hR⟩ => by
    subst e
    exact p J H1 m1 _ gd good t1 s1 it g1 ⟨hg, _, lc_typed F hs, by rw [List.length_map]; exact hz, fun a ha => .inr (by rw [lc_all]; exact hR a ha)⟩) x
/-- a display as a new list of our own -/
theorem ev_lstO {t : TA} (h : EvA G W t ds m (fun es m1 => ∃ xs : List D, es = xs.map DV.d ∧ xs.length ≤ 100000 ∧ ∀ a, m1 a = none → R (.r a) (mset m1 a (.lst xs))) XR) : EvD G W (tLst t) ds m R XR := fun σ H Q s r p x =>
  h σ H _ s r (fun vs H1 es m1 t1 s1 r1 ⟨xs, e, l, q⟩ => by
    subst e
    have r2 := RVs.data r1
    refine ⟨sz_of (by rw [r2.length]; exact l), fun a ha => ?_⟩
    have ma := s1.free ha
    obtain ⟨s2, t2⟩ := s1.put (p := a) (o := .lst vs) (x := .lst xs) (by rw [fz_none ma]; exact ha) ⟨_, upd_same, r2⟩
    exact p _ _ (.r a) _ (t1.trans t2) s2 rfl (q a ma)) x
end

/-! ### operators that make lists of our own -/
theorem Post.own {G : Ctx} {H : Hp} {m : Mu} {R : DV → Mu → Prop} {Q : VK} (p : Post G H m R Q) (s : S0 G H m) {a : Addr} (ha : H a = none) {vs : List V} {xs : List D} (r : RpL (fz H m) vs xs) (k : ∀ b, m b = none → R (.r b) (mset m b (.lst xs))) : Q (.ref a) (upd H a (.lst vs)) := by
  have ma := s.free ha
  obtain ⟨s2, t2⟩ := s.put (p := a) (o := .lst vs) (x := .lst xs) (by rw [fz_none ma]; exact ha) ⟨_, upd_same, r⟩
  exact p _ _ (.r a) _ t2 s2 rfl (k a ma)
def mulO : F2
  | .d (.lst xs), .d (.int k), m, R => 0 ≤ k ∧ k ≤ 100000 ∧ xs.length * k.toNat ≤ 100000 ∧ ∀ a, m a = none → R (.r a) (mset m a (.lst (List.replicate k.toNat xs).flatten))
  | _, _, _, _ => False
def addO : F2
  | .d (.lst xs), .d (.lst ys), m, R => xs.length + ys.length ≤ 100000 ∧ ∀ a, m a = none → R (.r a) (mset m a (.lst (xs ++ ys)))
  | _, _, _, _ => False
def listO : FN
  | [.d (.lst xs)], m, R => ∀ a, m a = none → R (.r a) (mset m a (.lst xs))
  | [.d (.tup xs)], m, R => ∀ a, m a = none → R (.r a) (mset m a (.lst xs))
  | [.r b], m, R => ∃ xs, m b = some (.lst xs) ∧ ∀ a, m a = none → R (.r a) (mset m a (.lst xs))
  | _, _, _ => False
section
variable {X : Cx} {G : Ctx}
theorem or_mulO : OpR X (binaryOp .Mult) (rD2 G mulO) := by
  intro pins s σ H x y v u Q I rx ry h
  obtain ⟨dx, dy, m, R, s0, r1, r2, h, p⟩ := h
  unfold mulO at h
  split at h
  · cases r2
    cases r1 with
    | lst h1 h2 =>
      exact op_rep pins s σ H _ _ v u Q I rx ry ⟨_, _, _, rfl, rfl, fz_ex _ _ h1, by omega, by omega, sz_of (by rw [h2.length]; exact h.2.2.1), fun a ha => p.own s0 ha (h2.rep _) h.2.2.2⟩
  · exact h.elim
theorem or_addO : OpR X (binaryOp .Add) (rD2 G addO) := by
  intro pins s σ H x y v u Q I rx ry h
  obtain ⟨dx, dy, m, R, s0, r1, r2, h, p⟩ := h
  unfold addO at h
  split at h
  · cases r1 with
    | lst h1 h2 =>
      cases r2 with
      | lst h3 h4 =>
        exact op_cat pins s σ H _ _ v u Q I rx ry ⟨_, _, _, _, rfl, rfl, fz_ex _ _ h1, fz_ex _ _ h3, sz_of (by rw [h2.length, h4.length]; exact h.1), fun a ha => p.own s0 ha (h2.app h4) h.2⟩
  · exact h.elim
theorem cr_listO : CallR X (.type "list") (rDn G listO) := by
  intro pins s σ H xs us Q I r h
  obtain ⟨dx, m, R, s0, r1, h, p⟩ := h
  unfold listO at h
  split at h
  · cases r1 with
    | cons q1 q2 =>
      cases q2
      cases q1 with
      | lst h1 h2 => exact call_list_of pins s σ H _ us Q I r ⟨_, _, rfl, .inl (SqL.of (fz_ex _ _ h1)), fun l hl => p.own s0 hl h2 h⟩
  · cases r1 with
    | cons q1 q2 =>
      cases q2
      cases q1 with
      | tup h1 h2 => exact call_list_of pins s σ H _ us Q I r ⟨_, _, rfl, .inr (SqT.of (fz_ex _ _ h1)), fun l hl => p.own s0 hl h2 h⟩
  · obtain ⟨xs, e, h⟩ := h
    cases r1 with
    | cons q1 q2 =>
      cases q2
      cases q1
      obtain ⟨vs, h1, h2⟩ := s0 _ _ e
      exact call_list_of pins s σ H _ us Q I r ⟨_, _, rfl, .inl (SqL.of h1), fun l hl => p.own s0 hl h2 h⟩
  · exact h.elim
end

/-! ### methods of lists -/
abbrev FM := DV → List DV → Mu → (DV → Mu → Prop) → Prop
def rDM (G : Ctx) (f : FM) : V → List V → Hp → VK → Prop := fun x xs H Q => ∃ dx es m R, S0 G H m ∧ RV G (fz H m) x dx ∧ RVs G (fz H m) xs es ∧ f dx es m R ∧ Post G H m R Q
def isL : DV → Mu → Prop
  | .d (.lst _), _ => True
  | .r a, m => ∃ xs, m a = some (.lst xs)
  | _, _ => False
theorem isL_ty {G : Ctx} {H : Hp} {m : Mu} {v : V} {d : DV} (s : S0 G H m) (r : RV G (fz H m) v d) (h : isL d m) : tyV G.K "list" v H := by
  unfold isL at h
  split at h
  · cases r with
    | lst h1 h2 => exact .inl ⟨rfl, _, SqL.of (fz_ex _ _ h1)⟩
  · obtain ⟨xs, e⟩ := h
    cases r
    obtain ⟨vs, h1, h2⟩ := s _ _ e
    exact .inl ⟨rfl, _, SqL.of h1⟩
  · exact h.elim
section
variable {G : Ctx} {W : WX} {ds : DS} {m : Mu} {R : DV → Mu → Prop} {XR : Tag → Mu → Prop} {te : TE} {t : TA} {f : FM}
theorem ev_bmL (h : EvD G W te ds m (fun x m1 => isL x m1 ∧ EvA G W t ds m1 (fun es m2 => f x es m2 R) XR) XR) : EvD G W (tBM G.K "list" (rDM G f) te t) ds m R XR := fun σ H Q s r p x =>
  h σ H _ s r (fun v H1 d m1 t1 s1 r1 ⟨hl, q1⟩ => ⟨isL_ty s1 r1 hl, q1 σ H1 _ s1 (r.mono t1) (fun vs H2 es m2 t2 s2 r2 q2 => ⟨d, es, m2, R, s2, r1.mono t2, r2, q2, p.tr (t1.trans t2)⟩) (x.tr t1)⟩) x
theorem ev_bmL0 (h : EvD G W te ds m (fun x m1 => isL x m1 ∧ f x [] m1 R) XR) : EvD G W (tBM0 G.K "list" (rDM G f) te) ds m R XR := fun σ H Q s r p x =>
  h σ H _ s r (fun v H1 d m1 t1 s1 r1 ⟨hl, q1⟩ => ⟨isL_ty s1 r1 hl, d, [], m1, R, s1, r1, .nil, q1, p.tr t1⟩) x
end
def appendF : FM
  | .r a, [.d v], m, R => ∃ xs, m a = some (.lst xs) ∧ xs.length < 100000 ∧ R (.d .non) (mset m a (.lst (xs ++ [v])))
  | _, _, _, _ => False
def extendF : FM
  | .r a, [.d (.lst ys)], m, R => ∃ xs, m a = some (.lst xs) ∧ xs.length + ys.length ≤ 100000 ∧ R (.d .non) (mset m a (.lst (xs ++ ys)))
  | _, _, _, _ => False
def popF : FM
  | .r a, [], m, R => ∃ xs x, m a = some (.lst (xs ++ [x])) ∧ R (.d x) (mset m a (.lst xs))
  | _, _, _, _ => False
def countF : FM := fun x es m R => ∃ v ys, es = [.d v] ∧ vw m x = some (.lst ys) ∧ (∀ y ∈ ys, Sh 62 y) ∧ Sh 63 v ∧ R (.d (.int (ys.countP fun y => eqD y v : Nat))) m
def indexF : FM
  | x, [.d v], m, R => ∃ ys, vw m x = some (.lst ys) ∧ (∀ y ∈ ys, Sh 62 y) ∧ Sh 63 v ∧ ∃ j, ys.findIdx? (fun y => eqD y v) = some j ∧ R (.d (.int (j : Nat))) m
  | _, _, _, _ => False
section
variable {X : Cx} {G : Ctx}
theorem mt_appendD : MtR X "list.append" (rDM G appendF) := by
  intro pins s σ H x xs v us Q I rx rxs h
  obtain ⟨dx, es, m, R, s0, r1, r2, h, p⟩ := h
  unfold appendF at h
  split at h
  · obtain ⟨ys, e, hz, h⟩ := h
    cases r1
    cases r2 with
    | cons q1 q2 =>
      cases q2
      obtain ⟨vs, h1, h2⟩ := s0 _ _ e
      refine mt_append pins s σ H _ _ v us Q I rx rxs ⟨_, _, _, rfl, rfl, h1, sz_lt (by rw [h2.length]; exact hz), ?_⟩
      obtain ⟨s4, t4⟩ := s0.put (o := .lst (vs ++ [_])) (x := .lst (ys ++ [_])) (fz_some e) ⟨_, upd_same, h2.app (RpL.one q1)⟩
      exact p _ _ _ _ t4 s4 (RV.dat Rp.non) h
  · exact h.elim
theorem mt_extendD : MtR X "list.extend" (rDM G extendF) := by
  intro pins s σ H x xs v us Q I rx rxs h
  obtain ⟨dx, es, m, R, s0, r1, r2, h, p⟩ := h
  unfold extendF at h
  split at h
  · obtain ⟨ys, e, hz, h⟩ := h
    cases r1
    cases r2 with
    | cons q1 q2 =>
      cases q2
      cases q1 with
      | lst a1 a2 =>
        obtain ⟨vs, h1, h2⟩ := s0 _ _ e
        refine mt_extend pins s σ H _ _ v us Q I rx rxs ⟨_, _, _, _, rfl, rfl, h1, fz_ex _ _ a1, sz_of (by rw [h2.length, a2.length]; exact hz), ?_⟩
        obtain ⟨s4, t4⟩ := s0.put (o := .lst (vs ++ _)) (x := .lst (ys ++ _)) (fz_some e) ⟨_, upd_same, h2.app a2⟩
        exact p _ _ _ _ t4 s4 (RV.dat Rp.non) h
  · exact h.elim
theorem RpL.snoc {F : Hp} : ∀ {ys : List D} {vs : List V} {y : D}, RpL F vs (ys ++ [y]) → ∃ ws w, vs = ws ++ [w] ∧ RpL F ws ys ∧ Rp F w y
  | [], _, _, .cons h .nil => ⟨[], _, rfl, .nil, h⟩
  | z :: ys, _, y, .cons h t => by
    obtain ⟨ws, w, rfl, h1, h2⟩ := RpL.snoc (ys := ys) t
    exact ⟨_ :: ws, w, rfl, .cons h h1, h2⟩
theorem mt_popD : MtR X "list.pop" (rDM G popF) := by
  intro pins s σ H x xs v us Q I rx rxs h
  obtain ⟨dx, es, m, R, s0, r1, r2, h, p⟩ := h
  unfold popF at h
  split at h
  · obtain ⟨ys, y, e, h⟩ := h
    cases r1
    cases r2
    obtain ⟨vs, h1, h2⟩ := s0 _ _ e
    obtain ⟨ws, w, rfl, h3, h4⟩ := h2.snoc
    refine mt_pop pins s σ H _ _ v us Q I rx rxs ⟨_, _, w, rfl, rfl, h1, by simp, ?_⟩
    rw [List.dropLast_concat]
    obtain ⟨s4, t4⟩ := s0.put (o := .lst ws) (x := .lst ys) (fz_some e) ⟨_, upd_same, h3⟩
    exact p _ _ _ _ t4 s4 (RV.dat (Rp.mono t4 _ _ h4)) h
  · exact h.elim
theorem toPys_get : ∀ {xs : List D} {i : Nat} {z : PyData}, (toPys xs)[i]? = some z → ∃ x, xs[i]? = some x ∧ z = toPy x := fun {xs i z} h => by
  rw [toPys_map, List.getElem?_map] at h
  cases e : xs[i]? with
  | none => rw [e] at h; cases h
  | some x => rw [e] at h; exact ⟨x, rfl, (Option.some.inj h).symm⟩
theorem mt_indexF (hu : X.A.units + 65 < cLine) : MtR X "list.index" (rDM G indexF) := by
  intro pins s σ H x xs v us Q I rx rxs h
  obtain ⟨dx, es, m, R, s0, r1, r2, h, p⟩ := h
  unfold indexF at h
  split at h
  · obtain ⟨ys, e, h1, h2, j, hj, h⟩ := h
    cases r2 with
    | cons q1 q2 =>
      cases q2
      have rr := vw_rp s0 r1 e
      obtain ⟨hjl, hj1, hj2⟩ := List.findIdx?_eq_some_iff_getElem.mp hj
      cases rr with
      | lst a1 a2 =>
        have z := Rp.dp (K := X.K) _ _ (Rp.lst a1 a2)
        rw [toPy] at z
        have sh := (Sh.lst h1).shaped
        rw [toPy] at sh
        refine mt_indexD hu pins s σ H _ _ v us Q I rx rxs ⟨_, _, toPy _, toPys ys, j, toPy ys[j], rfl, rfl, z, Rp.dp _ _ (Rp.mono fz_ex _ _ q1), sh, h2.shaped, ?_, hj1, fun k z' hk hz => ?_, p.here s0 (RV.dat (Rp.int _)) h⟩
        · rw [toPys_map, List.getElem?_map, List.getElem?_eq_getElem hjl]
          rfl
        · obtain ⟨y, e1, rfl⟩ := toPys_get hz
          have k2 := hj2 k hk
          obtain ⟨hkl, e2⟩ := List.getElem?_eq_some_iff.mp e1
          rw [e2] at k2
          simpa [eqD] using k2
  · exact h.elim
end
end Lb

/-! Lb5: contracts, calls, raise, isinstance, an error that is kept. -/
namespace Lb
open PySem L2

/-! ### contracts -/
abbrev SpD := List DV → Mu → (DV → Mu → Prop) → (Tag → Mu → Prop) → Prop
def spL (G : Ctx) (S : SpD) : Sp := fun vs H Q E => ∃ es m R XR, S0 G H m ∧ RVs G (fz H m) vs es ∧ S es m R XR ∧ Post G H m R Q ∧ XPost G H m XR E
def startD (n : Nat) (es : List DV) : DS := es.map some ++ List.replicate (n - es.length) none
theorem REnv.start {G : Ctx} {F : Hp} {N : List Str} : ∀ {vs : List V} {es : List DV}, RVs G F vs es → REnv G F (L2.start N vs) (startD N.length es) := fun {vs es} h => by
  have hl : vs.length = es.length := PySem.Paired.length h
  unfold L2.start startD
  refine ⟨by simp [hl], fun i d q => ?_⟩
  by_cases hi : i < es.length
  · rw [List.getElem?_append_left (by rw [List.length_map]; exact hi), List.getElem?_map] at q
    have key : ∀ {vs : List V} {es : List DV} {i : Nat} {d : DV}, RVs G F vs es → es[i]? = some d → ∃ v, vs[i]? = some v ∧ RV G F v d := by
      intro vs es i d h
      induction h generalizing i with
      | nil => intro e; simp at e
      | cons r t ih =>
        cases i with
        | zero => intro e; simp at e; subst e; exact ⟨_, rfl, r⟩
        | succ i => intro e; simp at e; simpa using ih e
    cases e : es[i]? with
    | none => rw [e] at q; cases q
    | some d' =>
      rw [e] at q
      cases q
      obtain ⟨v, h1, h2⟩ := key h e
      exact ⟨v, by rw [List.getElem?_append_left (by rw [List.length_map, hl]; exact hi), List.getElem?_map, h1]; rfl, h2⟩
  · rw [List.getElem?_append_right (by rw [List.length_map]; omega), List.getElem?_replicate] at q
    split at q <;> cases q
/-- what a def's reading must do -/
def BodyD (G : Ctx) (n : Nat) (rd : WX → TS) (S : SpD) : Prop := ∀ (W : WX) (es : List DV) (m : Mu) (R : DV → Mu → Prop) (XR : Tag → Mu → Prop), S es m R XR →
  StD G W (rd W) (startD n es) m { nx := fun _ m' => R (.d .non) m', rt := R } (fun t _ m' => XR t m')
/-- a def's promise by its reading -/
theorem fn_D {P : Program} {w : World} {mg : Str → Option Value} {base : Heap} {G : Ctx} {x qual : Str} {st : Stmt} {f : Addr} {fd : FuncData} {N ps : List Str} {k : Nat} {S : SpD} {rd : WX → TS} (F : Fun G.K x qual st f fd) (sc : FnScope N ps (defScope st))
    (len : ∀ es m R XR, S es m R XR → es.length = ps.length) (sem : BodyD G N.length rd S)
    (hbody : ∀ (cdv : Value) (A : Around) (outer : List Env) (s : Shared) (H : Hp) (E : XK), Room k (A.deeper (PyProof.Rows.envOfC qual (defScope st) s.heap.objs.size f cdv)) →
      PSs (cxOf (L2.CX P w) P w G.K mg base N qual (defScope st) f cdv A outer s H E) (defBody st) (rd fun c d _ H' => E c d H')) : FnOk P w G.K mg base (L2.CX P w) (k + 1) f fd ps (spL G S) := by
  refine F.okX sc (fun vs H Q E h => ?_) (fun cdv A outer s H vs Q E hr h => ⟨_, hbody cdv A outer s H E hr, ?_⟩)
  · obtain ⟨es, m, R, XR, _, h2, h3, _⟩ := h
    rw [PySem.Paired.length h2]
    exact len es m R XR h3
  · obtain ⟨es, m, R, XR, h1, h2, h3, h4, h5⟩ := h
    exact sem (fun c d _ H' => E c d H') es m R XR h3 _ H _ h1 (REnv.start h2) ⟨fun σ H' ds m' t s' _ q => h4 _ H' _ m' t s' (RV.dat Rp.non) q, h4, fun _ _ _ _ _ _ _ z => z.elim, fun _ _ _ _ _ _ _ z => z.elim, fun t ht σ H' ds m' tr s' _ q => h5 t ht H' m' tr s' q⟩
section
variable {G : Ctx} {W : WX} {ds : DS} {m : Mu} {R : DV → Mu → Prop} {XR : Tag → Mu → Prop} {t : TA} {S : SpD}
theorem ev_call (h : EvA G W t ds m (fun es m1 => S es m1 R XR) XR) : EvD G W (tCallS (spL G S) (WE W) t) ds m R XR := fun σ H Q s r p x =>
  h σ H _ s r (fun vs H1 es m1 t1 s1 r1 q1 => ⟨es, m1, R, XR, s1, r1, q1, p.tr t1, x.tr t1⟩) x
end
/-- raise -/
def tRaise (W : WX) (b : Bool) (C : Addr) : TS := fun _ σ H => b = true → W (.ref C) none σ H
theorem st_raise {G : Ctx} {W : WX} {ds : DS} {m : Mu} {N : EndsD} {XR : Tag → DS → Mu → Prop} {t : Tag} (k : XR t ds m) : StD G W (tRaise W (G.has t) (G.ex t)) ds m N XR := fun σ H E s r p hh => p.xe t hh σ H ds m (Ex.refl _) s r k
theorem ps_raiseD {X : Cx} {W : WX} {x z : Str} {j : Nat} {p p2 pos pos' : Pos} {C : Addr} {b : Bool} (hc : X.calm = true) (tk : Takes X W) (hb : b = true) (q : PySem.W.excIn X.K C [.type "ValueError", .type "Exception", .type "BaseException", .type "object"] "ValueError.__new__" = true) (gC : X.mg x = some (.ref C)) (kC : PySem.W.keepIn X.K (.ref C) = true) (b1 : PySem.W.subIn X.K (.ref C) (.type "BaseException") = some true) (ty : PySem.W.typeIn X.K (.ref C) = some (.type "type"))
    (hg : Gl X x) (hdb : (x == ("__debug__" : Str)) = false := by decide) : PS X (.Raise (some (.Call (.Name x p) [.Constant (.str z) j p2] [] pos)) none pos') (tRaise W b C) := by
  have k := ps_raise hc tk (pmk_own PySem.F.excBase_ValueError q gC kC (raises_own b1 ty) hg hdb) (pos := pos') (e := .Call (.Name x p) [.Constant (.str z) j p2] [] pos)
  exact ⟨fun pins s σ H D I h => k.run pins s σ H D I (h hb)⟩

/-! ### isinstance -/
def tyD : DV → Mu → Option String
  | .d .non, _ => some "NoneType"
  | .d (.bl _), _ => some "bool"
  | .d (.int _), _ => some "int"
  | .d (.str _), _ => some "str"
  | .d (.lst _), _ => some "list"
  | .d (.tup _), _ => some "tuple"
  | .r a, m => match m a with
    | some (.lst _) => some "list"
    | _ => none
  | .scr _, _ => none
theorem tyD_of {G : Ctx} {H : Hp} {m : Mu} {v : V} {d : DV} {T : String} (s : S0 G H m) (r : RV G (fz H m) v d) (h : tyD d m = some T) : TyX G.K H v (.type T) := by
  unfold tyD at h
  split at h
  · cases h; cases r; exact .base .non
  · cases h; cases r; exact .base (.bl _)
  · cases h; cases r; exact .base (.int _)
  · cases h; cases r; exact .base (.str _)
  · cases h
    cases r with
    | lst h1 h2 => exact .base (.lst (fz_ex _ _ h1))
  · cases h
    cases r with
    | tup h1 h2 => exact .base (.tup (fz_ex _ _ h1))
  · split at h
    · rename_i e
      cases h
      cases r
      obtain ⟨vs, h1, h2⟩ := s _ _ e
      exact .base (.lst h1)
    · cases h
  · cases h
/-- isinstance(e, T), T a built-in class -/
def rIsB (G : Ctx) (T : String) : List V → Hp → VK → Prop := fun xs H Q => ∃ x dx m, xs = [x, .ty T] ∧ S0 G H m ∧ RV G (fz H m) x dx ∧ ∃ U b, tyD dx m = some U ∧ kitB U T = some b ∧ Q (.bl b) H
theorem cr_isB {X : Cx} {G : Ctx} (hK : X.K = G.K) {T : String} : CallR X (.builtin "isinstance") (rIsB G T) := by
  intro pins s σ H xs us Q I r h
  obtain ⟨x, dx, m, rfl, s0, r1, U, b, e1, e2, q⟩ := h
  exact call_isi pins s σ H _ us Q I r ⟨_, _, .type U, .type T, b, rfl, .ty T, by rw [hK]; exact tyD_of s0 r1 e1, kit_ty e2, q⟩
theorem ev_isB {G : Ctx} {W : WX} {ds : DS} {m : Mu} {R : DV → Mu → Prop} {XR : Tag → Mu → Prop} {te : TE} {T : String} (h : EvD G W te ds m (fun d m1 => ∃ U b, tyD d m1 = some U ∧ kitB U T = some b ∧ R (.d (.bl b)) m1) XR) :
    EvD G W (tCB (rIsB G T) (tCons te (tCons (tC (.ty T)) tNil))) ds m R XR := fun σ H Q s r p x =>
  h σ H _ s r (fun v H1 d m1 t1 s1 r1 ⟨U, b, e1, e2, q⟩ => ⟨v, d, m1, rfl, s1, r1, U, b, e1, e2, p _ H1 _ m1 t1 s1 (RV.dat (Rp.bl _)) q⟩) x
/-- the classes of errors, as the top has made them -/
structure ExcT (G : Ctx) : Prop where
  ec : ∀ t, G.has t = true → ExcC G.K (G.ex t)
  kit : ∀ t u, G.has t = true → G.has u = true → PySem.W.kitOne G.K (.ref (G.ex t)) (.ref (G.ex u)) = some (decide (t = u))
  val : ∀ t, G.has t = true → PySem.W.kitOne G.K (.ref (G.ex t)) (.type "ValueError") = some true
def isEF (u : Tag) : DV → Mu → (DV → Mu → Prop) → Prop
  | .r a, m, R => ∃ t, m a = some (.exc t) ∧ R (.d (.bl (decide (t = u)))) m
  | _, _, _ => False
def isVF : DV → Mu → (DV → Mu → Prop) → Prop
  | .r a, m, R => ∃ t, m a = some (.exc t) ∧ R (.d (.bl true)) m
  | _, _, _ => False
/-- isinstance(e, C), e an error of ours -/
def rIsE1 (G : Ctx) (c : V) (f : DV → Mu → (DV → Mu → Prop) → Prop) : List V → Hp → VK → Prop := fun xs H Q => ∃ x dx m R, xs = [x, c] ∧ S0 G H m ∧ RV G (fz H m) x dx ∧ f dx m R ∧ Post G H m R Q
theorem isE_at {X : Cx} {G : Ctx} (hK : X.K = G.K) {pins : List (Addr × Obj)} {s : Shared} {σ : L2.St} {H : Hp} (I : L2.Inv X pins σ H s) {a C : Addr} (h : H a = some (ExA C a)) (ec : ExcC X.K C) {cv : Value} {b : Bool} (e : PySem.W.kitOne X.K (.ref C) cv = some b) {Q : VK} (q : Q (.bl b) H) :
    wpAny (model X.prog X.w) X.A (call (.builtin "isinstance") [.ref a, cv]) (EP X pins σ Q) X.xe s := by
  obtain ⟨⟨oe, hget, hz, vs, hv⟩, _, _⟩ := I.hok a _ h
  have J : PySem.W.InstAt s.heap a oe C none := by
    obtain ⟨oc, od, oda, osl⟩ := oe
    obtain ⟨z1, z2⟩ := hz
    dsimp only at z1 z2 hv
    subst z1 z2 hv
    exact ⟨hget, rfl, rfl, trivial⟩
  exact PySem.W.kia_one (PySem.W.handS_kitx_exc ec.hg ec.hk ec.hs ec.hd ec.ha ec.hn ec.ht ec.hm) I.kIn J e (fun z => nomatch z) fun tk => ⟨.bl b, H, I.kept (t' := tk) fun _ _ z => z, rfl, q⟩
theorem cr_isE {X : Cx} {G : Ctx} (hK : X.K = G.K) (T : ExcT G) (u : Tag) (hu : G.has u = true) : CallR X (.builtin "isinstance") (rIsE1 G (.ref (G.ex u)) (isEF u)) := by
  intro pins s σ H xs us Q I r h
  obtain ⟨x, dx, m, R, rfl, s0, r1, h, p⟩ := h
  obtain ⟨u1, u2, rfl, q1, q2⟩ := vals2 r
  cases q2
  unfold isEF at h
  split at h
  · obtain ⟨t, e, h⟩ := h
    cases r1
    cases q1
    exact isE_at hK I (s0 _ _ e).1 (by rw [hK]; exact T.ec t (s0 _ _ e).2) (by rw [hK]; exact T.kit t u (s0 _ _ e).2 hu) (p.here s0 (RV.dat (Rp.bl _)) h)
  · exact h.elim
theorem cr_isV {X : Cx} {G : Ctx} (hK : X.K = G.K) (T : ExcT G) : CallR X (.builtin "isinstance") (rIsE1 G (.ty "ValueError") isVF) := by
  intro pins s σ H xs us Q I r h
  obtain ⟨x, dx, m, R, rfl, s0, r1, h, p⟩ := h
  obtain ⟨u1, u2, rfl, q1, q2⟩ := vals2 r
  cases q2
  unfold isVF at h
  split at h
  · obtain ⟨t, e, h⟩ := h
    cases r1
    cases q1
    exact isE_at hK I (s0 _ _ e).1 (by rw [hK]; exact T.ec t (s0 _ _ e).2) (by rw [hK]; exact T.val t (s0 _ _ e).2) (p.here s0 (RV.dat (Rp.bl _)) h)
  · exact h.elim
theorem ev_isE {G : Ctx} {W : WX} {ds : DS} {m : Mu} {R : DV → Mu → Prop} {XR : Tag → Mu → Prop} {te : TE} {c : V} {f : DV → Mu → (DV → Mu → Prop) → Prop} (h : EvD G W te ds m (fun d m1 => f d m1 R) XR) :
    EvD G W (tCB (rIsE1 G c f) (tCons te (tCons (tC c) tNil))) ds m R XR := fun σ H Q s r p x =>
  h σ H _ s r (fun v H1 d m1 t1 s1 r1 q => ⟨v, d, m1, R, rfl, s1, r1, q, p.tr t1⟩) x
end Lb

/-! Lb6: try: .. except X as e: kept = e: the error is kept as an object of ours. -/
namespace Lb
open PySem L2

/-- an object that was made behind the entry is tracked from now on -/
theorem adopt {X : Cx} {pins : List (Addr × Obj)} {σ : L2.St} {H : Hp} {s : Shared} {a : Addr} {o : HO} {oe : Obj} {vs : Array Value} (I : L2.Inv X pins σ H s) (h1 : s.heap.get? a = some oe) (h2 : oe.data = .fields vs) (hn : H a = none) (h0 : X.s_0.heap.get? a = none) (hL : a ≠ X.env.locals) (hp : ∀ p ∈ X.pn ++ pins, p.1 ≠ a)
    (new : ObjOk X.prog X.w (upd H a o) s.heap a o) : L2.Inv X pins σ (upd H a o) s := by
  have n0 : ∀ b ob, X.s_0.heap.get? b = some ob → b ≠ a := fun b ob e z => by rw [z, h0] at e; cases e
  have nc : ∀ x c, X.env.cells.lookup x = some c → c ≠ a := fun x c e z => by
    obtain ⟨v, oc, g1, g2⟩ := I.cell x c e
    rw [z, h1] at g1
    cases g1
    rw [h2] at g2
    cases g2
  have ub := I.base
  exact {
    ok := I.ok
    os := I.os
    bare := I.bare
    base := {
      keep := ub.keep
      slot := ub.slot
      free := fun b ob e n hx => by rw [upd_ne (n0 b ob e)]; exact ub.free b ob e n hx
      there := ub.there
      tups := fun b xs e => by have q := ub.tups b xs e; rw [upd_ne (ne_of_none q hn)]; exact q
      frzs := fun b ob u e => by have q := ub.frzs b ob u e; rw [upd_ne (ne_of_none q hn)]; exact q
      tbls := fun b ps e => by obtain ⟨k, q⟩ := ub.tbls b ps e; exact ⟨k, by rw [upd_ne (ne_of_none q hn)]; exact q⟩ }
    loc := I.loc
    cell := I.cell
    free := by rw [upd_ne (Ne.symm hL)]; exact I.free
    freeC := fun x c e => by rw [upd_ne (nc x c e)]; exact I.freeC x c e
    pin := fun p q => by
      obtain ⟨g1, g2, g3⟩ := I.pin p q
      exact ⟨g1, by rw [upd_ne (hp p q)]; exact g2, g3⟩
    hok := I.hok.laidN (fun _ _ z => z) hn new
    len := I.len }
theorem exA_ok {P : Program} {w : World} {H : Hp} {h : Heap} {a C : Addr} {oe : Obj} {vs : Array Value} (e : h.get? a = some oe) (z : Zc (.ref C) none oe) (d : oe.data = .fields vs) : ObjOk P w H h a (ExA C a) :=
  ⟨⟨oe, e, z, vs, d⟩, ⟨oe, e⟩, fun _ _ ⟨o, q, r⟩ k => ⟨o, k o q, r⟩⟩
/-- what is wished of an error in the body: it is kept at slot i through the suite, and tracked behind it -/
def wKeep (K : PySem.W.Frag) (c : Value) (i : Nat) (ts : Addr → TS) (D : Ends) : WX := fun cls d σ H =>
  ∃ C, cls = .ref C ∧ d = none ∧ PySem.W.exmOne K cls c = some true ∧ ∀ a, H a = none → ts a { nx := fun σ' H' => H' a = none → D.nx (σ'.set i none) (upd H' a (ExA C a)), rt := fun _ _ => False } (σ.set i (some (.ref a))) H
section
variable {X : Cx} {x n : Str} {c : Value} {i : Nat} {body suite : List Stmt} {st0 : Stmt} {np pos posh : Pos} {tb : WX → TS} {ts : Addr → TS}
open PySem.Spec PyProof.Rows in
theorem ps_tryK (hst : X.stack = X.env :: X.outer) (hfr0 : X.env.frame = some X.env.locals) (hex : X.ex = []) (hN : X.N.Nodup) (hi : X.N[i]? = some n) (hln : X.env.kindOf n = some .local) (hc : Names X x c)
    (hb : ∀ (W : WX) (pn : List (Addr × Obj)) (xe : Value → Shared → Prop), Takes (X.tr pn xe) W → PassesOwn (model X.prog X.w) X.A X.env xe → PSs (X.tr pn xe) body (tb W))
    (hsu : ∀ (a : Addr) (oe : Obj) (pn : List (Addr × Obj)), PSs (X.suite a ((a, oe) :: pn)) (st0 :: suite) (ts a)) :
    PS X (.Try body [.ExceptHandler (some (.Name x np)) (some n) (st0 :: suite) posh] [] [] pos) (fun D σ H => tb (wKeep X.K c i ts D) D σ H) := by
  refine ⟨fun pins s σ H D I h => wpAny_Try_except (wpAny_mono ((hb (wKeep X.K c i ts D) (X.pn ++ pins) _ (fun u z thrown => ?caught) PassesOwn.looking).run [] s σ H D (I.toTry _) h) (fun fl z ended => ?through) (fun _ _ q => q))⟩
  case through =>
    have ok := I.ok
    cases fl with
    | next => obtain ⟨σ2, H2, J, q⟩ := ended; exact wpAny_execs_nil ⟨σ2, H2, J.ofTry ok, q⟩
    | brk => obtain ⟨σ2, H2, J, q⟩ := ended; exact ⟨σ2, H2, J.ofTry ok, q⟩
    | cont => obtain ⟨σ2, H2, J, q⟩ := ended; exact ⟨σ2, H2, J.ofTry ok, q⟩
    | ret v => obtain ⟨w, σ2, H2, J, r, q⟩ := ended; exact ⟨w, σ2, H2, J.ofTry ok, r, q⟩
  case caught =>
    have ok := I.ok
    have frames : X.A.frames = some (X.env :: X.outer) := by rw [ok.frames, hst]
    obtain ⟨a, B, sI, pins2, σ2, H2, cls, dd, eu, JT, nb, up, sky, na, os, ag, C, rfl, rfl, exm, yes⟩ := thrown
    subst eu
    have J : L2.Inv X pins σ2 H2 sI := JT.ofTry ok
    rw [hst] at sky
    refine Sky.land Zc.steady frames hfr0 sky fun h3 fl3 up3 => ?_
    have J3 : L2.Inv X pins σ2 H2 { z with heap := h3 } := J.landed nb fl3.1 (up.trans up3) os ag
    obtain ⟨o3, v3, g3, z3, d3⟩ := fl3.there
    have nofr : a ∉ frs (X.env :: X.outer) := fun hm => by
      obtain ⟨_, o', e', hnf⟩ := fl3.2.2.1.mem hm
      rw [g3] at e'
      cases e'
      exact hnf _ d3
    have nL : a ≠ X.env.locals := fun q => nofr (List.mem_filterMap.mpr ⟨X.env, List.mem_cons_self, by rw [hfr0, q]⟩)
    have nF : a ∉ X.fs := fun hm => by
      obtain ⟨ev, he, q⟩ := List.mem_filterMap.mp hm
      exact nofr (List.mem_filterMap.mpr ⟨ev, List.mem_cons_of_mem _ he, q⟩)
    have sIa : sI.heap.get? a = none := by
      cases q : sI.heap.get? a with
      | none => rfl
      | some ob =>
        have q2 := nb a ob q (by rw [hst]; exact nofr)
        rw [fl3.2.1] at q2
        cases q2
    have s0a : X.s_0.heap.get? a = none := by
      cases q : X.s_0.heap.get? a with
      | none => rfl
      | some ob =>
        obtain ⟨o', q2⟩ := J.base.there a ob q (by rw [hex]; exact fun z => nomatch z)
        rw [sIa] at q2
        cases q2
    have npin : ∀ p ∈ X.pn ++ pins, p.1 ≠ a := fun p hp e => by
      have q := (J.pin p hp).1
      rw [e, sIa] at q
      cases q
    have S3 := J3.suite g3 d3 na nL nF
    refine wpAny_handleBy_cons (codeAny_handlers_test ?_) (fun q => nomatch q)
    have look : PySem.W.Looks (model X.prog X.w) h3 (typeOf (.ref a)) (.ref C) := fun A Q E s k q => wpAny_typeOf_ref (k _ _ g3) (by rw [z3.1]; exact q)
    have named : ∀ {Q : Value → Shared → Prop} {E : Value → Shared → Prop}, Q c { z with heap := h3 } → wpAny (model X.prog X.w) (X.A.mark (some (.ref a))) (eval (.Name x np) X.env) Q E { z with heap := h3 } := fun {Q E} q => by
      obtain ⟨hg, hdbg, hm | ⟨hm, hv, hnn⟩⟩ := hc
      · exact ld_glob (X := X.suite a ((a, o3) :: (X.pn ++ pins))) S3 hg hm q hdbg
      · exact ld_blt (X := X.suite a ((a, o3) :: (X.pn ++ pins))) S3 hg hm hv q hnn hdbg
    refine named ((PySem.W.exm_one (M := model X.prog X.w) J3.kIn look exm).here (codeAny_handlers_suite_as (HandSPX.lands_againZ fl3 fun h4 fl4 up4 => ?_)))
    have J4 : L2.Inv X pins σ2 H2 { z with heap := h4 } := J.landed nb fl4.1 ((up.trans up3).trans up4) os ag
    obtain ⟨o4, v4, g4, z4, d4⟩ := fl4.there
    refine store_ok (X := X.suite a ((a, o4) :: (X.pn ++ pins))) (v := .ref a) (J4.suite g4 d4 na nL nF) hN hi (.inl hln) rfl (fun s5 S5 => ?_) (.inr hln)
    refine wpAny_mono ((hsu a o4 (X.pn ++ pins)).run [] s5 _ H2 _ S5 (yes a na)) (fun fl s6 ended => ?_) (fun _ _ q => False.elim q)
    cases fl with
    | next =>
      obtain ⟨σ6, H6, S6, q6⟩ := ended
      obtain ⟨k1, k2, _⟩ := S6.pin (a, o4) (by rw [List.append_nil]; exact List.mem_cons_self)
      have K6 : L2.Inv X pins σ6 (upd H6 a (ExA C a)) s6 := adopt (S6.unsuite ok) k1 d4 k2 s0a nL npin (exA_ok k1 z4 d4)
      exact gone_ok K6 hN hi hln fun s7 K7 => ⟨_, _, K7, q6 k2⟩
    | brk => obtain ⟨_, _, _, q⟩ := ended; exact q.elim
    | cont => obtain ⟨_, _, _, q⟩ := ended; exact q.elim
    | ret v => obtain ⟨_, _, _, _, _, q⟩ := ended; exact q.elim
end
/-- the reading: the error's slot i, kept at slot j -/
def tTryK (K : PySem.W.Frag) (c : Value) (i j : Nat) (tb : WX → TS) : TS := fun D σ H => tb (wKeep K c i (fun _ => tAsg (tVar i) (gName j)) D) D σ H
theorem st_tryK {G : Ctx} {W : WX} {ds : DS} {m : Mu} {N : EndsD} {XR : Tag → DS → Mu → Prop} {i j : Nat} {c : Value} {tb : WX → TS} (hi : i < ds.length) (hij : i ≠ j) (hx : ∀ t, G.has t = true → PySem.W.exmOne G.K (.ref (G.ex t)) c = some true)
    (h : ∀ W', StD G W' (tb W') ds m N (fun t ds' m' => ds'.length = ds.length ∧ ∀ a, m' a = none → N.nx ((ds'.set j (some (.r a))).set i none) (mset m' a (.exc t)))) : StD G W (tTryK G.K c i j tb) ds m N XR := fun σ H E s r p =>
  h _ σ H E s r ⟨p.nx, p.rt, p.bk, p.ct, fun t ht σ2 H2 ds2 m2 t2 s2 r2 ⟨hl, q2⟩ => by
    refine ⟨G.ex t, rfl, rfl, hx t ht, fun a ha => ?_⟩
    have ma := s2.free ha
    have hlen : i < σ2.length := by rw [r2.len, hl]; exact hi
    refine ⟨.ref a, List.getElem?_set_self hlen, fun _ => ?_⟩
    obtain ⟨s3, t3⟩ := s2.put (p := a) (o := ExA (G.ex t) a) (x := .exc t) (by rw [fz_none ma]; exact ha) ⟨upd_same, ht⟩
    have e : (((σ2.set i (some (.ref a))).set j (some (.ref a))).set i none) = ((σ2.set j (some (.ref a))).set i none) := by
      rw [List.set_comm _ _ hij, List.set_set]
    show E.nx (((σ2.set i (some (.ref a))).set j (some (.ref a))).set i none) _
    rw [e]
    exact p.nx _ _ _ _ (t2.trans t3) s3 (((r2.mono t3).set j (show RV G _ (.ref a) (.r a) from rfl)).unset i) (q2 a ma)⟩
end Lb

/-! Lb7: the defs of a program, by name. -/
namespace Lb
open PySem L2

theorem pe_globI {X : Cx} {x : Str} {n : Int} {pos : Pos} (h : ∃ t, X.mg x = some (.int n t)) (hg : Gl X x) (hd : (x == ("__debug__" : Str)) = false := by decide) : PE X (.Name x pos) (tC (.int n)) := by
  obtain ⟨t, h⟩ := h
  exact pe_glob hg h ⟨t, rfl⟩ hd
theorem pe_globS {X : Cx} {x n : Str} {pos : Pos} (h : ∃ t, X.mg x = some (.str n t)) (hg : Gl X x) (hd : (x == ("__debug__" : Str)) = false := by decide) : PE X (.Name x pos) (tC (.str n)) := by
  obtain ⟨t, h⟩ := h
  exact pe_glob hg h ⟨t, rfl⟩ hd
/-- a def stands at its name -/
def DefAt (G : Ctx) (mg : Str → Option Value) (x qual : Str) (st : Stmt) (ps : List Str) : Prop := ∃ f fd, Fun G.K x qual st f fd ∧ Binds G.K fd ps [] ∧ mg x = some (.ref f)
/-- .. and keeps its promise -/
def FnF (P : Program) (G : Ctx) (mg : Str → Option Value) (base : Heap) (k : Nat) (x : Str) (ps : List Str) (S : SpD) : Prop :=
  ∃ f fd, FnOk P G.w G.K mg base (L2.CX P G.w) k f fd ps (spL G S) ∧ mg x = some (.ref f) ∧ PySem.W.keepIn G.K (.ref f) = true ∧ Binds G.K fd ps []
theorem fnF_mk {P : Program} {mg : Str → Option Value} {base : Heap} {G : Ctx} {x qual : Str} {st : Stmt} {N ps : List Str} {k : Nat} {S : SpD} {rd : WX → TS} (F : DefAt G mg x qual st ps) (sc : FnScope N ps (defScope st))
    (len : ∀ es m R XR, S es m R XR → es.length = ps.length) (sem : BodyD G N.length rd S)
    (hbody : ∀ (f : Addr) (cdv : Value) (A : Around) (outer : List Env) (s : Shared) (H : Hp) (E : XK), Room k (A.deeper (PyProof.Rows.envOfC qual (defScope st) s.heap.objs.size f cdv)) →
      PSs (cxOf (L2.CX P G.w) P G.w G.K mg base N qual (defScope st) f cdv A outer s H E) (defBody st) (rd fun c d _ H' => E c d H')) : FnF P G mg base (k + 1) x ps S := by
  obtain ⟨f, fd, F1, b, m⟩ := F
  exact ⟨f, fd, fn_D F1 sc len sem (hbody f), m, F1.kp, b⟩
theorem FnF.up {P : Program} {mg : Str → Option Value} {base : Heap} {G : Ctx} {x : Str} {ps : List Str} {j k : Nat} {S : SpD} (h : FnF P G mg base j x ps S) (hk : j ≤ k) : FnF P G mg base k x ps S := by
  obtain ⟨f, fd, F, r⟩ := h
  exact ⟨f, fd, F.mono hk, r⟩
theorem FnF.imp {P : Program} {mg : Str → Option Value} {base : Heap} {G : Ctx} {x : Str} {ps : List Str} {k : Nat} {S S' : SpD} (h : FnF P G mg base k x ps S) (hs : ∀ es m R XR, S' es m R XR → S es m R XR) : FnF P G mg base k x ps S' := by
  obtain ⟨f, fd, F, r⟩ := h
  exact ⟨f, fd, F.imp fun vs H Q E ⟨es, m, R, XR, a, b, c, d⟩ => ⟨es, m, R, XR, a, b, hs es m R XR c, d⟩, r⟩
theorem pe_callF {X : Cx} {G : Ctx} {W : WX} {k : Nat} {x : Str} {ps : List Str} {S : SpD} {p pos : Pos} {e : Expr} {es : List Expr} {t : TA} (h : FnF X.prog G X.mg X.base k x ps S) (hK : X.K = G.K) (hw : X.w = G.w) (hr : Room k X.A) (tk : Takes X W) (hg : Gl X x)
    (ha : PA X (e :: es) t) (hdb : (x == ("__debug__" : Str)) = false := by decide) (he : starEach (e :: es) X.env = (false, eval e X.env) :: starEach es X.env := by rfl) (hpl : (backTo pos (starEach es X.env)).any (·.1) = false := by rfl) :
    PE X (.Call (.Name x p) (e :: es) [] pos) (tCallS (spL G S) (WE W) t) := by
  obtain ⟨f, fd, F, m, kp, b⟩ := h
  rw [← hK, ← hw] at F
  rw [← hK] at kp b
  exact pe_callS F hr hg m kp b (fun σ => passAt tk σ) ha hdb he hpl
theorem pt_truD {X : Cx} {a : Expr} {ta : TE} (ha : PE X a ta) (he : ∀ whole, isTrue a X.env whole = (do let v ← whole; standAt a.pos; holding [v] (truthy v)) := by intro _; rfl) : PT X a (tTru X.K ta) := pt_truth ha he
theorem Room.u65 {k : Nat} {A : Around} (r : Room k A) : A.units + 65 < cLine := by have := r.un; omega
/-- the program's errors and where they stand -/
structure ErrAt (G : Ctx) (mg : Str → Option Value) (x : Str) (t : Tag) : Prop where
  h : G.has t = true
  g : mg x = some (.ref (G.ex t))
  q : PySem.W.excIn G.K (G.ex t) [.type "ValueError", .type "Exception", .type "BaseException", .type "object"] "ValueError.__new__" = true
  k : PySem.W.keepIn G.K (.ref (G.ex t)) = true
  b : PySem.W.subIn G.K (.ref (G.ex t)) (.type "BaseException") = some true
  ty : PySem.W.typeIn G.K (.ref (G.ex t)) = some (.type "type")
theorem ps_raiseE {X : Cx} {G : Ctx} {W : WX} {t : Tag} {x z : Str} {j : Nat} {p p2 pos pos' : Pos} (hc : X.calm = true) (tk : Takes X W) (hK : X.K = G.K) (e : ErrAt G X.mg x t) (hg : Gl X x) (hdb : (x == ("__debug__" : Str)) = false := by decide) :
    PS X (.Raise (some (.Call (.Name x p) [.Constant (.str z) j p2] [] pos)) none pos') (tRaise W (G.has t) (G.ex t)) := ps_raiseD hc tk e.h (by rw [hK]; exact e.q) e.g (by rw [hK]; exact e.k) (by rw [hK]; exact e.b) (by rw [hK]; exact e.ty) hg hdb
/-- boot -/
theorem bt_sum : bootBuiltins "sum" = some (.builtin "sum") := by decide +kernel
theorem bt_abs : bootBuiltins "abs" = some (.builtin "abs") := by decide +kernel
theorem bt_min : bootBuiltins "min" = some (.builtin "min") := by decide +kernel
theorem bt_max : bootBuiltins "max" = some (.builtin "max") := by decide +kernel
theorem bt_all : bootBuiltins "all" = some (.builtin "all") := by decide +kernel
theorem bt_any : bootBuiltins "any" = some (.builtin "any") := by decide +kernel
theorem bt_sorted : bootBuiltins "sorted" = some (.builtin "sorted") := by decide +kernel
theorem bt_isinstance : bootBuiltins "isinstance" = some (.builtin "isinstance") := by decide +kernel
theorem bt_list : bootBuiltins "list" = some (.type "list") := by decide +kernel
theorem bt_tuple : bootBuiltins "tuple" = some (.type "tuple") := by decide +kernel
theorem bt_int : bootBuiltins "int" = some (.type "int") := by decide +kernel
theorem bt_bool : bootBuiltins "bool" = some (.type "bool") := by decide +kernel
theorem bt_str : bootBuiltins "str" = some (.type "str") := by decide +kernel
theorem bt_set : bootBuiltins "set" = some (.type "set") := by decide +kernel
theorem bt_ValueError : bootBuiltins "ValueError" = some (.type "ValueError") := by decide +kernel
/-- ghost: a slot's list is data from now on -/
theorem st_frz {G : Ctx} {W : WX} {ds : DS} {m : Mu} {N : EndsD} {XR : Tag → DS → Mu → Prop} {t : TS} (i : Nat) {a : Addr} {xs : List D} (h : ds[i]? = some (some (.r a))) (hm : m a = some (.lst xs)) (k : StD G W t (ds.set i (some (.d (.lst xs)))) (mdel m a) N XR) : StD G W t ds m N XR := fun σ H E s r p => by
  obtain ⟨v, h1, h2⟩ := r.at_ i _ h
  cases h2
  obtain ⟨vs, e1, e2⟩ := s a _ hm
  obtain ⟨s', tr⟩ := s.del (p := a)
  have rv : RV G (fz H (mdel m a)) (.ref a) (.d (.lst xs)) := RV.dat (Rp.lst (by rw [fz_none mdel_same]; exact e1) (RpL.mono tr _ _ e2))
  have e : σ = σ.set i (some (.ref a)) := by
    apply List.ext_getElem?
    intro j
    by_cases hj : i = j
    · subst hj
      obtain ⟨hl, _⟩ := List.getElem?_eq_some_iff.mp h1
      rw [List.getElem?_set_self hl, h1]
    · rw [List.getElem?_set_ne hj]
  have r2 := (r.mono tr).set i rv
  rw [← e] at r2
  exact k σ H E s' r2 (p.tr tr)
/-- .. or a value's -/
theorem ev_fr {G : Ctx} {W : WX} {ds : DS} {m : Mu} {R : DV → Mu → Prop} {XR : Tag → Mu → Prop} {te : TE} (h : EvD G W te ds m (fun d m1 => ∃ a xs, d = .r a ∧ m1 a = some (.lst xs) ∧ R (.d (.lst xs)) (mdel m1 a)) XR) : EvD G W te ds m R XR := fun σ H Q s r p x =>
  h σ H _ s r (fun v H1 d m1 t1 s1 r1 ⟨a, xs, e, em, q⟩ => by
    subst e
    cases r1
    obtain ⟨vs, e1, e2⟩ := s1 a _ em
    obtain ⟨s', tr⟩ := s1.del (p := a)
    exact p _ H1 _ _ (t1.trans tr) s' (RV.dat (Rp.lst (by rw [fz_none mdel_same]; exact e1) (RpL.mono tr _ _ e2))) q) x
end Lb

/-! Lb8: data by kind, one step lemmas. -/
namespace Lb
open PySem L2
abbrev dInts (ns : List Int) : D := .lst (ns.map D.int)
abbrev dTup (ns : List Int) : D := .tup (ns.map D.int)
abbrev dQs (qs : List (List Int)) : D := .lst (qs.map dInts)
theorem eqD_int (a b : Int) : eqD (.int a) (.int b) = decide (a = b) := by
  unfold eqD toPy
  rw [PyData.eqv]
  exact Bool.beq_eq_decide_eq a b
theorem any_int (k : Int) : ∀ ns : List Int, ((ns.map D.int).any fun y => eqD y (.int k)) = decide (k ∈ ns)
  | [] => by simp
  | n :: ns => by
    rw [List.map_cons, List.any_cons, any_int k ns, eqD_int]
    by_cases h : k = n
    · subst h; simp
    · have h2 : ¬ n = k := fun e => h e.symm
      simp [h, h2]
theorem eqD_bl (a b : Bool) : eqD (.bl a) (.bl b) = (a == b) := by
  unfold eqD toPy
  rw [PyData.eqv]
theorem sh_int {n : Nat} {i : Int} : Sh n (.int i) := by unfold Sh; trivial
theorem sh_bl {n : Nat} {b : Bool} : Sh n (.bl b) := by unfold Sh; trivial
theorem sh_non {n : Nat} : Sh n .non := by unfold Sh; trivial
theorem sh_ints {n : Nat} {ns : List Int} : ∀ y ∈ ns.map D.int, Sh n y := fun y hy => by
  obtain ⟨i, _, rfl⟩ := List.mem_map.mp hy
  exact sh_int
theorem sh_dInts {n : Nat} {ns : List Int} : Sh (n + 1) (dInts ns) := by
  show ∀ x ∈ ns.map D.int, Sh n x
  exact sh_ints
theorem sh_dTup {n : Nat} {ns : List Int} : Sh (n + 1) (dTup ns) := by
  show ∀ x ∈ ns.map D.int, Sh n x
  exact sh_ints
/-- k in a list of numbers -/
theorem f_in {m : Mu} {R : DV → Mu → Prop} {k : Int} {ns : List Int} (h : R (.d (.bl (decide (k ∈ ns)))) m) : inF (.d (.int k)) (.d (dInts ns)) m R := by
  refine ⟨sh_int, sh_ints, ?_⟩
  rw [any_int]
  exact h
theorem f_add_i {m : Mu} {R : DV → Mu → Prop} {i j : Int} (h : R (.d (.int (i + j))) m) : addF (.d (.int i)) (.d (.int j)) m R := h
theorem f_add_s {m : Mu} {R : DV → Mu → Prop} {s t : Str} (h : s.length + t.length ≤ 100000 ∧ R (.d (.str (s ++ t))) m) : addF (.d (.str s)) (.d (.str t)) m R := h
theorem f_add_l {m : Mu} {R : DV → Mu → Prop} {xs ys : List D} (h : xs.length + ys.length ≤ 100000 ∧ R (.d (.lst (xs ++ ys))) m) : addF (.d (.lst xs)) (.d (.lst ys)) m R := h
theorem f_add_t {m : Mu} {R : DV → Mu → Prop} {xs ys : List D} (h : xs.length + ys.length ≤ 100000 ∧ R (.d (.tup (xs ++ ys))) m) : addF (.d (.tup xs)) (.d (.tup ys)) m R := h
theorem f_sub {m : Mu} {R : DV → Mu → Prop} {i j : Int} (h : R (.d (.int (i - j))) m) : subF (.d (.int i)) (.d (.int j)) m R := h
theorem f_mul_i {m : Mu} {R : DV → Mu → Prop} {i j : Int} (h : CMul i j ∧ R (.d (.int (i * j))) m) : mulF (.d (.int i)) (.d (.int j)) m R := h
theorem f_mul_l {m : Mu} {R : DV → Mu → Prop} {xs : List D} {k : Int} (h : 0 ≤ k ∧ k ≤ 100000 ∧ xs.length * k.toNat ≤ 100000 ∧ R (.d (.lst (List.replicate k.toNat xs).flatten)) m) : mulF (.d (.lst xs)) (.d (.int k)) m R := h
theorem f_mul_t {m : Mu} {R : DV → Mu → Prop} {xs : List D} {k : Int} (h : xs ≠ [] ∧ 1 ≤ k ∧ k ≤ 1000 ∧ xs.length ≤ 1000 ∧ R (.d (.tup (List.replicate k.toNat xs).flatten)) m) : mulF (.d (.tup xs)) (.d (.int k)) m R := h
theorem f_div {m : Mu} {R : DV → Mu → Prop} {i j : Int} (h : CDiv i j ∧ R (.d (.int (i / j))) m) : divF (.d (.int i)) (.d (.int j)) m R := h
theorem f_mod {m : Mu} {R : DV → Mu → Prop} {i j : Int} (h : 0 < j ∧ R (.d (.int (i % j))) m) : modF (.d (.int i)) (.d (.int j)) m R := h
theorem f_pow {m : Mu} {R : DV → Mu → Prop} {i j : Int} (h : CPow i j ∧ R (.d (.int (i ^ j.toNat))) m) : powF (.d (.int i)) (.d (.int j)) m R := h
theorem f_lt {m : Mu} {R : DV → Mu → Prop} {i j : Int} (h : R (.d (.bl (decide (i < j)))) m) : ltF (.d (.int i)) (.d (.int j)) m R := h
theorem f_le {m : Mu} {R : DV → Mu → Prop} {i j : Int} (h : R (.d (.bl (decide (i ≤ j)))) m) : leF (.d (.int i)) (.d (.int j)) m R := h
theorem f_gt {m : Mu} {R : DV → Mu → Prop} {i j : Int} (h : R (.d (.bl (decide (j < i)))) m) : gtF (.d (.int i)) (.d (.int j)) m R := h
theorem f_ge {m : Mu} {R : DV → Mu → Prop} {i j : Int} (h : R (.d (.bl (decide (j ≤ i)))) m) : geF (.d (.int i)) (.d (.int j)) m R := h
theorem f_eq_i {m : Mu} {R : DV → Mu → Prop} {i j : Int} (h : R (.d (.bl (decide (i = j)))) m) : eqF (.d (.int i)) (.d (.int j)) m R := ⟨sh_int, sh_int, by rw [eqD_int]; exact h⟩
theorem f_ne_i {m : Mu} {R : DV → Mu → Prop} {i j : Int} (h : R (.d (.bl (!decide (i = j)))) m) : neF (.d (.int i)) (.d (.int j)) m R := ⟨sh_int, sh_int, by rw [eqD_int]; exact h⟩
theorem f_eq_b {m : Mu} {R : DV → Mu → Prop} {i j : Bool} (h : R (.d (.bl (i == j))) m) : eqF (.d (.bl i)) (.d (.bl j)) m R := ⟨sh_bl, sh_bl, by rw [eqD_bl]; exact h⟩
theorem f_ne_b {m : Mu} {R : DV → Mu → Prop} {i j : Bool} (h : R (.d (.bl (i != j))) m) : neF (.d (.bl i)) (.d (.bl j)) m R := ⟨sh_bl, sh_bl, by rw [eqD_bl]; exact h⟩
theorem f_is_n {m : Mu} {R : DV → Mu → Prop} (h : R (.d (.bl true)) m) : isF (.d .non) (.d .non) m R := h
theorem f_isnot_n {m : Mu} {R : DV → Mu → Prop} (h : R (.d (.bl false)) m) : isnotF (.d .non) (.d .non) m R := h
theorem f_is_i {m : Mu} {R : DV → Mu → Prop} {i : Int} (h : R (.d (.bl false)) m) : isF (.d (.int i)) (.d .non) m R := h
theorem f_isnot_i {m : Mu} {R : DV → Mu → Prop} {i : Int} (h : R (.d (.bl true)) m) : isnotF (.d (.int i)) (.d .non) m R := h
theorem f_is_b {m : Mu} {R : DV → Mu → Prop} {c : Bool} (h : R (.d (.bl false)) m) : isF (.d (.bl c)) (.d .non) m R := h
theorem f_isnot_b {m : Mu} {R : DV → Mu → Prop} {c : Bool} (h : R (.d (.bl true)) m) : isnotF (.d (.bl c)) (.d .non) m R := h
theorem f_is_s {m : Mu} {R : DV → Mu → Prop} {s : Str} (h : R (.d (.bl false)) m) : isF (.d (.str s)) (.d .non) m R := h
theorem f_isnot_s {m : Mu} {R : DV → Mu → Prop} {s : Str} (h : R (.d (.bl true)) m) : isnotF (.d (.str s)) (.d .non) m R := h
theorem f_is_l {m : Mu} {R : DV → Mu → Prop} {xs : List D} (h : R (.d (.bl false)) m) : isF (.d (.lst xs)) (.d .non) m R := h
theorem f_isnot_l {m : Mu} {R : DV → Mu → Prop} {xs : List D} (h : R (.d (.bl true)) m) : isnotF (.d (.lst xs)) (.d .non) m R := h
theorem f_is_t {m : Mu} {R : DV → Mu → Prop} {xs : List D} (h : R (.d (.bl false)) m) : isF (.d (.tup xs)) (.d .non) m R := h
theorem f_isnot_t {m : Mu} {R : DV → Mu → Prop} {xs : List D} (h : R (.d (.bl true)) m) : isnotF (.d (.tup xs)) (.d .non) m R := h
theorem f_is_r {m : Mu} {R : DV → Mu → Prop} {a : Addr} (h : R (.d (.bl false)) m) : isF (.r a) (.d .non) m R := h
theorem f_isnot_r {m : Mu} {R : DV → Mu → Prop} {a : Addr} (h : R (.d (.bl true)) m) : isnotF (.r a) (.d .non) m R := h
theorem f_is {m : Mu} {R : DV → Mu → Prop} {x : DV} (h : R (.d (.bl (isNon x))) m) : isF x (.d .non) m R := h
theorem f_isnot {m : Mu} {R : DV → Mu → Prop} {x : DV} (h : R (.d (.bl (!isNon x))) m) : isnotF x (.d .non) m R := h
theorem f_neg {m : Mu} {R : DV → Mu → Prop} {i : Int} (h : R (.d (.int (-i))) m) : negF (.d (.int i)) m R := h
theorem f_len_ml {m : Mu} {R : DV → Mu → Prop} {α : Type} {xs : List α} {f : α → D} (h : R (.d (.int xs.length)) m) : lenF [.d (.lst (xs.map f))] m R := by show R (.d (.int (xs.map f).length)) m; rw [List.length_map]; exact h
theorem f_len_mt {m : Mu} {R : DV → Mu → Prop} {α : Type} {xs : List α} {f : α → D} (h : R (.d (.int xs.length)) m) : lenF [.d (.tup (xs.map f))] m R := by show R (.d (.int (xs.map f).length)) m; rw [List.length_map]; exact h
theorem f_sum_l {m : Mu} {R : DV → Mu → Prop} {ns : List Int} (h : R (.d (.int ns.sum)) m) : sumF [.d (.lst (ns.map D.int))] m R := ⟨ns, rfl, h⟩
theorem f_sum_t {m : Mu} {R : DV → Mu → Prop} {ns : List Int} (h : R (.d (.int ns.sum)) m) : sumF [.d (.tup (ns.map D.int))] m R := ⟨ns, rfl, h⟩
theorem f_all {m : Mu} {R : DV → Mu → Prop} {α : Type} {xs : List α} {f : α → Bool} (h : R (.d (.bl (xs.all f))) m) : allF [.d (.lst (xs.map fun x => D.bl (f x)))] m R := ⟨xs.map f, by rw [List.map_map]; rfl, by rw [List.all_map]; exact h⟩
theorem f_any {m : Mu} {R : DV → Mu → Prop} {α : Type} {xs : List α} {f : α → Bool} (h : R (.d (.bl (xs.any f))) m) : anyF [.d (.lst (xs.map fun x => D.bl (f x)))] m R := ⟨xs.map f, by rw [List.map_map]; rfl, by rw [List.any_map]; exact h⟩
theorem f_len_l {m : Mu} {R : DV → Mu → Prop} {xs : List D} (h : R (.d (.int xs.length)) m) : lenF [.d (.lst xs)] m R := h
theorem f_len_t {m : Mu} {R : DV → Mu → Prop} {xs : List D} (h : R (.d (.int xs.length)) m) : lenF [.d (.tup xs)] m R := h
theorem f_len_c {m : Mu} {R : DV → Mu → Prop} {ns : List Int} (h : R (.d (.int ns.length)) m) : lenF [.scr ns] m R := h
theorem f_abs {m : Mu} {R : DV → Mu → Prop} {i : Int} (h : R (.d (.int (if i < 0 then -i else i))) m) : absF [.d (.int i)] m R := h
theorem f_min2 {m : Mu} {R : DV → Mu → Prop} {i j : Int} (h : R (.d (.int (if j < i then j else i))) m) : minF [.d (.int i), .d (.int j)] m R := h
theorem f_max2 {m : Mu} {R : DV → Mu → Prop} {i j : Int} (h : R (.d (.int (if j > i then j else i))) m) : maxF [.d (.int i), .d (.int j)] m R := h
theorem f_list_l {m : Mu} {R : DV → Mu → Prop} {xs : List D} (h : R (.d (.lst xs)) m) : listF [.d (.lst xs)] m R := h
theorem f_list_t {m : Mu} {R : DV → Mu → Prop} {xs : List D} (h : R (.d (.lst xs)) m) : listF [.d (.tup xs)] m R := h
theorem f_tup_l {m : Mu} {R : DV → Mu → Prop} {xs : List D} (h : R (.d (.tup xs)) m) : tupleF [.d (.lst xs)] m R := h
theorem f_tup_t {m : Mu} {R : DV → Mu → Prop} {xs : List D} (h : R (.d (.tup xs)) m) : tupleF [.d (.tup xs)] m R := h
theorem f_int_i {m : Mu} {R : DV → Mu → Prop} {i : Int} (h : R (.d (.int i)) m) : intF [.d (.int i)] m R := h
theorem f_int_b {m : Mu} {R : DV → Mu → Prop} {b : Bool} (h : R (.d (.int (if b then 1 else 0))) m) : intF [.d (.bl b)] m R := h
theorem f_sl_l {m : Mu} {R : DV → Mu → Prop} {xs : List D} {lo hi : Option Int} (h : R (.d (.lst (cut xs lo hi))) m) : sliceF (.d (.lst xs)) lo hi m R := h
theorem f_sl_t {m : Mu} {R : DV → Mu → Prop} {xs : List D} {lo hi : Option Int} (h : R (.d (.tup (cut xs lo hi))) m) : sliceF (.d (.tup xs)) lo hi m R := h
theorem f_tr_n {m : Mu} {R : Bool → Mu → Prop} (h : R false m) : truF (.d .non) m R := h
theorem f_tr_b {m : Mu} {R : Bool → Mu → Prop} {b : Bool} (h : R b m) : truF (.d (.bl b)) m R := h
theorem f_tr_i {m : Mu} {R : Bool → Mu → Prop} {i : Int} (h : R (i != 0) m) : truF (.d (.int i)) m R := h
theorem f_tr_l {m : Mu} {R : Bool → Mu → Prop} {xs : List D} (h : R (!xs.isEmpty) m) : truF (.d (.lst xs)) m R := h
theorem f_tr_t {m : Mu} {R : Bool → Mu → Prop} {xs : List D} (h : R (!xs.isEmpty) m) : truF (.d (.tup xs)) m R := h
theorem f_tr_c {m : Mu} {R : Bool → Mu → Prop} {ns : List Int} (h : R (!ns.isEmpty) m) : truF (.scr ns) m R := h
end Lb

/-! Lb9: loops and comprehensions in short. -/
namespace Lb
open PySem L2
theorem ex_bl {b : Bool} {P : Bool → Prop} (h : P b) : ∃ c, DV.d (.bl b) = .d (.bl c) ∧ P c := ⟨b, rfl, h⟩
theorem ex_in {b : Int} {P : Int → Prop} (h : P b) : ∃ c, DV.d (.int b) = .d (.int c) ∧ P c := ⟨b, rfl, h⟩
theorem ex_ls {xs : List D} {P : List D → Prop} (h : P xs) : ∃ c, DV.d (.lst xs) = .d (.lst c) ∧ P c := ⟨xs, rfl, h⟩
theorem ex_tu {xs : List D} {P : List D → Prop} (h : P xs) : ∃ c, DV.d (.tup xs) = .d (.tup c) ∧ P c := ⟨xs, rfl, h⟩
theorem ex_st {z : Str} {P : Str → Prop} (h : P z) : ∃ c, DV.d (.str z) = .d (.str c) ∧ P c := ⟨z, rfl, h⟩
theorem ex_d0 {P : List D → Prop} (h : P []) : ∃ xs : List D, ([] : List DV) = xs.map DV.d ∧ xs.length ≤ 100000 ∧ P xs := ⟨_, rfl, by decide, h⟩
theorem ex_d1 {P : List D → Prop} {a : D} (h : P [a]) : ∃ xs : List D, [DV.d a] = xs.map DV.d ∧ xs.length ≤ 100000 ∧ P xs := ⟨[a], rfl, by show 1 ≤ 100000; decide, h⟩
theorem ex_d2 {P : List D → Prop} {a b : D} (h : P [a, b]) : ∃ xs : List D, [DV.d a, DV.d b] = xs.map DV.d ∧ xs.length ≤ 100000 ∧ P xs := ⟨[a, b], rfl, by show 2 ≤ 100000; decide, h⟩
theorem ex_d3 {P : List D → Prop} {a b c : D} (h : P [a, b, c]) : ∃ xs : List D, [DV.d a, DV.d b, DV.d c] = xs.map DV.d ∧ xs.length ≤ 100000 ∧ P xs := ⟨[a, b, c], rfl, by show 3 ≤ 100000; decide, h⟩
theorem ex_d4 {P : List D → Prop} {a b c d : D} (h : P [a, b, c, d]) : ∃ xs : List D, [DV.d a, DV.d b, DV.d c, DV.d d] = xs.map DV.d ∧ xs.length ≤ 100000 ∧ P xs := ⟨[a, b, c, d], rfl, by show 4 ≤ 100000; decide, h⟩
theorem ex_d5 {P : List D → Prop} {a b c d e : D} (h : P [a, b, c, d, e]) : ∃ xs : List D, [DV.d a, DV.d b, DV.d c, DV.d d, DV.d e] = xs.map DV.d ∧ xs.length ≤ 100000 ∧ P xs := ⟨[a, b, c, d, e], rfl, by show 5 ≤ 100000; decide, h⟩
theorem ex_d6 {P : List D → Prop} {a b c d e f : D} (h : P [a, b, c, d, e, f]) : ∃ xs : List D, [DV.d a, DV.d b, DV.d c, DV.d d, DV.d e, DV.d f] = xs.map DV.d ∧ xs.length ≤ 100000 ∧ P xs := ⟨[a, b, c, d, e, f], rfl, by show 6 ≤ 100000; decide, h⟩
theorem ex_d7 {P : List D → Prop} {a b c d e f g : D} (h : P [a, b, c, d, e, f, g]) : ∃ xs : List D, [DV.d a, DV.d b, DV.d c, DV.d d, DV.d e, DV.d f, DV.d g] = xs.map DV.d ∧ xs.length ≤ 100000 ∧ P xs := ⟨[a, b, c, d, e, f, g], rfl, by show 7 ≤ 100000; decide, h⟩
theorem ex_d8 {P : List D → Prop} {a b c d e f g i : D} (h : P [a, b, c, d, e, f, g, i]) : ∃ xs : List D, [DV.d a, DV.d b, DV.d c, DV.d d, DV.d e, DV.d f, DV.d g, DV.d i] = xs.map DV.d ∧ xs.length ≤ 100000 ∧ P xs := ⟨[a, b, c, d, e, f, g, i], rfl, by show 8 ≤ 100000; decide, h⟩
theorem m_and {M : Mu} {P : Prop} (h : P) : M = M ∧ P := ⟨rfl, h⟩
theorem i_t {A B : Prop} (h : A) : if true = true then A else B := by rw [if_pos rfl]; exact h
theorem i_f {A B : Prop} (h : B) : if false = true then A else B := by rw [if_neg Bool.false_ne_true]; exact h
theorem i_b {c : Bool} {A B : Prop} (h1 : c = true → A) (h2 : c = false → B) : if c = true then A else B := by
  cases c with
  | true => rw [if_pos rfl]; exact h1 rfl
  | false => rw [if_neg Bool.false_ne_true]; exact h2 rfl
theorem i_d {c : Prop} [Decidable c] {A B : Prop} (h1 : c → A) (h2 : ¬ c → B) : if decide c = true then A else B := by
  by_cases h : c
  · rw [decide_eq_true h, if_pos rfl]; exact h1 h
  · rw [decide_eq_false h, if_neg Bool.false_ne_true]; exact h2 h
theorem i_nt {A B : Prop} (h : B) : if (!true) = true then A else B := i_f h
theorem i_nf {A B : Prop} (h : A) : if (!false) = true then A else B := i_t h
theorem i_nd {c : Prop} [Decidable c] {A B : Prop} (h1 : ¬ c → A) (h2 : c → B) : if (!decide c) = true then A else B := by
  by_cases h : c
  · rw [decide_eq_true h]; exact i_nt (h2 h)
  · rw [decide_eq_false h]; exact i_nf (h1 h)
section
variable {G : Ctx} {W : WX} {ds : DS} {m m1 : Mu} {R : DV → Mu → Prop} {g : TG} {tt : TT} {te : TE} {vs : List Nat} {N : EndsD} {XR : Tag → DS → Mu → Prop} {tb : TS}
/-- the turns of a comprehension in all -/
def LcR (G : Ctx) (g : TG) (tt : TT) (te : TE) (vs : List Nat) (ds : DS) (R : List D → Prop) (xs : List DV) (gd : Mu → Prop) (m1 : Mu) : Prop :=
  (∀ M, Ext m1 M → gd M) ∧ ∃ (α : Type) (ys : List α) (enc : α → DV) (F : α → Option D), xs = ys.map enc ∧ ys.length ≤ 50000 ∧
      (∀ (i : Nat) (y : α) (M : Mu), ys[i]? = some y → Ext m1 M → ∃ ds2, TgRun G.K vs g (enc y) (wipeD ds vs) ds2 ∧ EvT G WF tt ds2 M (fun b M3 => M3 = M ∧ if b = true then EvD G WF te ds2 M (fun x M4 => M4 = M ∧ ∃ z, x = .d z ∧ F y = some z) XF else F y = none) XF) ∧ R (ys.filterMap F)
/-- [e y for y in ys] -/
theorem lcM {α : Type} {xs : List DV} {gd : Mu → Prop} {RL : List D → Prop} (ys : List α) (enc : α → DV) (e : α → D) (hx : xs = ys.map enc) (hz : ys.length ≤ 50000) (hs : ∀ y M, y ∈ ys → Ext m1 M → ∃ ds2, TgRun G.K vs g (enc y) (wipeD ds vs) ds2 ∧ EvD G WF te ds2 M (fun x M4 => M4 = M ∧ x = .d (e y)) XF)
    (hR : RL (ys.map e)) (hg : ∀ M, Ext m1 M → gd M := by first | exact fun _ _ => trivial | exact fun M hM => hM _ _ (by assumption)) : LcR G g tYes te vs ds RL xs gd m1 := by
  refine ⟨hg, α, ys, enc, fun y => some (e y), hx, hz, fun i y M hy hM => ?_, ?_⟩
  · obtain ⟨ds2, h1, h2⟩ := hs y M (List.mem_of_getElem? hy) hM
    refine ⟨ds2, h1, et_yes ⟨rfl, ?_⟩⟩
    rw [if_pos rfl]
    exact h2.imp (fun d m' ⟨a, b⟩ => ⟨a, _, b, rfl⟩) (fun _ _ z => z)
  · rw [List.filterMap_eq_map']
    exact hR
/-- [e y for y in ys if c y] -/
theorem lcF {α : Type} {xs : List DV} {gd : Mu → Prop} {RL : List D → Prop} (ys : List α) (enc : α → DV) (c : α → Bool) (e : α → D) (hx : xs = ys.map enc) (hz : ys.length ≤ 50000) (hs : ∀ y M, y ∈ ys → Ext m1 M → ∃ ds2, TgRun G.K vs g (enc y) (wipeD ds vs) ds2 ∧ EvT G WF tt ds2 M (fun b M3 => M3 = M ∧ b = c y) XF ∧ (c y = true → EvD G WF te ds2 M (fun x M4 => M4 = M ∧ x = .d (e y)) XF))
    (hR : RL ((ys.filter c).map e)) (hg : ∀ M, Ext m1 M → gd M := by first | exact fun _ _ => trivial | exact fun M hM => hM _ _ (by assumption)) : LcR G g tt te vs ds RL xs gd m1 := by
  refine ⟨hg, α, ys, enc, fun y => if c y = true then some (e y) else none, hx, hz, fun i y M hy hM => ?_, ?_⟩
  · obtain ⟨ds2, h1, h2, h3⟩ := hs y M (List.mem_of_getElem? hy) hM
    refine ⟨ds2, h1, fun σ H Q s r p x => h2 σ H Q s r (fun b H' m' t s' ⟨q1, q2⟩ => p b H' m' t s' ⟨q1, ?_⟩) x⟩
    subst q2
    cases hc : c y with
    | true =>
      rw [if_pos rfl]
      exact (h3 hc).imp (fun d m' ⟨a, b⟩ => ⟨a, _, b, by simp [hc]⟩) (fun _ _ z => z)
    | false => rw [if_neg Bool.false_ne_true]; simp [hc]
  · have e2 : ys.filterMap (fun y => if c y = true then some (e y) else none) = (ys.filter c).map e := by
      clear hs hx hz hR hg
      induction ys with
      | nil => rfl
      | cons y ys ih =>
        cases hc : c y with
        | true => simp [hc, ih]
        | false => simp [hc, ih]
    rw [e2]
    exact hR
theorem ev_lcl {ta : TE} {XRe : Tag → Mu → Prop} (h : EvD G W ta ds m (fun d m1 => ∃ xs, d = .d (.lst xs) ∧ LcR G g tt te vs ds (fun l => R (.d (.lst l)) m1) (xs.map DV.d) GT m1) XRe) : EvD G W (tLc (iList G.K ta) g tt te vs) ds m R XRe := ev_lc (ei_list h)
theorem ev_lct {ta : TE} {XRe : Tag → Mu → Prop} (h : EvD G W ta ds m (fun d m1 => ∃ xs, d = .d (.tup xs) ∧ LcR G g tt te vs ds (fun l => R (.d (.lst l)) m1) (xs.map DV.d) GT m1) XRe) : EvD G W (tLc (iTup G.K ta) g tt te vs) ds m R XRe := ev_lc (ei_tup h)
theorem ev_lcs {ta : TE} {XRe : Tag → Mu → Prop} (h : EvD G W ta ds m (fun d m1 => ∃ z, d = .d (.str z) ∧ LcR G g tt te vs ds (fun l => R (.d (.lst l)) m1) ((signs z).map DV.d) GT m1) XRe) : EvD G W (tLc (iStr ta) g tt te vs) ds m R XRe := ev_lc (ei_str h)
theorem ev_lc1 {ta : TA} {XRe : Tag → Mu → Prop} (h : EvA G W ta ds m (fun es m1 => ∃ n : Int, es = [.d (.int n)] ∧ -(2 ^ 62) ≤ n ∧ n < 2 ^ 62 ∧ LcR G g tt te vs ds (fun l => R (.d (.lst l)) m1) (rng 0 n.toNat) GT m1) XRe) : EvD G W (tLc (iRng1 ta) g tt te vs) ds m R XRe := ev_lc (ei_rng1 h)
theorem ev_lc2 {ta : TA} {XRe : Tag → Mu → Prop} (h : EvA G W ta ds m (fun es m1 => ∃ i n : Int, es = [.d (.int i), .d (.int n)] ∧ (-(2 ^ 62) ≤ i ∧ i < 2 ^ 62 ∧ -(2 ^ 62) ≤ n ∧ n < 2 ^ 62) ∧ LcR G g tt te vs ds (fun l => R (.d (.lst l)) m1) (rng i (n - i).toNat) GT m1) XRe) : EvD G W (tLc (iRng2 ta) g tt te vs) ds m R XRe := ev_lc (ei_rng2 h)
theorem ev_lclO {ta : TE} {XRe : Tag → Mu → Prop} (h : EvD G W ta ds m (fun d m1 => ∃ xs, d = .d (.lst xs) ∧ LcR G g tt te vs ds (fun l => ∀ a, m1 a = none → R (.r a) (mset m1 a (.lst l))) (xs.map DV.d) GT m1) XRe) : EvD G W (tLc (iList G.K ta) g tt te vs) ds m R XRe := ev_lcO (ei_list h)
theorem ev_lc1O {ta : TA} {XRe : Tag → Mu → Prop} (h : EvA G W ta ds m (fun es m1 => ∃ n : Int, es = [.d (.int n)] ∧ -(2 ^ 62) ≤ n ∧ n < 2 ^ 62 ∧ LcR G g tt te vs ds (fun l => ∀ a, m1 a = none → R (.r a) (mset m1 a (.lst l))) (rng 0 n.toNat) GT m1) XRe) : EvD G W (tLc (iRng1 ta) g tt te vs) ds m R XRe := ev_lcO (ei_rng1 h)
/-- for k in range(..) -/
def ForR (G : Ctx) (W : WX) (g : TG) (tb : TS) (ds : DS) (N : EndsD) (XR : Tag → DS → Mu → Prop) (xs : List DV) (gd : Mu → Prop) (m1 : Mu) : Prop :=
  ∃ P : Nat → DS → Mu → Prop, P 0 ds m1 ∧ (∀ i ds' m', P i ds' m' → gd m') ∧
      (∀ i x ds' m', xs[i]? = some x → P i ds' m' → GtD G g x ds' m' (fun ds2 m2 => StD G W tb ds2 m2 { nx := P (i + 1), rt := N.rt, bk := N.nx, ct := P (i + 1) } XR)) ∧
      (∀ ds' m', P xs.length ds' m' → N.nx ds' m')
theorem forN {lo : Int} {n : Nat} (P : Nat → DS → Mu → Prop) (h0 : P 0 ds m) (hs : ∀ i ds' m', i < n → P i ds' m' → GtD G g (.d (.int (lo + (i : Nat)))) ds' m' (fun ds2 m2 => StD G W tb ds2 m2 { nx := P (i + 1), rt := N.rt, bk := N.nx, ct := P (i + 1) } XR)) (hd : ∀ ds' m', P n ds' m' → N.nx ds' m') : ForR G W g tb ds N XR (rng lo n) GT m := by
  refine ⟨P, h0, fun _ _ _ _ => trivial, fun i x ds' m' hx p => ?_, fun ds' m' p => hd ds' m' (by rw [rng_len] at p; exact p)⟩
  have hi : i < n := by
    have := (List.getElem?_eq_some_iff.mp hx).1
    rw [rng_len] at this
    exact this
  rw [rng_get hi] at hx
  cases hx
  exact hs i ds' m' hi p
theorem forL {α : Type} {xs : List DV} {gd : Mu → Prop} (ys : List α) (enc : α → DV) (P : List α → DS → Mu → Prop) (hx : xs = ys.map enc) (h0 : P [] ds m) (hs : ∀ pre y post ds' m', ys = pre ++ y :: post → P pre ds' m' → GtD G g (enc y) ds' m' (fun ds2 m2 => StD G W tb ds2 m2 { nx := P (pre ++ [y]), rt := N.rt, bk := N.nx, ct := P (pre ++ [y]) } XR)) (hd : ∀ ds' m', P ys ds' m' → N.nx ds' m')
    (hg : ∀ pre ds' m', P pre ds' m' → gd m' := by exact fun _ _ _ _ => trivial) : ForR G W g tb ds N XR xs gd m := by
  subst hx
  exact for_pre P h0 hg hs hd
theorem st_forl {ta : TE} (h : EvD G W ta ds m (fun d m1 => ∃ xs, d = .d (.lst xs) ∧ ForR G W g tb ds N XR (xs.map DV.d) GT m1) (fun t m1 => XR t ds m1)) : StD G W (tFor (iList G.K ta) g tb) ds m N XR := st_for (ei_list h)
theorem st_fort {ta : TE} (h : EvD G W ta ds m (fun d m1 => ∃ xs, d = .d (.tup xs) ∧ ForR G W g tb ds N XR (xs.map DV.d) GT m1) (fun t m1 => XR t ds m1)) : StD G W (tFor (iTup G.K ta) g tb) ds m N XR := st_for (ei_tup h)
theorem st_fors {ta : TE} (h : EvD G W ta ds m (fun d m1 => ∃ z, d = .d (.str z) ∧ ForR G W g tb ds N XR ((signs z).map DV.d) GT m1) (fun t m1 => XR t ds m1)) : StD G W (tFor (iStr ta) g tb) ds m N XR := st_for (ei_str h)
theorem st_for1 {ta : TA} (h : EvA G W ta ds m (fun es m1 => ∃ n : Int, es = [.d (.int n)] ∧ -(2 ^ 62) ≤ n ∧ n < 2 ^ 62 ∧ ForR G W g tb ds N XR (rng 0 n.toNat) GT m1) (fun t m1 => XR t ds m1)) : StD G W (tFor (iRng1 ta) g tb) ds m N XR := st_for (ei_rng1 h)
theorem st_for2 {ta : TA} (h : EvA G W ta ds m (fun es m1 => ∃ i n : Int, es = [.d (.int i), .d (.int n)] ∧ (-(2 ^ 62) ≤ i ∧ i < 2 ^ 62 ∧ -(2 ^ 62) ≤ n ∧ n < 2 ^ 62) ∧ ForR G W g tb ds N XR (rng i (n - i).toNat) GT m1) (fun t m1 => XR t ds m1)) : StD G W (tFor (iRng2 ta) g tb) ds m N XR := st_for (ei_rng2 h)
end
end Lb

/-! LbS: list.count of data; sorted(set(a list of numbers)). -/
namespace Lb
open PySem L2
section
variable {X : Cx} {G : Ctx}
open PySem.Spec PyProof.Rows in
theorem mt_countD (hu : X.A.units + 65 < cLine) : MtR X "list.count" (rDM G countF) := by
  intro pins s σ H x xs v us Q I rx rxs h
  obtain ⟨dx, es, m, R, s0, r1, r2, h, p⟩ := h
  obtain ⟨val, ys, rfl, e, h1, h2, h⟩ := h
  · cases r2 with
    | cons q1 q2 =>
      cases q2
      have rr := vw_rp s0 r1 e
      cases rr with
      | lst a1 a2 =>
        cases rx
        obtain ⟨uy, rfl, ry⟩ := rxs.one
        obtain ⟨bs, rd⟩ := Dp.reads I _ _ uy (Rp.dp (K := X.K) _ _ (Rp.mono fz_ex _ _ q1)) ry
        have sh := (Sh.lst h1).shaped
        rw [toPy] at sh
        have lay : PyData.canLayAll0 (toPys ys) = true := SeqAt.canLay_of_shaped sh
        have room := PyProof.Rows.room_in_shaped (xs := toPys ys) h2.shaped hu
        obtain ⟨its, rv, ⟨ob, n, ho, hc, hdn, hdt⟩, hlen⟩ := I.list (SqL.of a1)
        obtain ⟨cls, dd, data, sl⟩ := ob
        simp only at hc hdt
        subst hc hdt
        obtain ⟨as, ra⟩ := Dp.readsAll I _ _ its (RpL.dp (K := X.K) _ _ a2) rv
        have hmap : its.map (SeqAt.readOf s.heap) = toPys ys := SeqAt.readsAll_map _ its as lay ra
        refine call_meets PySem.F.slot_list_count ⟨_, ho, rfl⟩ PySem.F.entry_list_count (PySem.F.args_list_count_2 _ _) (SeqAt.list_countAt _ its.toArray n dd sl uy fun u => PyData.eqv (SeqAt.readOf s.heap u) (toPy val)) ⟨ho, SeqAt.items_eqAt (vs := its.toArray) (show ReadsAll s.heap its.toArray.toList (toPys ys) as from ra) rd lay (SeqAt.canLay_of_shaped h2.shaped) room, ?_⟩
        refine ⟨V.int _, H, I.tok _, ⟨s.toks, rfl⟩, ?_⟩
        have ec : its.toArray.toList.countP (fun u => PyData.eqv (SeqAt.readOf s.heap u) (toPy val)) = ys.countP fun y => eqD y val := by
          show its.countP _ = _
          rw [show its.countP (fun u => PyData.eqv (SeqAt.readOf s.heap u) (toPy val)) = (its.map (SeqAt.readOf s.heap)).countP (fun z => PyData.eqv z (toPy val)) by rw [List.countP_map]; rfl, hmap, toPys_map, List.countP_map]
          rfl
        rw [ec]
        exact p.here s0 (RV.dat (Rp.int _)) h
end
section
variable {P : Program} {w : World} {A : Around} {E : Value → Shared → Prop} {s : Shared}
abbrev newSet (w : World) : Obj := { cls := .type "set", dict := none, data := .set #[] 0 (.fresh 0 0 (!w.params.followText "set-order")) }
open PySem.Spec PyProof.Rows in
/-- set(l), l a list of numbers -/
theorem set_of_list {l : Addr} {items : Array Value} (ns : List Int) {Q : Value → Shared → Prop} (hh : A.handled = none) (hl : s.heap.IsList l items) (hit : IntsAre items.toList ns) (hb : ns.length + 1 < scanBound)
    (h : ∀ (hp : Heap) (tk c : Nat), SetR w hp s.heap.objs.size (fun j => decide (j ∈ ns)) c → c ≤ ns.length → (∀ b o, s.heap.get? b = some o → hp.get? b = some o) → Q (.ref s.heap.objs.size) { s with heap := hp, toks := tk }) :
    wpAny (model P w) A (call (.type "set") [.ref l]) Q E s := by
  have size : items.size = ns.length := by have z := IntsAre.length hit; rw [Array.length_toList] at z; exact z
  obtain ⟨c, tl, hmro⟩ := F.called_set.mro
  obtain ⟨hmade, hsub, h1, h2, hct⟩ := And.intro F.called_set.made (And.intro F.called_set.sub (And.intro F.called_set.notType (And.intro F.called_set.canCreate (F.typeCall_set_1 (.ref l)))))
  refine wpAny_call (codeAny_of_tree (wpAny_pure ⟨Code.quiet_builtin _ (by decide +kernel), codeAny_builtin F.entry_type_call ?_⟩))
  rw [Around.under_plain (weight_type_call_type "set" [.ref l] []) rfl]
  repeat (any_goals (first | assumption | wp_step))

  refine codeAny_mono (code_set_led1 (.ref l) (E := E) (Q₁ := fun ob z => ob = .ref s.heap.objs.size ∧ z = { s with heap := s.heap.push (newSet w) }) ⟨rfl, rfl⟩) fun r z hr => ?_
  cases r with
  | error e => exact hr
  | ok fl =>
    cases fl with
    | ret ob =>
      obtain ⟨rfl, rfl⟩ := hr
      have gS : (s.heap.push (newSet w)).get? s.heap.objs.size = some (newSet w) := Heap.get?_push_size _ rfl
      have hT : Shared.TypeIs { s with heap := s.heap.push (newSet w) } (.ref s.heap.objs.size) "set" := ⟨_, gS, rfl⟩
      obtain ⟨hli, hbi⟩ := And.intro F.called_set.init.lookup (F.called_set.init.bind (.ref s.heap.objs.size))
      repeat (any_goals (first | assumption | wp_step))

      refine codeAny_mono (codeAny_call_builtin (R := wants (fun r z => r = .none ∧ ∃ hp tk c, z = { s with heap := hp, toks := tk } ∧ SetR w hp s.heap.objs.size (fun j => decide (j ∈ ns)) c ∧ c ≤ ns.length ∧ (∀ b o, s.heap.get? b = some o → hp.get? b = some o)) E) F.called_set.init.plain F.entry_set_init (check_set_init_1 hT ?inside)) fun r z hr => ?behind
      case inside =>
        obtain ⟨ol, hol, hcl, nl, hdl⟩ := hl
        obtain ⟨ocls, odict, odata, oslots⟩ := ol
        simp only at hcl hdl
        subst hcl hdl
        have hol2 : (s.heap.push (newSet w)).get? l = some { cls := .type "list", dict := odict, data := .seq items nl, slots := oslots } := Heap.get?_push_of_some _ hol
        obtain ⟨hsls, hslf, hne⟩ := And.intro F.sub_list_set (And.intro F.sub_list_frozenset (show (Value.type "list" == Value.type "dict") = false by decide))
        have hl1 : (s.heap.push (newSet w)).IsList l items := ⟨_, hol2, rfl, nl, rfl⟩
        unfold Builtin.«set.__init__» noKeywords Builtin.Frozenset.updateFrom
        generalize hPI : pyIter = PI
        wp_walk
        subst hPI
        refine wpAny_pyIter_list hl1 (wpAny_bind (wpAny_runValue ?_))
        have lS : l < s.heap.objs.size := Heap.lt_size hol
        have sz1 : (s.heap.push (newSet w)).objs.size = s.heap.objs.size + 1 := Heap.size_push ..
        have at_ : ∀ (i : Nat) (v : Value), items[i]? = some v → ∃ k t, ns[i]? = some k ∧ v = .int k t := fun i v hv => by
          have hi : i < ns.length := by rw [← size]; exact (Array.getElem?_eq_some_iff.mp hv).1
          obtain ⟨t, e⟩ := PyProof.Rows.IntsAre.int_at hit i v (by rw [Array.getElem?_toList]; exact hv)
          refine ⟨ns[i], t, List.getElem?_eq_getElem hi, ?_⟩
          rw [e, List.getD_eq_getElem?_getD, List.getElem?_eq_getElem hi]
          rfl
        refine set_update_ints ((Walks.list (by simp [hh]) _ l (by rw [sz1]; exact Nat.ne_of_lt (Nat.lt_succ_of_lt lS)) items).toS) s.heap.objs.size (by rw [sz1, List.mem_cons, List.mem_singleton]; exact fun z => z.elim (Nat.ne_of_lt (Nat.lt_succ_self _)) (Nat.ne_of_gt lS)) ns size hb at_ (items.size - 0) 0 _ (by omega) (Nat.zero_le _) ⟨⟨_, Heap.get?_push_size _ rfl, rfl, rfl⟩, (hl1.push _)⟩ ⟨0, Nat.le_refl 0, setR_new_at (Heap.get?_push_of_some _ gS)⟩ ?last
        intro z k hm hk hS
        obtain ⟨hp, g2, d2, tk2, os2⟩ := z
        obtain rfl : g2 = s.gens := hm.gens
        obtain rfl : d2 = s.drawn := hm.drawn
        obtain rfl : os2 = s.os := hm.os
        show wpAny _ _ _ _ _ _
        refine wpAny_pure ?_
        show wpAny _ _ (ret Value.none) _ _ _
        rw [size] at hk
        refine wpAny_pure ⟨rfl, hp, tk2, k, rfl, hS, hk, fun b o e => ?_⟩
        have hb0 : b < s.heap.objs.size := Heap.lt_size e
        exact hm.heap b o (by rw [sz1, List.mem_cons, List.mem_singleton]; exact fun z => z.elim (Nat.ne_of_lt hb0) (Nat.ne_of_lt (Nat.lt_succ_of_lt hb0))) (Heap.get?_push_of_some _ (Heap.get?_push_of_some _ e))
      case behind =>
        cases r with
        | error e => exact hr
        | ok fl2 =>
          cases fl2 with
          | ret v =>
            obtain ⟨rfl, hp, tk, k, rfl, hS, hk, keep⟩ := hr
            repeat (any_goals (first | assumption | wp_step))
            exact h _ _ _ hS hk keep
          | _ => exact hr.elim
    | _ => exact hr.elim
end
/-- sorted(set(l)) -/
def insI (k : Int) : List Int → List Int
  | [] => [k]
  | x :: xs => if k < x then k :: x :: xs else if k = x then x :: xs else x :: insI k xs
def sset : List Int → List Int
  | [] => []
  | x :: xs => insI x (sset xs)
theorem mem_insI {k j : Int} : ∀ {xs : List Int}, j ∈ insI k xs ↔ j = k ∨ j ∈ xs
  | [] => by simp [insI]
  | x :: xs => by
    unfold insI
    split
    · simp
    · split
      · rename_i h; subst h; simp
      · rw [List.mem_cons, mem_insI (xs := xs), List.mem_cons]
        exact ⟨fun h => h.elim (fun z => .inr (.inl z)) fun z => z.elim .inl fun y => .inr (.inr y), fun h => h.elim (fun z => .inr (.inl z)) fun z => z.elim .inl fun y => .inr (.inr y)⟩
theorem mem_sset {j : Int} : ∀ {xs : List Int}, j ∈ sset xs ↔ j ∈ xs
  | [] => by simp [sset]
  | x :: xs => by rw [sset, mem_insI, mem_sset (xs := xs), List.mem_cons]
theorem insI_pw {k : Int} : ∀ {xs : List Int}, xs.Pairwise (· < ·) → (insI k xs).Pairwise (· < ·)
  | [], _ => by simp [insI]
  | x :: xs, h => by
    obtain ⟨h1, h2⟩ := List.pairwise_cons.mp h
    unfold insI
    split
    · refine List.pairwise_cons.mpr ⟨fun y hy => ?_, h⟩
      rcases List.mem_cons.mp hy with rfl | hy
      · assumption
      · have := h1 y hy; omega
    · split
      · exact h
      · refine List.pairwise_cons.mpr ⟨fun y hy => ?_, insI_pw h2⟩
        rcases mem_insI.mp hy with rfl | hy
        · omega
        · exact h1 y hy
theorem sset_pw : ∀ xs : List Int, (sset xs).Pairwise (· < ·)
  | [] => List.Pairwise.nil
  | x :: xs => insI_pw (sset_pw xs)
theorem pw_unique : ∀ {xs ys : List Int}, xs.Pairwise (· < ·) → ys.Pairwise (· < ·) → (∀ k, k ∈ xs ↔ k ∈ ys) → xs = ys
  | [], [], _, _, _ => rfl
  | [], y :: ys, _, _, h => absurd ((h y).mpr List.mem_cons_self) (by simp)
  | x :: xs, [], _, _, h => absurd ((h x).mp List.mem_cons_self) (by simp)
  | x :: xs, y :: ys, hx, hy, h => by
    obtain ⟨x1, x2⟩ := List.pairwise_cons.mp hx
    obtain ⟨y1, y2⟩ := List.pairwise_cons.mp hy
    have e : x = y := by
      rcases List.mem_cons.mp ((h x).mp List.mem_cons_self) with e | e
      · exact e
      · rcases List.mem_cons.mp ((h y).mpr List.mem_cons_self) with e2 | e2
        · exact e2.symm
        · have := y1 x e; have := x1 y e2; omega
    subst e
    rw [pw_unique x2 y2 fun k => ?_]
    have hk := h k
    rw [List.mem_cons, List.mem_cons] at hk
    refine ⟨fun z => ?_, fun z => ?_⟩
    · rcases hk.mp (.inr z) with e | e
      · have := x1 k z; omega
      · exact e
    · rcases hk.mpr (.inr z) with e | e
      · have := y1 k z; omega
      · exact e
theorem insI_len {k : Int} : ∀ xs : List Int, (insI k xs).length ≤ xs.length + 1
  | [] => by simp [insI]
  | x :: xs => by
    unfold insI
    split
    · simp
    · split
      · simp
      · have := insI_len (k := k) xs; simp; omega
theorem sset_len : ∀ xs : List Int, (sset xs).length ≤ xs.length
  | [] => by simp [sset]
  | x :: xs => by have h1 := sset_len xs; have h2 := insI_len (k := x) (sset xs); rw [sset, List.length_cons]; omega
def ssetF (x : DV) (m : Mu) (R : DV → Mu → Prop) : Prop := ∃ ns : List Int, vw m x = some (dInts ns) ∧ ns.length < 64 ∧ R (.d (dInts (sset ns))) m
/-- the set made of it, and what sorted makes of that -/
def rSetL (G : Ctx) (w : World) : List V → Hp → VK → Prop := fun xs H Q => ∃ x dx m ns, xs = [x] ∧ S0 G H m ∧ RV G (fz H m) x dx ∧ vw m dx = some (dInts ns) ∧ ns.length < 64 ∧ ∀ p c, H p = none → c ≤ ns.length → Q (.ref p) (upd H p (SetO w p (fun j => decide (j ∈ ns)) c))
section
variable {X : Cx} {G : Ctx}
theorem cr_setL (hc : X.calm = true) : CallR X (.type "set") (rSetL G X.w) := by
  intro pins s σ H xs us Q I r h
  obtain ⟨x, dx, m, ns, rfl, s0, r1, e, hz, q⟩ := h
  have rr := vw_rp s0 r1 e
  cases rr with
  | lst a1 a2 =>
    have e2 := a2.ints
    subst e2
    rw [Vals.ref1 r]
    obtain ⟨its, rv, pl, _⟩ := I.list (SqL.of a1)
    refine set_of_list ns (I.ok.hd hc) pl.isList (Vals.ints rv) (by show ns.length + 1 < scanBound; unfold scanBound; omega) fun hp tk c hS hc' keep => ?_
    exact ⟨.ref _, _, I.laid (t' := tk) keep (Nat.le_refl _) (setO_new hS), rfl, q _ c (I.hok.fresh (Nat.le_refl _)) hc'⟩
end
def tSset (G : Ctx) (w : World) (ta : TA) : TE := tCB (rSortedSet w) (tCons (tCB (rSetL G w) ta) tNil)
theorem ev_sset {G : Ctx} {w : World} {W : WX} {ds : DS} {m : Mu} {R : DV → Mu → Prop} {XR : Tag → Mu → Prop} {te : TE} (h : EvD G W te ds m (fun x m1 => ssetF x m1 R) XR) : EvD G W (tSset G w (tCons te tNil)) ds m R XR := fun σ H Q s r p x =>
  h σ H _ s r (fun v H1 d m1 t1 s1 r1 ⟨ns, e, hz, q⟩ => ⟨v, d, m1, ns, rfl, s1, r1, e, hz, fun a c ha hc => by
    refine ⟨a, fun j => decide (j ∈ ns), c, rfl, upd_same, Nat.lt_of_le_of_lt hc hz, fun ks b pw mem _ hb => ?_⟩
    have ek : ks = sset ns := pw_unique pw (sset_pw ns) fun k => by rw [mem k, mem_sset]; simp
    subst ek
    obtain ⟨s2, t2, _⟩ := s1.lay (o := SetO w a (fun j => decide (j ∈ ns)) c) ha
    exact (p.tr (t1.trans t2)).lay s2 hb (RpL.ofInts _) q⟩) x
theorem pe_sset {X : Cx} {G : Ctx} {e : Expr} {ta : TA} {p1 p2 q1 q2 : Pos} (hc : X.calm = true) (g1 : Gl X "sorted") (g2 : Gl X "set") (m1 : X.mg "sorted" = none) (m2 : X.mg "set" = none) (ha : PA X [e] ta)
    (hs : starEach [.Call (.Name "set" p2) [e] [] q2] X.env = (false, eval (.Call (.Name "set" p2) [e] [] q2) X.env) :: starEach [] X.env := by rfl) (he : starEach [e] X.env = (false, eval e X.env) :: starEach [] X.env := by rfl) :
    PE X (.Call (.Name "sorted" p1) [.Call (.Name "set" p2) [e] [] q2] [] q1) (tSset G X.w ta) :=
  pe_callB (cr_sortedSet hc) g1 m1 bt_sorted (pa_cons (pe_callTy (cr_setL hc) g2 m2 bt_set ha (by decide) (by decide) he) pa_nil hs) (by decide) (by decide) hs
/-! ### by the view -/
section
variable {m : Mu} {R : DV → Mu → Prop} {x y : DV} {a b : D} {xs : List D}
theorem v_ne (h1 : vw m x = some a) (h2 : vw m y = some b) (s1 : Sh 63 a) (s2 : Sh 63 b) (k : R (.d (.bl (!eqD a b))) m) : neF x y m R := by
  unfold neF
  split
  · cases h1; cases h2; exact ⟨s1, s2, k⟩
  · exact ⟨a, b, h1, h2, s1, s2, k⟩
theorem v_eq (h1 : vw m x = some a) (h2 : vw m y = some b) (s1 : Sh 63 a) (s2 : Sh 63 b) (k : R (.d (.bl (eqD a b))) m) : eqF x y m R := by
  unfold eqF
  split
  · cases h1; cases h2; exact ⟨s1, s2, k⟩
  · exact ⟨a, b, h1, h2, s1, s2, k⟩
theorem vw_cases (h : vw m x = some (.lst xs)) : x = .d (.lst xs) ∨ ∃ a, x = .r a ∧ m a = some (.lst xs) := by
  cases x with
  | d z => cases h; exact .inl rfl
  | r a =>
    have h : moL (m a) = some (.lst xs) := h
    cases e : m a with
    | none => rw [e] at h; cases h
    | some o =>
      rw [e] at h
      cases o with
      | lst ys => cases h; exact .inr ⟨a, rfl, e⟩
      | ins c fs => cases h
      | exc t => cases h
      | tpl es => cases h
      | dic kvs => cases h
  | scr ns => cases h
theorem v_tru {RB : Bool → Mu → Prop} (h : vw m x = some (.lst xs)) (k : RB (!xs.isEmpty) m) : truF x m RB := by
  rcases vw_cases h with rfl | ⟨a, rfl, e⟩
  · exact k
  · exact ⟨xs, e, k⟩
theorem v_idx {i : Int} {z : D} (h : vw m x = some (.lst xs)) (e : atI xs i = some z) (k : R (.d z) m) : idxF x (.d (.int i)) m R := by
  rcases vw_cases h with rfl | ⟨a, rfl, e2⟩
  · exact ⟨z, e, k⟩
  · exact ⟨xs, e2, z, e, k⟩
theorem v_len (h : vw m x = some (.lst xs)) (k : R (.d (.int xs.length)) m) : lenF [x] m R := by
  rcases vw_cases h with rfl | ⟨a, rfl, e2⟩
  · exact k
  · exact ⟨xs, e2, k⟩
theorem v_in {i : Int} {ns : List Int} (h : vw m x = some (dInts ns)) (k : R (.d (.bl (decide (i ∈ ns)))) m) : inF (.d (.int i)) x m R := by
  rcases vw_cases h with rfl | ⟨a, rfl, e2⟩
  · exact f_in k
  · exact ⟨_, e2, sh_int, sh_ints, by rw [any_int]; exact k⟩
theorem v_list (h : vw m x = some (.lst xs)) (k : R (.d (.lst xs)) m) : listF [x] m R := by
  rcases vw_cases h with rfl | ⟨a, rfl, e2⟩
  · exact k
  · exact ⟨xs, e2, k⟩
end
/-! ### equality of data by kind -/
theorem eqDs_ints : ∀ (a b : List Int), PyData.eqvAll (toPys (a.map D.int)) (toPys (b.map D.int)) = decide (a = b)
  | [], [] => by simp [toPys, PyData.eqvAll]
  | [], y :: ys => by simp [toPys, PyData.eqvAll]
  | x :: xs, [] => by simp [toPys, PyData.eqvAll]
  | x :: xs, y :: ys => by
    have e := eqD_int x y
    unfold eqD at e
    rw [List.map_cons, List.map_cons, toPys, toPys, PyData.eqvAll, eqDs_ints xs ys, e]
    by_cases h1 : x = y
    · subst h1; simp
    · simp [h1]
theorem eqD_ints (a b : List Int) : eqD (dInts a) (dInts b) = decide (a = b) := by
  unfold eqD dInts
  rw [toPy, toPy, PyData.eqv, eqDs_ints]
theorem eqD_tup (a b : List Int) : eqD (dTup a) (dTup b) = decide (a = b) := by
  unfold eqD dTup
  rw [toPy, toPy, PyData.eqv, eqDs_ints]
theorem eqD_str (a b : Str) : eqD (.str a) (.str b) = decide (a = b) := by
  unfold eqD toPy
  rw [PyData.eqv]
  exact Bool.beq_eq_decide_eq a b
end Lb

/-! LbE: the ends. -/
namespace Lb
open PySem L2
/-- a promise that nobody can ask for -/
theorem fnF_none {P : Program} {mg : Str → Option Value} {base : Heap} {G : Ctx} {x qual : Str} {st : Stmt} {ps : List Str} {k : Nat} {S : SpD} (F : DefAt G mg x qual st ps) (no : ∀ es m R XR, S es m R XR → False) : FnF P G mg base k x ps S := by
  obtain ⟨f, fd, F1, b, m⟩ := F
  exact ⟨f, fd, ⟨fun vs H Q E ⟨es, m, R, XR, _, _, h, _⟩ => (no es m R XR h).elim, fun A outer s H args us vs Q E _ _ _ _ ⟨es, m, R, XR, _, _, h, _⟩ => (no es m R XR h).elim⟩, m, F1.kp, b⟩
/-- the law's promise, as the row wants it -/
def sp_law (K : PySem.W.Frag) : Sp := fun vs H Q _ => ∃ (a : Addr) (ns : List Int), vs = [.ref a] ∧ SqL K H a (ns.map V.int) ∧ ns.length ≤ 63 ∧ ∀ H', Q (.bl true) H'
theorem s0_none {G : Ctx} {H : Hp} : S0 G H (fun _ => none) := fun a o h => by cases h
theorem fz_empty {H : Hp} : fz H (fun _ => none) = H := by funext a; rfl
theorem law_end {P : Program} {mg : Str → Option Value} {base : Heap} {G : Ctx} {k : Nat} {f : Addr} {fd : FuncData} {S : SpD} (hS : ∀ (ns : List Int), ns.length ≤ 63 → S [.scr ns] (fun _ => none) (fun d _ => d = .d (.bl true)) (fun _ _ => False))
    (F : FnOk P G.w G.K mg base (L2.CX P G.w) k f fd ["script"] (spL G S)) : FnOk P G.w G.K mg base (L2.CX P G.w) k f fd ["script"] (sp_law G.K) :=
  F.imp fun vs H Q E ⟨a, ns, e, hq, hl, q⟩ => ⟨[.scr ns], fun _ => none, _, _, s0_none, by rw [e, fz_empty]; exact .cons ⟨a, rfl, hq⟩ .nil, hS ns hl, fun v H' d m' _ _ r hd => by
    subst hd
    cases r
    exact q H', fun _ _ _ _ _ _ z => z.elim⟩
theorem no_cx {P : Program} {w : World} {H : Hp} {s s' : Shared} {e : Value} (c : L2.CX P w [] H s (fun _ _ _ => False) e s') : False := by
  obtain ⟨a, B, H', cls, d, _, _, _, _, _, _, _, z⟩ := c
  exact z
end Lb

/-! LbT: lists of texts and the like. -/
namespace Lb
open PySem L2
theorem kit_ll : kitB "list" "list" = some true := by decide +kernel
theorem kit_bb : kitB "bool" "bool" = some true := by decide +kernel
theorem kit_ii : kitB "int" "int" = some true := by decide +kernel
theorem kit_ib : kitB "int" "bool" = some false := by decide +kernel
theorem sh_strs {n : Nat} {ss : List Str} (h : ss.all PyData.strOk = true) : Sh (n + 1) (.lst (ss.map D.str)) := by
  show ∀ x ∈ ss.map D.str, Sh n x
  intro x hx
  obtain ⟨s, hs, rfl⟩ := List.mem_map.mp hx
  have := List.all_eq_true.mp h s hs
  unfold Sh
  exact this
theorem sh_str {n : Nat} {s : Str} (h : PyData.strOk s = true) : Sh n (.str s) := by unfold Sh; exact h
theorem eqD_strs (a b : List Str) : eqD (.lst (a.map D.str)) (.lst (b.map D.str)) = decide (a = b) := by
  unfold eqD
  rw [toPy, toPy, PyData.eqv]
  induction a generalizing b with
  | nil => cases b <;> simp [toPys, PyData.eqvAll]
  | cons x xs ih =>
    cases b with
    | nil => simp [toPys, PyData.eqvAll]
    | cons y ys =>
      have e := eqD_str x y
      unfold eqD at e
      rw [List.map_cons, List.map_cons, toPys, toPys, PyData.eqvAll, ih, e]
      by_cases h : x = y
      · subst h; simp
      · simp [h]
/-- alike lists of texts -/
theorem ne_strs {R : DV → Mu → Prop} {m : Mu} (ss : List Str) (hs : ss.all PyData.strOk = true) {x y : DV} (hx : vw m x = some (.lst (ss.map D.str))) (hy : vw m y = some (.lst (ss.map D.str))) (h : R (.d (.bl false)) m) : neF x y m R := by
  refine v_ne hx hy (sh_strs hs) (sh_strs hs) ?_
  rw [eqD_strs, decide_eq_true rfl]
  exact h
theorem eq_strs {R : DV → Mu → Prop} {m : Mu} (ss : List Str) (hs : ss.all PyData.strOk = true) {x y : DV} (hx : vw m x = some (.lst (ss.map D.str))) (hy : vw m y = some (.lst (ss.map D.str))) (h : R (.d (.bl true)) m) : eqF x y m R := by
  refine v_eq hx hy (sh_strs hs) (sh_strs hs) ?_
  rw [eqD_strs, decide_eq_true rfl]
  exact h
/-! ### xs[::-1] -/
def tRev (G : Ctx) (te : TE) : TE := tRevL G.K te
theorem pe_rev {X : Cx} {G : Ctx} {e : Expr} {te : TE} {k : Nat} {p1 p2 p3 pos : Pos} (hK : X.K = G.K) (h : PE X e te) : PE X (.Subscript e (.Slice none none (some (.UnaryOp .USub (.Constant (.int 1) k p1) p2)) p3) pos) (tRev G te) := by
  unfold tRev
  rw [← hK]
  exact pe_revL h
theorem ev_rev {G : Ctx} {W : WX} {ds : DS} {m : Mu} {R : DV → Mu → Prop} {XR : Tag → Mu → Prop} {te : TE} (h : EvD G W te ds m (fun d m1 => ∃ xs, vw m1 d = some (.lst xs) ∧ R (.d (.lst xs.reverse)) m1) XR) : EvD G W (tRev G te) ds m R XR := fun σ H Q s r p x =>
  h σ H _ s r (fun v H1 d m1 t1 s1 r1 ⟨xs, e, q⟩ => by
    rcases vw_cases e with rfl | ⟨a, rfl, e2⟩
    · cases r1 with
      | lst h1 h2 => exact ⟨_, _, rfl, SqL.of (fz_ex _ _ h1), fun b hb => (p.tr t1).lay s1 hb h2.rev q⟩
    · cases r1
      obtain ⟨vs, h1, h2⟩ := s1 a _ e2
      exact ⟨_, _, rfl, SqL.of h1, fun b hb => (p.tr t1).lay s1 hb h2.rev q⟩) x
theorem f_notin {m : Mu} {R : DV → Mu → Prop} {k : Int} {ns : List Int} (h : R (.d (.bl (!decide (k ∈ ns)))) m) : notinF (.d (.int k)) (.d (dInts ns)) m R := by
  refine ⟨sh_int, sh_ints, ?_⟩
  rw [any_int]
  exact h
end Lb

/-! LbU: small things of use everywhere. -/
namespace Lb
open PySem L2
theorem ev_drop {G : Ctx} {W : WX} {ds : DS} {m : Mu} {R : DV → Mu → Prop} {XR : Tag → Mu → Prop} {te : TE} (h : EvD G W te ds m (fun d m1 => ∃ m2, Sub m2 m1 ∧ R d m2) XR) : EvD G W te ds m R XR := fun σ H Q s r p x =>
  h σ H _ s r (fun v H1 d m1 t1 s1 r1 ⟨m2, b, q⟩ => by
    obtain ⟨s2, t2⟩ := s1.sub b
    exact p v H1 d m2 (t1.trans t2) s2 (r1.mono t2) q) x
theorem sub_mset {m : Mu} {a : Addr} {o : MO} (h : m a = none) : Sub m (mset m a o) := fun b => by
  by_cases e : b = a
  · subst e; exact .inl h
  · exact .inr (mset_ne e).symm
theorem flatten_rep {α : Type} (x : α) : ∀ n : Nat, (List.replicate n [x]).flatten = List.replicate n x
  | 0 => rfl
  | n + 1 => by rw [List.replicate_succ, List.flatten_cons, flatten_rep x n]; rfl
theorem atI_lst {α : Type} {xs : List α} {x : α} (h : xs.getLast? = some x) : atI xs (-1) = some x := by
  have hl : 0 < xs.length := by
    cases xs with
    | nil => cases h
    | cons _ _ => exact Nat.succ_pos _
  unfold atI ixN
  rw [if_neg (by decide), if_pos (by omega)]
  have e : (-1 + (xs.length : Int)).toNat = xs.length - 1 := by omega
  rw [e]
  rw [List.getLast?_eq_getElem?] at h
  exact h
theorem map_set_range (f : Nat → D) (v : D) (n j : Nat) : ((List.range n).map f).set j v = (List.range n).map fun k => if k = j then v else f k := by
  apply List.ext_getElem?
  intro i
  by_cases hj : j = i
  · subst hj
    by_cases hi : j < n
    · rw [List.getElem?_set_self (by rw [List.length_map, List.length_range]; exact hi), List.getElem?_map, List.getElem?_range hi]
      simp
    · rw [List.getElem?_eq_none (by rw [List.length_set, List.length_map, List.length_range]; omega), List.getElem?_eq_none (by rw [List.length_map, List.length_range]; omega)]
  · rw [List.getElem?_set_ne hj, List.getElem?_map, List.getElem?_map]
    by_cases hi : i < n
    · rw [List.getElem?_range hi]
      simp [Ne.symm hj]
    · rw [List.getElem?_eq_none (by rw [List.length_range]; omega)]
      rfl
theorem atI_map_range (f : Nat → D) {n k : Nat} (h : k < n) : atI ((List.range n).map f) ((k : Nat) : Int) = some (f k) := by
  apply atI_nat
  rw [List.getElem?_map, List.getElem?_range h]
  rfl
theorem ixN_in {n j : Nat} (hj : j < n) : ixN n (j : Int) = some j := by
  unfold ixN
  rw [if_pos (by omega), if_pos (by omega), Int.toNat_natCast]
theorem atI_is {cs : List Int} {k : Nat} (h : k < cs.length) : atI (cs.map D.int) (0 + (k : Int)) = some (.int (cs.getD k 0)) := by
  rw [Int.zero_add]
  apply atI_nat
  rw [List.getElem?_map, List.getD_eq_getElem?_getD, List.getElem?_eq_getElem h]
  rfl
theorem getD_mem {cs : List Int} {k : Nat} (h : k < cs.length) : cs.getD k 0 ∈ cs := by
  rw [List.getD_eq_getElem?_getD, List.getElem?_eq_getElem h]
  exact List.getElem_mem h
theorem range_cons {α : Type} (f : Nat → α) (n : Nat) : (List.range (n + 1)).map f = f 0 :: (List.range n).map fun k => f (k + 1) := by
  rw [List.range_succ_eq_map, List.map_cons, List.map_map]
  rfl
theorem getD_map_range (f : Nat → Int) {n k : Nat} (h : k < n) : ((List.range n).map f).getD k 0 = f k := by
  rw [List.getD_eq_getElem?_getD, List.getElem?_map, List.getElem?_range h]
  rfl
structure Two (m : Mu) (a b : Addr) (Y N : List D) (m' : Mu) : Prop where
  y : m' a = some (.lst Y)
  n : m' b = some (.lst N)
  o : ∀ c, c ≠ a → c ≠ b → m' c = m c
theorem Two.setY {m m' : Mu} {a b : Addr} {Y N : List D} (t : Two m a b Y N m') (h : a ≠ b) (Z : List D) : Two m a b Z N (mset m' a (.lst Z)) := ⟨mset_same, by rw [mset_ne h.symm]; exact t.n, fun c h1 h2 => by rw [mset_ne h1]; exact t.o c h1 h2⟩
theorem Two.setN {m m' : Mu} {a b : Addr} {Y N : List D} (t : Two m a b Y N m') (h : a ≠ b) (Z : List D) : Two m a b Y Z (mset m' b (.lst Z)) := ⟨by rw [mset_ne h]; exact t.y, mset_same, fun c h1 h2 => by rw [mset_ne h2]; exact t.o c h1 h2⟩
theorem Two.done {m m' : Mu} {a b : Addr} {Y N : List D} (t : Two m a b Y N m') (ha : m a = none) (hb : m b = none) : mdel (mdel m' a) b = m := by
  funext c
  by_cases h2 : c = b
  · subst h2; rw [mdel_same, hb]
  · rw [mdel_ne h2]
    by_cases h1 : c = a
    · subst h1; rw [mdel_same, ha]
    · rw [mdel_ne h1]; exact t.o c h1 h2
theorem atI_js {cs : List Int} {k : Nat} (h : k < cs.length) : atI (cs.map D.int) (k : Int) = some (.int (cs.getD k 0)) := by
  have := atI_is h
  rwa [Int.zero_add] at this
def XAll (G : Ctx) : Prop := ∀ t, G.has t = true → PySem.W.exmOne G.K (.ref (G.ex t)) (.ref G.le) = some true
abbrev NL (R : DV → Mu → Prop) : EndsD := { nx := fun _ m' => R (.d .non) m', rt := R }
abbrev dBls (bs : List Bool) : D := .lst (bs.map D.bl)
theorem atI_qs {qs : List (List Int)} {t : Nat} (ht : t < qs.length) : atI (qs.map dInts) (0 + (t : Int)) = some (dInts (qs.getD t [])) := by
  rw [Int.zero_add]
  apply atI_nat
  rw [List.getElem?_map, List.getD_eq_getElem?_getD, List.getElem?_eq_getElem ht]
  rfl
theorem atI_bs {bs : List Bool} {t : Nat} (ht : t < bs.length) : atI (bs.map D.bl) (0 + (t : Int)) = some (D.bl (bs.getD t false)) := by
  rw [Int.zero_add]
  apply atI_nat
  rw [List.getElem?_map, List.getD_eq_getElem?_getD, List.getElem?_eq_getElem ht]
  rfl
theorem snoc_ind {α : Type} {P : List α → Prop} (nil : P []) (snoc : ∀ xs x, P xs → P (xs ++ [x])) (xs : List α) : P xs := by
  have h : ∀ ys : List α, P ys.reverse := by
    intro ys
    induction ys with
    | nil => exact nil
    | cons y ys ih => rw [List.reverse_cons]; exact snoc _ _ ih
  have := h xs.reverse
  rwa [List.reverse_reverse] at this
theorem cut_from {α : Type} (xs : List α) (k : Nat) : cut xs (some (k : Int)) none = xs.drop k := by
  unfold cut
  rw [HT.sIx_nat, HT.sIx_none]
  by_cases h : k ≤ xs.length
  · rw [Nat.min_eq_left h, List.take_of_length_le (by rw [List.length_drop]; exact Nat.le_refl _)]
  · rw [Nat.min_eq_right (by omega), List.drop_of_length_le (Nat.le_refl _), List.drop_of_length_le (by omega), List.take_nil]
theorem cut_tail {α : Type} (x : α) (xs : List α) : cut (x :: xs) (some 1) none = xs := cut_from (x :: xs) 1
theorem foldl_range_succ {α : Type} (f : α → Nat → α) (a : α) (n : Nat) : (List.range (n + 1)).foldl f a = f ((List.range n).foldl f a) n := by
  rw [List.range_succ, List.foldl_append]
  rfl
end Lb

/-! LbV: tuples that hold lists of our own. -/
namespace Lb
open PySem L2
theorem RVs.len {G : Ctx} {F : Hp} : ∀ {vs : List V} {es : List DV}, RVs G F vs es → vs.length = es.length
  | _, _, .nil => rfl
  | _, _, .cons _ t => by rw [List.length_cons, List.length_cons, RVs.len t]
theorem RVs.get {G : Ctx} {F : Hp} : ∀ {vs : List V} {ds : List DV} {i : Nat} {d : DV}, RVs G F vs ds → ds[i]? = some d → ∃ v, vs[i]? = some v ∧ RV G F v d
  | _, _, _, _, .nil, e => by simp at e
  | _, _, 0, _, .cons r _, e => by simp at e; subst e; exact ⟨_, rfl, r⟩
  | _, _, i + 1, d, .cons _ t, e => by
    obtain ⟨u, h1, h2⟩ := RVs.get (i := i) (d := d) t (by simpa using e)
    exact ⟨u, by simpa using h1, h2⟩
section
variable {G : Ctx} {W : WX} {ds : DS} {m : Mu} {R : DV → Mu → Prop} {XR : Tag → Mu → Prop}
/-- a tuple of which some things are our own -/
theorem ev_tupO {t : TA} (h : EvA G W t ds m (fun es m1 => es.length ≤ 100000 ∧ ∀ a, m1 a = none → R (.r a) (mset m1 a (.tpl es))) XR) : EvD G W (tTup t) ds m R XR := fun σ H Q s r p x =>
  h σ H _ s r (fun vs H1 es m1 t1 s1 r1 ⟨l, q⟩ => by
    refine ⟨sz_of (by rw [r1.len]; exact l), fun a ha => ?_⟩
    have ma := s1.free ha
    obtain ⟨s2, t2⟩ := s1.put (p := a) (o := .tup vs) (x := .tpl es) (by rw [fz_none ma]; exact ha) ⟨_, upd_same, r1⟩
    exact p _ _ (.r a) _ (t1.trans t2) s2 rfl (q a ma)) x
/-- a pair of a list of our own and data becomes data -/
theorem ev_frT {te : TE} (h : EvD G W te ds m (fun d m1 => ∃ a b xs x, d = .r b ∧ m1 b = some (.tpl [.r a, .d x]) ∧ m1 a = some (.lst xs) ∧ R (.d (.tup [.lst xs, x])) (mdel (mdel m1 a) b)) XR) : EvD G W te ds m R XR := fun σ H Q s r p x =>
  h σ H _ s r (fun v H1 d m1 t1 s1 r1 ⟨a, b, xs, x, e, eb, ea, q⟩ => by
    subst e
    cases r1
    obtain ⟨vs, e1, e2⟩ := s1 a _ ea
    obtain ⟨us, f1, f2⟩ := s1 b _ eb
    obtain ⟨s', tr⟩ := s1.del (p := a)
    obtain ⟨s2, tr2⟩ := s'.del (p := b)
    have hab : a ≠ b := fun z => by rw [z, eb] at ea; cases ea
    cases f2 with
    | cons g1 f2 =>
      cases f2 with
      | cons g2 f2 =>
        cases f2
        cases g1
        have t3 := tr.trans tr2
        refine p _ H1 _ _ (t1.trans t3) s2 (RV.dat (Rp.tup (by rw [fz_none mdel_same]; exact f1) (.cons (Rp.lst (by rw [fz_none (by rw [mdel_ne hab]; exact mdel_same)]; exact e1) (RpL.mono t3 _ _ e2)) (.cons (Rp.mono t3 _ _ g2) .nil)))) q) x
end
def idxT : F2
  | .r a, .d (.int i), m, R => ∃ es e, m a = some (.tpl es) ∧ atI es i = some e ∧ R e m
  | _, _, _, _ => False
theorem atI_rv {G : Ctx} {F : Hp} {vs : List V} {es : List DV} {i : Int} {e : DV} (r : RVs G F vs es) (h : atI es i = some e) : ∃ v, atI vs i = some v ∧ RV G F v e := by
  unfold atI at h ⊢
  rw [r.len]
  cases q : ixN es.length i with
  | none => rw [q] at h; cases h
  | some j =>
    rw [q] at h
    exact r.get h
theorem ix_T {X : Cx} {G : Ctx} : IxR X (rD2 G idxT) := by
  intro ve se pins s σ H x y v u Q I rx ry h hsub
  obtain ⟨dx, dy, m, R, s0, r1, r2, h, p⟩ := h
  unfold idxT at h
  split at h
  · obtain ⟨es, e, em, ee, h⟩ := h
    cases r2
    cases r1
    obtain ⟨vs, h1, h2⟩ := s0 _ _ em
    obtain ⟨z, e2, rz⟩ := atI_rv h2 ee
    exact ix_tup ve se pins s σ H _ _ v u Q I rx ry ⟨_, _, _, z, rfl, rfl, SqT.of h1, e2, p.here s0 rz h⟩ hsub
  · exact h.elim
end Lb

/-! LbO: objects of the program's own classes: fields, methods, making. -/
namespace Lb
open PySem L2
/-! ### fields -/
def putD (f : Str) (v : DV) : List (Str × DV) → List (Str × DV)
  | [] => [(f, v)]
  | (g, x) :: r => if g = f then (g, v) :: r else (g, x) :: putD f v r
theorem RF.look {G : Ctx} {F : Hp} {f : Str} {d : DV} : ∀ {vs : List (Str × V)} {fs : List (Str × DV)}, PySem.Paired (RF G F) vs fs → fs.lookup f = some d → ∃ v, vs.lookup f = some v ∧ RV G F v d
  | _, _, .nil, e => by cases e
  | (g, x) :: vs, (g', x') :: fs, .cons h t, e => by
    have h1 : g = g' := h.1
    subst h1
    rw [List.lookup_cons] at e ⊢
    cases q : f == g with
    | true =>
      rw [q] at e
      cases e
      exact ⟨x, rfl, h.2⟩
    | false =>
      rw [q] at e
      exact RF.look t e
theorem RF.lookN {G : Ctx} {F : Hp} {f : Str} : ∀ {vs : List (Str × V)} {fs : List (Str × DV)}, PySem.Paired (RF G F) vs fs → fs.lookup f = none → vs.lookup f = none
  | _, _, .nil, _ => rfl
  | (g, x) :: vs, (g', x') :: fs, .cons h t, e => by
    have h1 : g = g' := h.1
    subst h1
    rw [List.lookup_cons] at e ⊢
    cases q : f == g with
    | true => rw [q] at e; cases e
    | false => rw [q] at e; exact RF.lookN t e
theorem RF.put {G : Ctx} {F : Hp} {f : Str} {v : V} {d : DV} (r : RV G F v d) : ∀ {vs : List (Str × V)} {fs : List (Str × DV)}, PySem.Paired (RF G F) vs fs → PySem.Paired (RF G F) (putF f v vs) (putD f d fs)
  | _, _, .nil => .cons ⟨rfl, r⟩ .nil
  | (g, x) :: vs, (g', x') :: fs, .cons h t => by
    have h1 : g = g' := h.1
    subst h1
    unfold putF putD
    by_cases q : g = f
    · rw [if_pos q, if_pos q]; exact .cons ⟨rfl, r⟩ t
    · rw [if_neg q, if_neg q]; exact .cons h (RF.put r t)
theorem RF.len {G : Ctx} {F : Hp} : ∀ {vs : List (Str × V)} {fs : List (Str × DV)}, PySem.Paired (RF G F) vs fs → vs.length = fs.length
  | _, _, .nil => rfl
  | _, _, .cons _ t => by rw [List.length_cons, List.length_cons, RF.len t]
/-- what the top has made of a class -/
structure ClOk (G : Ctx) (c : CT) : Prop where
  cls : Cls G.K (G.cl c)
/-- o.f -/
def tFldD (G : Ctx) (c : CT) (ta : TE) (f : Str) : TE := fun σ H Q => ta σ H fun x H1 => ∃ a dx fs v, x = .ref a ∧ H1 a = some (.ins (G.cl c) dx fs) ∧ fs.lookup f = some v ∧ Q v H1
theorem pe_fldD {X : Cx} {G : Ctx} {c : CT} {e : Expr} {f : Str} {pos : Pos} {ta : TE} (hK : X.K = G.K) (cl : ClOk G c) (n : NoAttr G.K (G.cl c) f) (he : PE X e ta) (hb : attributeBase e f X.env (eval e X.env) = eval e X.env := by rfl) : PE X (.Attribute e f pos) (tFldD G c ta f) := by
  refine ⟨fun pins s σ H Q I h => ?_⟩
  refine attr_of hb (thn (he.run pins s σ H _ I h) fun u s1 ⟨x, H1, I1, rx, a, dx, fs, v, ex, ea, l, q⟩ => ?_)
  subst ex
  obtain rfl : u = Value.ref a := rx
  exact getattr_ok I1 ea (by rw [hK]; exact cl.cls) (by rw [hK]; exact n) l fun u' s2 I2 ru => ⟨v, H1, I2, ru, q⟩
/-- o.f = e -/
def sFldD (G : Ctx) (c : CT) (ta tv : TE) (f : Str) : TS := fun D σ H => tv σ H fun y H1 => ta σ H1 fun x H2 => ∃ a dx fs, x = .ref a ∧ H2 a = some (.ins (G.cl c) dx fs) ∧ fs.length < 1000 ∧ D.nx σ (upd H2 a (.ins (G.cl c) dx (putF f y fs)))
theorem ps_fldD {X : Cx} {G : Ctx} {c : CT} {o value : Expr} {f : Str} {pos pos' : Pos} {ta tv : TE} (hK : X.K = G.K) (cl : ClOk G c) (n : NoAttr G.K (G.cl c) f) (ha : PE X o ta) (hv : PE X value tv) (hs : swapsWith value (some (.Attribute o f pos')) pos.line X.env = pure false := by rfl) : PS X (.Assign [.Attribute o f pos'] value pos) (sFldD G c ta tv f) := by
  refine ⟨fun pins s σ H D I h => ?_⟩
  refine PySem.plainObj_wpAny_Assign_Attribute (thn (hv.run pins s σ H _ I h) fun u s1 ⟨y, H1, I1, ry, q⟩ => thn (ha.run pins s1 σ H1 _ I1 q) fun ov s2 ⟨x, H2, I2, rx, a, dx, fs, ex, ea, l, q2⟩ => ?_) hs
  subst ex
  obtain rfl : ov = Value.ref a := rx
  exact setattr_ok I2 ea (by rw [hK]; exact cl.cls) (by rw [hK]; exact n) l ry fun s3 I3 => ⟨σ, _, I3, q2⟩
section
variable {G : Ctx} {W : WX} {ds : DS} {m : Mu} {R : DV → Mu → Prop} {XR : Tag → Mu → Prop} {N : EndsD} {XS : Tag → DS → Mu → Prop} {c : CT} {ta tv : TE} {f : Str}
theorem ev_fld (h : EvD G W ta ds m (fun d m1 => ∃ a fs v, d = .r a ∧ m1 a = some (.ins c fs) ∧ fs.lookup f = some v ∧ R v m1) XR) : EvD G W (tFldD G c ta f) ds m R XR := fun σ H Q s r p x =>
  h σ H _ s r (fun v H1 d m1 t1 s1 r1 ⟨a, fs, dv, e, em, el, q⟩ => by
    subst e
    cases r1
    obtain ⟨dx, vs, h1, h2⟩ := s1 a _ em
    obtain ⟨u, e1, ru⟩ := RF.look h2 el
    exact ⟨a, dx, vs, u, rfl, h1, e1, p _ H1 _ m1 t1 s1 ru q⟩) x
theorem st_fld (h : EvD G W tv ds m (fun v m1 => EvD G W ta ds m1 (fun d m2 => ∃ a fs, d = .r a ∧ m2 a = some (.ins c fs) ∧ fs.length < 1000 ∧ N.nx ds (mset m2 a (.ins c (putD f v fs)))) (fun t m1 => XS t ds m1)) (fun t m1 => XS t ds m1)) : StD G W (sFldD G c ta tv f) ds m N XS := fun σ H E s r p =>
  h σ H _ s r (fun y H1 dy m1 t1 s1 r1 q1 => q1 σ H1 _ s1 (r.mono t1) (fun v H2 d m2 t2 s2 r2 ⟨a, fs, e, em, el, q⟩ => by
    subst e
    cases r2
    obtain ⟨dx, vs, h1, h2⟩ := s2 a _ em
    obtain ⟨s3, t3⟩ := s2.put (p := a) (o := .ins (G.cl c) dx (putF f y vs)) (x := .ins c (putD f dy fs)) (fz_some em) ⟨dx, _, upd_same, RF.put (r1.mono t2) h2⟩
    have t13 := (t1.trans t2).trans t3
    exact ⟨a, dx, vs, rfl, h1, by rw [RF.len h2]; exact el, p.nx _ _ _ _ t13 s3 (r.mono t13) q⟩) ((p.x r).tr t1)) (p.x r)
end
/-! ### methods -/
/-- a method stands in its class -/
def MethAt (G : Ctx) (c : CT) (x qual : Str) (st : Stmt) (ps : List Str) : Prop := ∃ f fd, Fun G.K x qual st f fd ∧ Binds G.K fd ps [] ∧ Meth G.K (G.cl c) x f
/-- .. and keeps its promise -/
def FnM (P : Program) (G : Ctx) (mg : Str → Option Value) (base : Heap) (k : Nat) (c : CT) (x : Str) (ps : List Str) (S : SpD) : Prop :=
  ∃ f fd, FnOk P G.w G.K mg base (L2.CX P G.w) k f fd ps (spL G S) ∧ Meth G.K (G.cl c) x f ∧ Binds G.K fd ps []
theorem fnM_mk {P : Program} {mg : Str → Option Value} {base : Heap} {G : Ctx} {c : CT} {x qual : Str} {st : Stmt} {N ps : List Str} {k : Nat} {S : SpD} {rd : WX → TS} (F : MethAt G c x qual st ps) (sc : FnScope N ps (defScope st))
    (len : ∀ es m R XR, S es m R XR → es.length = ps.length) (sem : BodyD G N.length rd S)
    (hbody : ∀ (f : Addr) (cdv : Value) (A : Around) (outer : List Env) (s : Shared) (H : Hp) (E : XK), Room k (A.deeper (PyProof.Rows.envOfC qual (defScope st) s.heap.objs.size f cdv)) →
      PSs (cxOf (L2.CX P G.w) P G.w G.K mg base N qual (defScope st) f cdv A outer s H E) (defBody st) (rd fun c d _ H' => E c d H')) : FnM P G mg base (k + 1) c x ps S := by
  obtain ⟨f, fd, F1, b, m⟩ := F
  exact ⟨f, fd, fn_D F1 sc len sem (hbody f), m, b⟩
theorem fnM_none {P : Program} {mg : Str → Option Value} {base : Heap} {G : Ctx} {c : CT} {x qual : Str} {st : Stmt} {ps : List Str} {k : Nat} {S : SpD} (F : MethAt G c x qual st ps) (no : ∀ es m R XR, S es m R XR → False) : FnM P G mg base k c x ps S := by
  obtain ⟨f, fd, F1, b, m⟩ := F
  exact ⟨f, fd, ⟨fun vs H Q E ⟨es, m, R, XR, _, _, h, _⟩ => (no es m R XR h).elim, fun A outer s H args us vs Q E _ _ _ _ ⟨es, m, R, XR, _, _, h, _⟩ => (no es m R XR h).elim⟩, m, b⟩
theorem FnM.up {P : Program} {mg : Str → Option Value} {base : Heap} {G : Ctx} {c : CT} {x : Str} {ps : List Str} {j k : Nat} {S : SpD} (h : FnM P G mg base j c x ps S) (hk : j ≤ k) : FnM P G mg base k c x ps S := by
  obtain ⟨f, fd, F, r⟩ := h
  exact ⟨f, fd, F.mono hk, r⟩
/-- o.m(..) -/
def tMethD (G : Ctx) (c : CT) (mn : Str) (sp : Sp) (E : L2.St → XK) (ta : TE) (t : TA) : TE := fun σ H Q => ta σ H fun x H1 => ∃ a dx fs, x = .ref a ∧ H1 a = some (.ins (G.cl c) dx fs) ∧ fs.lookup mn = none ∧ t σ H1 fun vs H2 => sp (x :: vs) H2 Q (E σ)
section
variable {X : Cx} {G : Ctx} {W : WX} {k : Nat} {c : CT} {ps : List Str} {S : SpD} {mn : Str} {pos apos : Pos} {e o : Expr} {es : List Expr} {ta : TE} {t : TA}
theorem pe_methD {pl : Sem Bool} (h : FnM X.prog G X.mg X.base k c mn ps S) (hK : X.K = G.K) (hw : X.w = G.w) (cl : ClOk G c) (hr : Room k X.A) (tk : Takes X W) (he : PE X o ta) (ha : PA X (e :: es) t)
    (hst : starEach (e :: es) X.env = (false, eval e X.env) :: starEach es X.env := by rfl) (hpl : (backTo pos (starEach es X.env)).any (·.1) = false := by rfl)
    (ht : eval (.Call (.Attribute o mn apos) (e :: es) [] pos) X.env = (do
      let ov ← eval o X.env
      standAt apos.atName
      let (f, first) ← holding [ov] (getMethod ov mn pl)
      callWith pos f first (backTo pos (starEach (e :: es) X.env)) (backToKw pos (keywordEach [] X.env))) := by rfl) :
    PE X (.Call (.Attribute o mn apos) (e :: es) [] pos) (tMethD G c mn (spL G S) (WE W) ta t) := by
  obtain ⟨f, fd, F, mt, b⟩ := h
  rw [← hK, ← hw] at F
  rw [← hK] at mt b
  have c1 := cl.cls
  rw [← hK] at c1
  refine ⟨fun pins s σ H Q I h => ?_⟩
  refine PySem.W.methodCall_KW (pl := pl) (thn (he.run pins s σ H _ I h) fun u s1 ⟨x, H1, I1, rx, a, dx, fs, ex, ea, l, q⟩ => ?_) ht
  subst ex
  obtain rfl : u = Value.ref a := rx
  refine getmeth_ok I1 ea c1 mt l ?_
  refine PySem.W.callWith_K (first := [.ref a]) (h₀ := X.base) I.ok.mod.kin mt.kp (thn (ha.run pos pins s1 σ H1 _ I1 q) fun us s2 ⟨vs, H2, I2, r, q2⟩ => ⟨I2.kIn, ?_⟩) hst hpl
  exact run_fnS (us := .ref a :: us) (vs := .ref a :: vs) F hr b (passAt tk σ) I2 (.cons rfl r) q2
theorem pe_methD0 {pl : Sem Bool} (h : FnM X.prog G X.mg X.base k c mn ps S) (hK : X.K = G.K) (hw : X.w = G.w) (cl : ClOk G c) (hr : Room k X.A) (tk : Takes X W) (he : PE X o ta)
    (ht : eval (.Call (.Attribute o mn apos) [] [] pos) X.env = (do
      let ov ← eval o X.env
      standAt apos.atName
      let (f, first) ← holding [ov] (getMethod ov mn pl)
      callWith pos f first (backTo pos (starEach [] X.env)) (backToKw pos (keywordEach [] X.env))) := by rfl) :
    PE X (.Call (.Attribute o mn apos) [] [] pos) (tMethD G c mn (spL G S) (WE W) ta tNil) := by
  obtain ⟨f, fd, F, mt, b⟩ := h
  rw [← hK, ← hw] at F
  rw [← hK] at mt b
  have c1 := cl.cls
  rw [← hK] at c1
  refine ⟨fun pins s σ H Q I h => ?_⟩
  refine PySem.W.methodCall_KW (pl := pl) (thn (he.run pins s σ H _ I h) fun u s1 ⟨x, H1, I1, rx, a, dx, fs, ex, ea, l, q⟩ => ?_) ht
  subst ex
  obtain rfl : u = Value.ref a := rx
  refine getmeth_ok I1 ea c1 mt l ?_
  exact PySem.W.callWith_K0 (first := [.ref a]) I1.kIn mt.kp (run_fnS (us := [.ref a]) (vs := [.ref a]) F hr b (passAt tk σ) I1 (.cons rfl .nil) q)
end
/-! ### making -/
structure MkOk (G : Ctx) (mg : Str → Option Value) (c : CT) (x : Str) : Prop where
  g : mg x = some (.ref (G.cl c))
  makes : PySem.W.makesIn G.K (G.cl c) = true
  kp : PySem.W.keepIn G.K (.ref (G.cl c)) = true
def tMakeS (G : Ctx) (c : CT) (sp : Sp) (E : L2.St → XK) (t : TA) : TE := fun σ H Q => t σ H fun vs H1 => ∀ x dx, H1 x = none → H1 dx = none → dx ≠ x →
  sp (.ref x :: vs) (upd (upd H1 dx (.own x)) x (.ins (G.cl c) dx [])) (fun v H2 => v = .non ∧ Q (.ref x) H2) (E σ)
section
variable {X : Cx} {CX : CXT} {k : Nat} {f C : Addr} {fd : FuncData} {ps : List Str} {sp : Sp} {E : L2.St → XK}
theorem run_makeS {pins : List (Addr × Obj)} {σ : L2.St} {H : Hp} {s : Shared} {Q : VK} {us : List Value} {vs : List V} (M : Mk X.K C f) (F : FnOk X.prog X.w X.K X.mg X.base CX k f fd ps sp) (hr : Room (k + 1) X.A) (hb : Binds X.K fd ps [])
    (hx : PassesAt CX X σ (E σ)) (I : L2.Inv X pins σ H s) (r : Vals vs us)
    (h : ∀ x dx, H x = none → H dx = none → dx ≠ x → sp (.ref x :: vs) (upd (upd H dx (.own x)) x (.ins C dx [])) (fun v H2 => v = .non ∧ Q (.ref x) H2) (E σ)) :
    wpAny (model X.prog X.w) X.A (call (.ref C) us) (EP X pins σ Q) X.xe s := by
  have hq := h (s.heap.objs.size + 1) s.heap.objs.size (I.hok.fresh (Nat.le_succ _)) (I.hok.fresh (Nat.le_refl _)) (Nat.ne_of_lt (Nat.lt_succ_self _))
  have I2 := Inv.made (C := C) I
  have r2 : Vals (V.ref (s.heap.objs.size + 1) :: vs) (Value.ref (s.heap.objs.size + 1) :: us) := .cons rfl r
  have hl : (Value.ref (s.heap.objs.size + 1) :: us).length = ps.length := by
    have e := r2.length
    rw [F.len _ _ _ _ hq] at e
    exact e.symm
  have b := hb { s with heap := (s.heap.push PySem.W.emptyDict).push (PySem.W.instObj C s.heap.objs.size) } (Value.ref (s.heap.objs.size + 1) :: us) I2.kIn (by rw [List.append_nil]; exact hl)
  rw [List.append_nil] at b
  refine wpAny_call (make_map (f := f) I.kIn M.makes M.init (beq_iff_eq.mp M.fn) (codeAny_mono (F.run _ X.stack _ _ ⟨Value.ref (s.heap.objs.size + 1) :: us, []⟩ (Value.ref (s.heap.objs.size + 1) :: us) _ _ (E σ) (hr.make C us [])
    (I2.env0.make C us []) b r2 hq) fun r s' hq' => ?_))
  cases r with
  | error e => exact hx pins _ _ e s' I2 hq'
  | ok fl =>
    cases fl with
    | ret u =>
      obtain ⟨v, H', I3, rv, ev, q3⟩ := I2.after hq'
      subst ev
      exact ⟨rv, ⟨V.ref (s.heap.objs.size + 1), H', I3, rfl, q3⟩⟩
    | next => exact False.elim hq'
    | brk => exact False.elim hq'
    | cont => exact False.elim hq'
end
section
variable {X : Cx} {G : Ctx} {W : WX} {k : Nat} {c : CT} {ps : List Str} {S : SpD} {x : Str} {p pos : Pos} {e : Expr} {es : List Expr} {t : TA}
theorem pe_makeS (h : FnM X.prog G X.mg X.base k c "__init__" ps S) (hK : X.K = G.K) (hw : X.w = G.w) (M : MkOk G X.mg c x) (hr : Room (k + 1) X.A) (tk : Takes X W) (hg : Gl X x) (ha : PA X (e :: es) t)
    (hdb : (x == ("__debug__" : Str)) = false := by decide) (he : starEach (e :: es) X.env = (false, eval e X.env) :: starEach es X.env := by rfl) (hpl : (backTo pos (starEach es X.env)).any (·.1) = false := by rfl) :
    PE X (.Call (.Name x p) (e :: es) [] pos) (tMakeS G c (spL G S) (WE W) t) := by
  obtain ⟨f, fd, F, mt, b⟩ := h
  rw [← hK, ← hw] at F
  rw [← hK] at mt b
  have M1 : Mk X.K (G.cl c) f := ⟨by rw [hK]; exact M.makes, mt.at_, mt.fn, by rw [hK]; exact M.kp⟩
  refine ⟨fun pins s σ H Q I h => ?_⟩
  refine wpAny_Call_Name_kw (ld_glob I hg M.g ?_ hdb)
  refine PySem.W.callWith_K (h₀ := X.base) I.ok.mod.kin M1.kp (thn (ha.run pos pins s σ H _ I h) fun us s1 ⟨vs, H1, I1, r, q⟩ => ⟨I1.kIn, ?_⟩) he hpl
  exact run_makeS M1 F hr b (passAt tk σ) I1 r q
theorem pe_makeS0 (h : FnM X.prog G X.mg X.base k c "__init__" ps S) (hK : X.K = G.K) (hw : X.w = G.w) (M : MkOk G X.mg c x) (hr : Room (k + 1) X.A) (tk : Takes X W) (hg : Gl X x)
    (hdb : (x == ("__debug__" : Str)) = false := by decide) :
    PE X (.Call (.Name x p) [] [] pos) (tMakeS G c (spL G S) (WE W) tNil) := by
  obtain ⟨f, fd, F, mt, b⟩ := h
  rw [← hK, ← hw] at F
  rw [← hK] at mt b
  have M1 : Mk X.K (G.cl c) f := ⟨by rw [hK]; exact M.makes, mt.at_, mt.fn, by rw [hK]; exact M.kp⟩
  refine ⟨fun pins s σ H Q I h => ?_⟩
  refine wpAny_Call_Name_kw (ld_glob I hg M.g ?_ hdb)
  exact PySem.W.callWith_K0 I.kIn M1.kp (run_makeS (us := []) M1 F hr b (passAt tk σ) I .nil h)
end
section
variable {G : Ctx} {W : WX} {ds : DS} {m : Mu} {R : DV → Mu → Prop} {XR : Tag → Mu → Prop} {c : CT} {ta : TE} {t : TA} {mn : Str} {S : SpD}
theorem ev_meth (h : EvD G W ta ds m (fun d m1 => ∃ a fs, d = .r a ∧ m1 a = some (.ins c fs) ∧ fs.lookup mn = none ∧ EvA G W t ds m1 (fun es m2 => S (.r a :: es) m2 R XR) XR) XR) : EvD G W (tMethD G c mn (spL G S) (WE W) ta t) ds m R XR := fun σ H Q s r p x =>
  h σ H _ s r (fun v H1 d m1 t1 s1 r1 ⟨a, fs, e, em, el, q1⟩ => by
    subst e
    cases r1
    obtain ⟨dx, vs, h1, h2⟩ := s1 a _ em
    exact ⟨a, dx, vs, rfl, h1, RF.lookN h2 el, q1 σ H1 _ s1 (r.mono t1) (fun us H2 es m2 t2 s2 r2 q2 => ⟨.r a :: es, m2, R, XR, s2, .cons rfl r2, q2, p.tr (t1.trans t2), x.tr (t1.trans t2)⟩) (x.tr t1)⟩) x
/-- C(..); an error leaves what was made behind -/
theorem ev_make (h : EvA G W t ds m (fun es m1 => ∀ a, m1 a = none → S (.r a :: es) (mset m1 a (.ins c [])) (fun d m2 => d = .d .non ∧ R (.r a) m2) (fun t m2 => ∃ m3, Sub m3 m2 ∧ XR t m3)) XR) : EvD G W (tMakeS G c (spL G S) (WE W) t) ds m R XR := fun σ H Q s r p x =>
  h σ H _ s r (fun vs H1 es m1 t1 s1 r1 q1 a dx ha hdx hne => by
    obtain ⟨s2, t2, e2⟩ := s1.lay (p := dx) (o := .own a) hdx
    have ha2 : upd H1 dx (.own a) a = none := by rw [upd_ne (Ne.symm hne)]; exact ha
    have ma := s1.free ha
    obtain ⟨s3, t3⟩ := s2.put (p := a) (o := .ins (G.cl c) dx []) (x := .ins c []) (by rw [fz_none ma]; exact ha2) ⟨dx, [], upd_same, .nil⟩
    have t23 := t2.trans t3
    refine ⟨.r a :: es, mset m1 a (.ins c []), _, _, s3, .cons rfl (RVs.mono t23 r1), q1 a ma, ?_, ?_⟩
    · rintro v H2 d m2 t4 s4 r4 ⟨rfl, q⟩
      cases r4
      exact ⟨rfl, p _ H2 (.r a) m2 ((t1.trans t23).trans t4) s4 rfl q⟩
    · rintro tg htg H2 m2 t4 s4 ⟨m3, hsub, q⟩
      obtain ⟨s5, t5⟩ := s4.sub hsub
      exact x tg htg H2 m3 (((t1.trans t23).trans t4).trans t5) s5 q) x
/-- walks over a list of our own -/
theorem ev_lcm {g : TG} {tt : TT} {te : TE} {vs : List Nat} (h : EvD G W ta ds m (fun d m1 => ∃ a xs, d = .r a ∧ m1 a = some (.lst xs) ∧ LcR G g tt te vs ds (fun l => R (.d (.lst l)) m1) (xs.map DV.d) (fun m => m a = some (.lst xs)) m1) XR) : EvD G W (tLc (iList G.K ta) g tt te vs) ds m R XR := ev_lc (ei_mut h)
theorem ev_lcmO {g : TG} {tt : TT} {te : TE} {vs : List Nat} (h : EvD G W ta ds m (fun d m1 => ∃ a xs, d = .r a ∧ m1 a = some (.lst xs) ∧ LcR G g tt te vs ds (fun l => ∀ b, m1 b = none → R (.r b) (mset m1 b (.lst l))) (xs.map DV.d) (fun m => m a = some (.lst xs)) m1) XR) : EvD G W (tLc (iList G.K ta) g tt te vs) ds m R XR := ev_lcO (ei_mut h)
theorem st_form {N : EndsD} {XS : Tag → DS → Mu → Prop} {g : TG} {tb : TS} (h : EvD G W ta ds m (fun d m1 => ∃ a xs, d = .r a ∧ m1 a = some (.lst xs) ∧ ForR G W g tb ds N XS (xs.map DV.d) (fun m => m a = some (.lst xs)) m1) (fun t m1 => XS t ds m1)) : StD G W (tFor (iList G.K ta) g tb) ds m N XS := st_for (ei_mut h)
end
theorem x_fld {m : Mu} {a : Addr} {c : CT} {fs : List (Str × DV)} {f : Str} {v : DV} {P : DV → Prop} (hm : m a = some (.ins c fs)) (hl : fs.lookup f = some v) (h : P v) : ∃ a' fs' v', DV.r a = .r a' ∧ m a' = some (.ins c fs') ∧ fs'.lookup f = some v' ∧ P v' := ⟨a, fs, v, rfl, hm, hl, h⟩
theorem x_meth {m : Mu} {a : Addr} {c : CT} {fs : List (Str × DV)} {f : Str} {P : Addr → Prop} (hm : m a = some (.ins c fs)) (hl : fs.lookup f = none) (h : P a) : ∃ a' fs', DV.r a = .r a' ∧ m a' = some (.ins c fs') ∧ fs'.lookup f = none ∧ P a' := ⟨a, fs, rfl, hm, hl, h⟩
theorem x_set {m : Mu} {a : Addr} {c : CT} {fs : List (Str × DV)} {P : Addr → List (Str × DV) → Prop} (hm : m a = some (.ins c fs)) (hl : fs.length < 1000) (h : P a fs) : ∃ a' fs', DV.r a = .r a' ∧ m a' = some (.ins c fs') ∧ fs'.length < 1000 ∧ P a' fs' := ⟨a, fs, rfl, hm, hl, h⟩
/-- a display that is to be our own -/
def tLstO (t : TA) : TE := tLst t
theorem pe_lstO {X : Cx} {es : List Expr} {t : TA} {pos : Pos} (h : PA X es t) : PE X (.List es pos) (tLstO t) := pe_lst h
theorem ev_lstP {G : Ctx} {W : WX} {ds : DS} {m : Mu} {R : DV → Mu → Prop} {XR : Tag → Mu → Prop} {t : TA} (h : EvA G W t ds m (fun es m1 => ∃ xs : List D, es = xs.map DV.d ∧ xs.length ≤ 100000 ∧ ∀ a, m1 a = none → R (.r a) (mset m1 a (.lst xs))) XR) : EvD G W (tLstO t) ds m R XR := ev_lstO h
end Lb

/-! LbW: more small things. -/
namespace Lb
open PySem L2
theorem ne_new {m : Mu} {a b : Addr} {o : MO} (h : m a = some o) (hb : m b = none) : a ≠ b := fun e => by rw [e, hb] at h; cases h
theorem vw_new {m : Mu} {x : DV} {xs : List D} {d : Addr} {o : MO} (h : vw m x = some (.lst xs)) (hd : m d = none) : vw (mset m d o) x = some (.lst xs) := by
  rcases vw_cases h with rfl | ⟨a, rfl, e⟩
  · rfl
  · exact vw_r (by rw [mset_ne (ne_new e hd)]; exact e)
theorem none_mset {m : Mu} {d e : Addr} {o : MO} (h : mset m d o e = none) : e ≠ d ∧ m e = none := by
  by_cases z : e = d
  · subst z; rw [mset_same] at h; cases h
  · rw [mset_ne z] at h; exact ⟨z, h⟩
theorem Sub.refl (m : Mu) : Sub m m := fun _ => .inr rfl
theorem Sub.new {m m1 : Mu} {x : Addr} {o : MO} (h : Sub m m1) (hx : m x = none) : Sub m (mset m1 x o) := fun b => by
  by_cases e : b = x
  · subst e; exact .inl hx
  · rw [mset_ne e]; exact h b
mutual
theorem eqD_refl : ∀ d : D, eqD d d = true
  | .non => by unfold eqD; rw [toPy, PyData.eqv]
  | .bl b => by rw [eqD_bl]; exact beq_self_eq_true b
  | .int i => by rw [eqD_int]; exact decide_eq_true rfl
  | .str s => by rw [eqD_str]; exact decide_eq_true rfl
  | .lst xs => by unfold eqD; rw [toPy, PyData.eqv]; exact eqDs_refl xs
  | .tup xs => by unfold eqD; rw [toPy, PyData.eqv]; exact eqDs_refl xs
theorem eqDs_refl : ∀ xs : List D, PyData.eqvAll (toPys xs) (toPys xs) = true
  | [] => by rw [toPys, PyData.eqvAll]
  | x :: xs => by
    have h := eqD_refl x
    unfold eqD at h
    rw [toPys, PyData.eqvAll, h, eqDs_refl xs]
    rfl
end
theorem ne_self {R : DV → Mu → Prop} {m : Mu} {x y : DV} (a : D) (hx : vw m x = some a) (hy : vw m y = some a) (hs : Sh 63 a) (h : R (.d (.bl false)) m) : neF x y m R := by
  refine v_ne hx hy hs hs ?_
  rw [eqD_refl]
  exact h
theorem eq_self {R : DV → Mu → Prop} {m : Mu} {x y : DV} (a : D) (hx : vw m x = some a) (hy : vw m y = some a) (hs : Sh 63 a) (h : R (.d (.bl true)) m) : eqF x y m R := by
  refine v_eq hx hy hs hs ?_
  rw [eqD_refl]
  exact h
abbrev sc0 (ns : List Int) : Option DV := some (.scr ns)
abbrev sN (n : Nat) : Option DV := some (.d (.int (n : Nat)))
end Lb

/-! LbD: dicts whose keys are tuples, nested. -/
namespace Lb
open PySem L2
/-! ### data as keys -/
mutual
theorem key_is {P : Program} {w : World} {H : Hp} {h : Heap} (ok : HOk P w H h) : ∀ (d : D) (v : V) (u : Value), isKey d = true → Rp H v d → RelV v u → NestedIs h (toKey d) u
  | .non, _, _, _, r, q => by
    cases r
    cases (show _ = Value.none from q)
    rw [toKey]
    exact .none
  | .bl b, _, _, _, r, q => by
    cases r
    cases (show _ = Value.bool b from q)
    rw [toKey]
    exact .bool rfl
  | .int i, _, _, _, r, q => by
    cases r
    obtain ⟨t, rfl⟩ := (show ∃ t, _ = Value.int i t from q)
    rw [toKey]
    exact .int i t
  | .str x, _, _, _, r, q => by
    cases r
    obtain ⟨t, rfl⟩ := (show ∃ t, _ = Value.str x t from q)
    rw [toKey]
    exact .text x t
  | .lst _, _, _, z, _, _ => by rw [isKey] at z; cases z
  | .tup xs, _, _, z, r, q => by
    cases r with
    | tup h1 h2 =>
      cases (show _ = Value.ref _ from q)
      obtain ⟨_, its, rr, o, e1, e2, n, e3⟩ := (show ObjOk P w H h _ (.tup _) from ok _ _ h1)
      rw [toKey]
      rw [isKey] at z
      exact .tup e1 e2 e3 (by simpa using keys_are ok xs _ its z h2 rr)
theorem keys_are {P : Program} {w : World} {H : Hp} {h : Heap} (ok : HOk P w H h) : ∀ (ds : List D) (vs : List V) (us : List Value), isKeys ds = true → RpL H vs ds → Vals vs us → NestedAll h (toKeys ds) us
  | [], _, _, _, r, q => by
    cases r
    cases q
    rw [toKeys]
    exact .nil
  | d :: ds, _, _, z, r, q => by
    cases r with
    | cons a b =>
      cases q with
      | cons a' b' =>
        rw [isKeys, Bool.and_eq_true] at z
        rw [toKeys]
        exact .cons (key_is ok d _ _ z.1 a a') (keys_are ok ds _ _ z.2 b b')
end
/-! ### dicts by data -/
def dgetN (kvs : List (D × D)) (k : D) : Option D := (kvs.find? fun p => decide (toKey p.1 = toKey k)).map (·.2)
def dputN (kvs : List (D × D)) (k v : D) : List (D × D) := if (dgetN kvs k).isSome then kvs.map fun p => if toKey p.1 = toKey k then (p.1, v) else p else kvs ++ [(k, v)]
theorem RKs.get {F : Hp} {k : D} : ∀ {xs : List (NestedKey × Addr × Value)} {kvs : List (D × D)}, RKs F xs kvs →
    (∃ p d v, atKey xs (toKey k) = some p ∧ dgetN kvs k = some d ∧ Rp F v d ∧ RelV v p.2) ∨ (atKey xs (toKey k) = none ∧ dgetN kvs k = none)
  | _, _, .nil => .inr ⟨rfl, rfl⟩
  | (k1, a1, v1) :: xs, (d1, e1) :: kvs, .cons h t => by
    have hk : k1 = toKey d1 := h.k
    by_cases e : toKey d1 = toKey k
    · left
      obtain ⟨v, hv1, hv2⟩ := h.v
      refine ⟨(a1, v1), e1, v, ?_, ?_, hv1, hv2⟩
      · unfold atKey
        rw [List.find?_cons_of_pos (by rw [hk]; exact decide_eq_true e)]
        rfl
      · unfold dgetN
        rw [List.find?_cons_of_pos (by exact decide_eq_true e)]
        rfl
    · have ih := RKs.get (k := k) t
      have q1 : atKey ((k1, a1, v1) :: xs) (toKey k) = atKey xs (toKey k) := by
        unfold atKey
        rw [List.find?_cons_of_neg (by rw [decide_eq_true_eq, hk]; exact e)]
      have q2 : dgetN ((d1, e1) :: kvs) k = dgetN kvs k := by
        unfold dgetN
        rw [List.find?_cons_of_neg (by rw [decide_eq_true_eq]; exact e)]
      rw [q1, q2]
      exact ih
theorem RKs.len {F : Hp} : ∀ {xs : List (NestedKey × Addr × Value)} {kvs : List (D × D)}, RKs F xs kvs → xs.length = kvs.length
  | _, _, .nil => rfl
  | _, _, .cons _ t => by rw [List.length_cons, List.length_cons, RKs.len t]
theorem RKs.app {F : Hp} : ∀ {xs ys : List (NestedKey × Addr × Value)} {kvs lvs : List (D × D)}, RKs F xs kvs → RKs F ys lvs → RKs F (xs ++ ys) (kvs ++ lvs)
  | _, _, _, _, .nil, s => s
  | _, _, _, _, .cons r t, s => .cons r (RKs.app t s)
theorem RKs.over {F : Hp} {k d : D} {v : V} {u : Value} (hv : Rp F v d) (hu : RelV v u) : ∀ {xs : List (NestedKey × Addr × Value)} {kvs : List (D × D)}, RKs F xs kvs → RKs F (xs.map (putAt (toKey k) u)) (kvs.map fun p => if toKey p.1 = toKey k then (p.1, d) else p)
  | _, _, .nil => .nil
  | (k1, a1, v1) :: xs, (d1, e1) :: kvs, .cons h t => by
    have hk : k1 = toKey d1 := h.k
    refine .cons ?_ (RKs.over hv hu t)
    show RK F (putAt (toKey k) u (k1, a1, v1)) (if toKey d1 = toKey k then (d1, d) else (d1, e1))
    unfold putAt
    by_cases e : toKey d1 = toKey k
    · rw [if_pos (by show k1 = toKey k; rw [hk]; exact e), if_pos e]
      exact ⟨h.k, h.d, h.i, h.a, v, hv, hu⟩
    · rw [if_neg (by show ¬ k1 = toKey k; rw [hk]; exact e), if_neg e]
      exact h
theorem RKs.put {F : Hp} {k d : D} {a : Addr} {v : V} {u : Value} {xs : List (NestedKey × Addr × Value)} {kvs : List (D × D)} (r : RKs F xs kvs) (hk : isKey k = true) (hd : (toKey k).depth ≤ 8) (ha : Rp F (.ref a) k) (hv : Rp F v d) (hu : RelV v u) : RKs F (storedH xs (toKey k) a u) (dputN kvs k d) := by
  unfold dputN
  rcases RKs.get (k := k) r with ⟨p, d', v', h1, h2, _⟩ | ⟨h1, h2⟩
  · rw [storedH_old h1, h2]
    exact RKs.over hv hu r
  · rw [storedH_new h1, h2]
    exact r.app (.cons ⟨rfl, hd, hk, ha, v, hv, hu⟩ .nil)
/-- a dict of the store is a dict of the heap -/
theorem dic_of {P : Program} {w : World} {H F : Hp} {h : Heap} {a : Addr} {xs : List (NestedKey × Addr × Value)} {kvs : List (D × D)} (ok : HOk P w H h) (hF : Ex F H) (e : H a = some (NDo w a xs)) (nd : (xs.map (·.1)).Nodup) (r : RKs F xs kvs) : h.DictOfH (nestedKind P w) a xs := by
  obtain ⟨⟨o, es, ep, h1, h2, h3, h4⟩, _, _⟩ := (show ObjOk P w H h a (NDo w a xs) from ok a _ e)
  refine ⟨o, es, ep, h1, h2, h3, h4, ?_, nd⟩
  have all : ∀ {xs : List (NestedKey × Addr × Value)} {kvs : List (D × D)}, RKs F xs kvs → ∀ x ∈ xs, (nestedKind P w).is h x.1 x.2.1 := by
    intro xs kvs r
    induction r with
    | nil => intro x hx; exact nomatch hx
    | @cons p q ps qs hq t ih =>
      intro x hx
      rcases List.mem_cons.mp hx with e | hx
      · subst e
        refine ⟨?_, hq.d⟩
        rw [hq.k]
        exact key_is ok _ _ _ hq.i (Rp.mono hF _ _ hq.a) rfl
      · exact ih x hx
  exact all r
theorem ndo_ok {P : Program} {w : World} {H : Hp} {h : Heap} {a : Addr} {xs : List (NestedKey × Addr × Value)} (d : ∃ o es ep, h.get? a = some o ∧ o.ExactDict ∧ o.data = .dict es ep ∧ es.toList = xs.map fun x => (⟨x.1.hash w, .ref x.2.1, x.2.2⟩ : DictEntry)) : ObjOk P w H h a (NDo w a xs) :=
  ⟨d, let ⟨o, _, _, h1, _⟩ := d; ⟨o, h1⟩, fun h1 h2 ⟨o, es, ep, e1, e2⟩ k => ⟨o, es, ep, k o e1, e2⟩⟩
structure TupKey (k : D) : Prop where
  t : ∃ xs, k = .tup xs
  i : isKey k = true
  d : (toKey k).depth ≤ 8
/-! ### {} -/
def tDNew (G : Ctx) : TE := fun _ H Q => ∀ p, H p = none → (p == sysModules) = false → Q (.ref p) (upd H p (NDo G.w p []))
theorem pe_dnew {X : Cx} {G : Ctx} {pos : Pos} (hw : X.w = G.w) : PE X (.Dict [] [] pos) (tDNew G) := ⟨fun pins s σ H Q I h => by
  unfold tDNew at h
  refine wpAny_Dict_empty ⟨.ref s.heap.objs.size, _, I.laid (a := s.heap.objs.size) (o := NDo X.w s.heap.objs.size []) (t' := s.toks) (fun _ _ q => Heap.get?_push_of_some _ q) (Nat.le_refl _) (ndo_ok ⟨_, #[], 0, Heap.get?_push_size _ rfl, ⟨rfl, rfl, rfl⟩, rfl, rfl⟩), rfl, ?_⟩
  have := h _ (I.hok.fresh (Nat.le_refl _)) (beq_eq_false_iff_ne.mpr (Ne.symm (Nat.ne_of_lt I.big)))
  rw [show G.w = X.w from hw.symm] at this
  exact this⟩
theorem ev_dnew {G : Ctx} {W : WX} {ds : DS} {m : Mu} {R : DV → Mu → Prop} {XR : Tag → Mu → Prop} (h : ∀ a, m a = none → R (.r a) (mset m a (.dic []))) : EvD G W (tDNew G) ds m R XR := fun σ H Q s r p x a ha hs => by
  have ma := s.free ha
  obtain ⟨s2, t2⟩ := s.put (p := a) (o := NDo G.w a []) (x := .dic []) (by rw [fz_none ma]; exact ha) ⟨[], upd_same, hs, List.nodup_nil, .nil⟩
  exact p _ _ (.r a) _ t2 s2 rfl (h a ma)
/-! ### k in d, k not in d, d[k] -/
def inD : F2
  | .d k, .r a, m, R => ∃ kvs, m a = some (.dic kvs) ∧ TupKey k ∧ R (.d (.bl (dgetN kvs k).isSome)) m
  | _, _, _, _ => False
def notinD : F2
  | .d k, .r a, m, R => ∃ kvs, m a = some (.dic kvs) ∧ TupKey k ∧ R (.d (.bl (!(dgetN kvs k).isSome))) m
  | _, _, _, _ => False
def idxD : F2
  | .r a, .d k, m, R => ∃ kvs v, m a = some (.dic kvs) ∧ TupKey k ∧ dgetN kvs k = some v ∧ R (.d v) m
  | _, _, _, _ => False
section
variable {X : Cx} {G : Ctx}
theorem room8 {A : Around} (h : A.units + 65 < cLine) {P : Program} {w : World} : (nestedKind P w).room A.in1 := by
  show A.units + 1 + 8 < cLine
  omega
theorem or_inD (hK : X.w = G.w) (hu : X.A.units + 65 < cLine) : OpR X (compareOp .In) (rD2 G inD) := by
  intro pins s σ H x y v u Q I rx ry h
  obtain ⟨dx, dy, m, R, s0, r1, r2, h, p⟩ := h
  unfold inD at h
  split at h
  · obtain ⟨kvs, e, hk, h⟩ := h
    obtain ⟨ks, rfl⟩ := hk.t
    cases r2
    cases (show u = Value.ref _ from ry)
    cases r1 with
    | tup h1 h2 =>
      cases (show v = Value.ref _ from rx)
      obtain ⟨xs, e1, e2, e3, e4⟩ := s0 _ _ e
      rw [← hK] at e1
      have dd := dic_of I.hok fz_ex e1 e3 e4
      refine wpAny_in_heap (room8 hu) ⟨key_is I.hok _ _ _ hk.i (Rp.tup (fz_ex _ _ h1) (RpL.mono fz_ex _ _ h2)) rfl, hk.d⟩ e2 dd ?_
      refine ⟨.bl _, H, I.tok _, rfl, ?_⟩
      have q : (atKey xs (toKey (.tup ks))).isSome = (dgetN kvs (.tup ks)).isSome := by
        rcases RKs.get (k := .tup ks) e4 with ⟨p, d, v, q1, q2, _⟩ | ⟨q1, q2⟩
        · rw [q1, q2]; rfl
        · rw [q1, q2]; rfl
      rw [q]
      exact p.here s0 (RV.dat (Rp.bl _)) h
  · exact h.elim
theorem or_notinD (hK : X.w = G.w) (hu : X.A.units + 65 < cLine) : OpR X (compareOp .NotIn) (rD2 G notinD) := by
  intro pins s σ H x y v u Q I rx ry h
  obtain ⟨dx, dy, m, R, s0, r1, r2, h, p⟩ := h
  unfold notinD at h
  split at h
  · obtain ⟨kvs, e, hk, h⟩ := h
    obtain ⟨ks, rfl⟩ := hk.t
    cases r2
    cases (show u = Value.ref _ from ry)
    cases r1 with
    | tup h1 h2 =>
      cases (show v = Value.ref _ from rx)
      obtain ⟨xs, e1, e2, e3, e4⟩ := s0 _ _ e
      rw [← hK] at e1
      have dd := dic_of I.hok fz_ex e1 e3 e4
      refine PyProof.Rows.wpAny_notIn_heap (room8 hu) ⟨key_is I.hok _ _ _ hk.i (Rp.tup (fz_ex _ _ h1) (RpL.mono fz_ex _ _ h2)) rfl, hk.d⟩ e2 dd ?_
      refine ⟨.bl _, H, I.tok _, rfl, ?_⟩
      have q : (atKey xs (toKey (.tup ks))).isSome = (dgetN kvs (.tup ks)).isSome := by
        rcases RKs.get (k := .tup ks) e4 with ⟨p, d, v, q1, q2, _⟩ | ⟨q1, q2⟩
        · rw [q1, q2]; rfl
        · rw [q1, q2]; rfl
      rw [q]
      exact p.here s0 (RV.dat (Rp.bl _)) h
  · exact h.elim
theorem ix_DD (hK : X.w = G.w) (hu : X.A.units + 65 < cLine) : IxR X (rD2 G idxD) := by
  intro ve se pins s σ H x y v u Q I rx ry h hsub
  obtain ⟨dx, dy, m, R, s0, r1, r2, h, p⟩ := h
  unfold idxD at h
  split at h
  · obtain ⟨kvs, vv, e, hk, hg, h⟩ := h
    obtain ⟨ks, rfl⟩ := hk.t
    cases r1
    cases (show v = Value.ref _ from rx)
    cases r2 with
    | tup h1 h2 =>
      cases (show u = Value.ref _ from ry)
      obtain ⟨xs, e1, e2, e3, e4⟩ := s0 _ _ e
      rw [← hK] at e1
      have dd := dic_of I.hok fz_ex e1 e3 e4
      rcases RKs.get (k := .tup ks) e4 with ⟨q, d, v, q1, q2, q3, q4⟩ | ⟨q1, q2⟩
      · rw [hg] at q2
        cases q2
        refine PyProof.Rows.subscriptTail_builtinR (x := q.2) dd.typeIs PySem.F.slot_dict_getitem.lookup (wpAny_getItem_heap (room8 hu) ⟨key_is I.hok _ _ _ hk.i (Rp.tup (fz_ex _ _ h1) (RpL.mono fz_ex _ _ h2)) rfl, hk.d⟩ dd q1 ?_) hsub
        exact ⟨rfl, v, H, I.tok _, q4, p.here s0 (RV.dat q3) h⟩
      · rw [q2] at hg
        cases hg
  · exact h.elim
end
/-! ### d[k] = v -/
def sDSet (G : Ctx) (to ti tv : TE) : TS := fun D σ H => tv σ H fun y H1 => to σ H1 fun x H2 => ti σ H2 fun i H3 => ∃ a b xs k, x = .ref a ∧ i = .ref b ∧ H3 a = some (NDo G.w a xs) ∧ (xs.map (·.1)).Nodup ∧ xs.length ≤ sizeLine ∧ (∃ F kvs d, Ex F H3 ∧ F a = none ∧ RKs F xs kvs ∧ k = toKey d ∧ isKey d = true ∧ k.depth ≤ 8 ∧ Rp F (.ref b) d) ∧
  ∀ u, RelV y u → ((storedH xs k b u).map (·.1)).Nodup → D.nx σ (upd H3 a (NDo G.w a (storedH xs k b u)))
theorem ps_dset {X : Cx} {G : Ctx} {o i value : Expr} {pos pos' : Pos} {to ti tv : TE} (hw : X.w = G.w) (hu : X.A.units + 65 < cLine) (ho : PE X o to) (hi : PE X i ti) (hv : PE X value tv) (hs : swapsWith value (some (.Subscript o i pos')) pos.line X.env = pure false := by rfl) : PS X (.Assign [.Subscript o i pos'] value pos) (sDSet G to ti tv) := by
  refine ⟨fun pins s σ H D I h => ?_⟩
  refine wpAny_Assign_Subscript (thn (hv.run pins s σ H _ I h) fun r s1 ⟨v, H1, I1, rv, q1⟩ => thn (ho.run pins s1 σ H1 _ I1 q1) fun u s2 ⟨x, H2, I2, rx, q2⟩ => thn (hi.run pins s2 σ H2 _ I2 q2) fun iv s3 ⟨y, H3, I3, ry, a, b, xs, k, ex, ey, e1, nd, hz, ⟨F, kvs, d, f1, f2, f3, f4, f5, f6, f7⟩, q3⟩ => ?_) hs
  subst ex ey f4
  obtain rfl : u = Value.ref a := rx
  obtain rfl : iv = Value.ref b := ry
  rw [← hw] at e1
  have dd := dic_of I3.hok f1 e1 nd f3
  refine wpAny_setItem_heap (hsz := hz) (room8 hu) ⟨key_is I3.hok _ _ _ f5 (Rp.mono f1 _ _ f7) rfl, f6⟩ dd fun h' dd' hs => ?_
  obtain ⟨q, es, ep, hq, h2, h3, h4, _, h5⟩ := dd'
  refine ⟨σ, _, d_write I3 (by rw [e1]; exact True.intro) hs ⟨q, hq⟩ (ndo_ok ⟨q, es, ep, hq, h2, h3, h4⟩), ?_⟩
  rw [hw]
  exact q3 r rv h5
theorem st_dset {G : Ctx} {W : WX} {ds : DS} {m : Mu} {N : EndsD} {XS : Tag → DS → Mu → Prop} {to ti tv : TE} (h : EvD G W tv ds m (fun v m1 => EvD G W to ds m1 (fun o m2 => EvD G W ti ds m2 (fun i m3 => ∃ a k x kvs, o = .r a ∧ i = .d k ∧ v = .d x ∧ m3 a = some (.dic kvs) ∧ TupKey k ∧ kvs.length ≤ 16000000 ∧ N.nx ds (mset m3 a (.dic (dputN kvs k x)))) (fun t m1 => XS t ds m1)) (fun t m1 => XS t ds m1)) (fun t m1 => XS t ds m1)) : StD G W (sDSet G to ti tv) ds m N XS := fun σ H E s r p =>
  h σ H _ s r (fun v H1 d m1 t1 s1 r1 q1 => q1 σ H1 _ s1 (r.mono t1) (fun o H2 e m2 t2 s2 r2 q2 => q2 σ H2 _ s2 (r.mono (t1.trans t2)) (fun iv H3 f m3 t3 s3 r3 ⟨a, k, x, kvs, e1, e2, e3, em, hk, hz, q3⟩ => by
    subst e1 e2 e3
    obtain ⟨ks, rfl⟩ := hk.t
    cases r2
    cases r3 with
    | tup h1 h2 =>
      obtain ⟨xs, g1, g2, g3, g4⟩ := s3 _ _ em
      have hb : Rp (fz H3 m3) (.ref _) (.tup ks) := Rp.tup h1 h2
      refine ⟨a, _, xs, toKey (.tup ks), rfl, rfl, g1, g3, by rw [g4.len]; exact Nat.le_trans hz (by decide), ⟨fz H3 m3, kvs, .tup ks, fz_ex, fz_some em, g4, rfl, hk.i, hk.d, hb⟩, fun u ru nd => ?_⟩
      have r1' : Rp (fz H3 m3) v x := (r1.mono t2).mono t3
      obtain ⟨s4, t4⟩ := s3.put (p := a) (o := NDo G.w a (storedH xs (toKey (.tup ks)) _ u)) (x := .dic (dputN kvs (.tup ks) x)) (fz_some em) ⟨_, upd_same, g2, nd, g4.put hk.i hk.d hb r1' ru⟩
      have t14 := ((t1.trans t2).trans t3).trans t4
      exact p.nx _ _ _ _ t14 s4 (r.mono t14) q3) ((p.x r).tr (t1.trans t2))) ((p.x r).tr t1)) (p.x r)
/-! ### comprehensions whose turns change the store -/
theorem ev_lcS {G : Ctx} {W : WX} {ds : DS} {m : Mu} {R : DV → Mu → Prop} {XR : Tag → Mu → Prop} {wi : TI} {g : TG} {tt : TT} {te : TE} {vs : List Nat} (h : EvI G W wi ds m (fun xs gd m1 => ∀ Dn, m1 Dn = none → ∃ P : Nat → List D → Mu → Prop, P 0 [] (mset m1 Dn (.lst [])) ∧ (∀ i l M, P i l M → M Dn = some (.lst l) ∧ gd M ∧ l.length ≤ 50000) ∧
      (∀ i x l M, xs[i]? = some x → P i l M → ∃ ds2, TgRun G.K vs g x (wipeD ds vs) ds2 ∧ EvT G WF tt ds2 M (fun b M3 => if b = true then EvD G WF te ds2 M3 (fun y M4 => ∃ z, y = .d z ∧ M4 Dn = some (.lst l) ∧ P (i + 1) (l ++ [z]) (mset M4 Dn (.lst (l ++ [z])))) XF else P (i + 1) l M3) XF) ∧
      (∀ l M, P xs.length l M → R (.r Dn) M)) XR) : EvD G W (tLc wi g tt te vs) ds m R XR := fun σ H Q s r p x =>
  h σ H _ s r (fun J H1 m1 xs gd good t1 s1 it g1 hh Dn hD => by
    have mD : m1 Dn = none := s1.free hD
    obtain ⟨P, hP0, hP1, hP2, hP3⟩ := hh Dn mD
    have fD : fz H1 m1 Dn = none := by rw [fz_none mD]; exact hD
    obtain ⟨s2, t2⟩ := s1.put (p := Dn) (o := .lst []) (x := .lst []) fD ⟨[], upd_same, .nil⟩
    refine ⟨fun i k H' => k = xs.length - i ∧ i ≤ xs.length ∧ ∃ l M, P i l M ∧ S0 G H' M ∧ Tr H m H' M ∧ good H' M,
      ⟨xs.length, by simp, Nat.zero_le _, [], _, hP0, s2, t1.trans t2, it.keep _ _ _ _ t2 g1 (hP1 _ _ _ hP0).2.1⟩, ?_⟩
    rintro i k H' ⟨rfl, hi, l, M, hP, s', t', g'⟩
    by_cases hlt : i < xs.length
    · refine .inr ⟨it.go i H' _ s' g' hlt, fun H2 => ∃ l M, P (i + 1) l M ∧ S0 G H2 M ∧ Tr H m H2 M ∧ good H2 M, fun H2 q => ⟨xs.length - (i + 1), by omega, rfl, hlt, q⟩, fun xv H2 y => ?_⟩
      obtain ⟨rfl, d, ed, rd⟩ := it.yld i H' _ xv H2 s' g' y hlt
      obtain ⟨ds2, tg, ev2⟩ := hP2 i d l M ed hP
      have fin : ∀ (σ3 : L2.St) (ds3 : DS) (_ : REnv G (fz H2 M) σ3 ds3) (_ : EvT G WF tt ds3 M (fun b M3 => if b = true then EvD G WF te ds3 M3 (fun y M4 => ∃ z, y = .d z ∧ M4 Dn = some (.lst l) ∧ P (i + 1) (l ++ [z]) (mset M4 Dn (.lst (l ++ [z])))) XF else P (i + 1) l M3) XF),
          tt σ3 H2 fun b H3 => if b = true then te σ3 H3 fun y H4 => ∃ acc, H4 Dn = some (.lst acc) ∧ acc.length < sizeLine ∧ (∃ l M, P (i + 1) l M ∧ S0 G (upd H4 Dn (.lst (acc ++ [y]))) M ∧ Tr H m (upd H4 Dn (.lst (acc ++ [y]))) M ∧ good (upd H4 Dn (.lst (acc ++ [y]))) M) else
            (∃ l M, P (i + 1) l M ∧ S0 G H3 M ∧ Tr H m H3 M ∧ good H3 M) := fun σ3 ds3 r3 ev => by
        refine ev σ3 H2 _ s' r3 (fun b H3 M3 t3 s3 q3 => ?_) (fun _ _ _ _ _ _ z => z.elim)
        cases b with
        | true =>
          rw [if_pos rfl] at q3 ⊢
          refine q3 σ3 H3 _ s3 (r3.mono t3) (fun yv H4 dy M4 t4 s4 r4 ⟨z, ez, hM4, hPn⟩ => ?_) (fun _ _ _ _ _ _ z => z.elim)
          subst ez
          obtain ⟨acc, a1, a2⟩ := s4 Dn _ hM4
          obtain ⟨s5, t5⟩ := s4.put (p := Dn) (o := .lst (acc ++ [yv])) (x := .lst (l ++ [z])) (fz_some hM4) ⟨_, upd_same, a2.app (RpL.one r4)⟩
          exact ⟨acc, a1, sz_lt (by rw [a2.length]; have := (hP1 _ _ _ hP).2.2; omega), _, _, hPn, s5, ((t'.trans t3).trans t4).trans t5, it.keep _ _ _ _ ((t3.trans t4).trans t5) g' (hP1 _ _ _ hPn).2.1⟩
        | false =>
          rw [if_neg Bool.false_ne_true] at q3 ⊢
          exact ⟨_, _, q3, s3, t'.trans t3, it.keep _ _ _ _ t3 g' (hP1 _ _ _ q3).2.1⟩
      have rw0 : REnv G (fz H2 M) (L2.wipe σ vs) (wipeD ds vs) := (r.mono t').wipe vs
      cases tg with
      | name hj => exact ⟨wipe_set hj _, fin _ _ (rw0.set _ rd) ev2⟩
      | pair hi hj =>
        cases rd with
        | tup h1 h2 =>
          cases h2 with
          | cons a1 h2 =>
            cases h2 with
            | cons a2 h2 =>
              cases h2
              exact ⟨_, _, rfl, SqT.of (fz_ex _ _ h1), rfl, _, _, rfl, _, _, rfl, rfl, wipe_set2 hi hj _ _, fin _ _ ((rw0.set _ (RV.dat a1)).set _ (RV.dat a2)) ev2⟩
    · have e : i = xs.length := by omega
      subst e
      exact .inl ⟨it.stop _ H' _ s' g' (Nat.le_refl _), p _ H' (.r Dn) M t' s' rfl (hP3 l M hP)⟩) x
/-! ### memos -/
theorem nodup_len : ∀ (N : Nat) (l : List Nat), l.Nodup → (∀ x ∈ l, x < N) → l.length ≤ N
  | 0, l, _, h => by
    cases l with
    | nil => simp
    | cons x _ => exact absurd (h x List.mem_cons_self) (Nat.not_lt_zero _)
  | N + 1, l, nd, h => by
    by_cases hm : N ∈ l
    · have ih := nodup_len N (l.erase N) (nd.erase N) fun x hx => by
        have h1 := h x (List.mem_of_mem_erase hx)
        have h2 : x ≠ N := fun e => by
          rw [e] at hx
          exact (List.Nodup.mem_erase_iff nd).mp hx |>.1 rfl
        omega
      rw [List.length_erase_of_mem hm] at ih
      omega
    · have ih := nodup_len N l nd fun x hx => by
        have h1 := h x hx
        have h2 : x ≠ N := fun e => hm (by rw [← e]; exact hx)
        omega
      omega
/-- a dict that remembers: of each key that counts, what it should be -/
structure Memo {K : Type} (key : K → D) (val : K → D) (ok good : K → Prop) (kvs : List (D × D)) : Prop where
  nd : (kvs.map fun p => toKey p.1).Nodup
  each : ∀ p ∈ kvs, ∃ k, ok k ∧ p.1 = key k ∧ (good k → p.2 = val k)
section
variable {K : Type} {key val : K → D} {ok good good' : K → Prop} {kvs : List (D × D)}
theorem Memo.nil : Memo key val ok good [] := ⟨List.nodup_nil, fun _ h => nomatch h⟩
theorem Memo.weaken (h : Memo key val ok good kvs) (w : ∀ k, ok k → good' k → good k) : Memo key val ok good' kvs := ⟨h.nd, fun p hp => let ⟨k, h1, h2, h3⟩ := h.each p hp; ⟨k, h1, h2, fun g => h3 (w k h1 g)⟩⟩
theorem dget_mem {k v : D} (h : dgetN kvs k = some v) : ∃ p ∈ kvs, toKey p.1 = toKey k ∧ p.2 = v := by
  unfold dgetN at h
  obtain ⟨p, hp, rfl⟩ := Option.map_eq_some_iff.mp h
  exact ⟨p, List.mem_of_find?_eq_some hp, by have := List.find?_some hp; exact of_decide_eq_true this, rfl⟩
theorem Memo.get (h : Memo key val ok good kvs) (inj : ∀ k k', ok k → ok k' → toKey (key k) = toKey (key k') → k = k') {k : K} (hk : ok k) (hg : good k) {v : D} (e : dgetN kvs (key k) = some v) : v = val k := by
  obtain ⟨p, hp, h1, rfl⟩ := dget_mem e
  obtain ⟨k', g1, g2, g3⟩ := h.each p hp
  rw [g2] at h1
  have := inj k' k g1 hk h1
  subst this
  exact g3 hg
theorem dget_none {k : D} (h : dgetN kvs k = none) : ∀ p ∈ kvs, toKey p.1 ≠ toKey k := fun p hp e => by
  unfold dgetN at h
  rw [Option.map_eq_none_iff, List.find?_eq_none] at h
  exact h p hp (decide_eq_true e)
theorem Memo.putV (h : Memo key val ok good kvs) (inj : ∀ k k', ok k → ok k' → toKey (key k) = toKey (key k') → k = k') {k : K} (hk : ok k) {v : D} (hv : good' k → v = val k) (w : ∀ k', ok k' → good' k' → k' ≠ k → good k') : Memo key val ok good' (dputN kvs (key k) v) := by
  unfold dputN
  cases e : dgetN kvs (key k) with
  | none =>
    refine ⟨?_, fun p hp => ?_⟩
    · show (List.map _ (kvs ++ [(key k, v)])).Nodup
      rw [List.map_append, List.nodup_append]
      refine ⟨h.nd, by simp, fun a ha b hb => ?_⟩
      obtain ⟨p, hp, rfl⟩ := List.mem_map.mp ha
      simp at hb
      subst hb
      exact dget_none e p hp
    · rcases List.mem_append.mp (show p ∈ kvs ++ [(key k, v)] from hp) with z | z
      · obtain ⟨k', g1, g2, g3⟩ := h.each p z
        refine ⟨k', g1, g2, fun g => g3 (w k' g1 g fun e' => ?_)⟩
        subst e'
        exact dget_none e p z (by rw [g2])
      · rw [List.mem_singleton.mp z]
        exact ⟨k, hk, rfl, hv⟩
  | some v0 =>
    refine ⟨?_, fun p hp => ?_⟩
    · show (List.map _ (List.map _ kvs)).Nodup
      rw [List.map_map]
      have : (kvs.map ((fun p => toKey p.1) ∘ fun p => if toKey p.1 = toKey (key k) then (p.1, v) else p)) = kvs.map fun p => toKey p.1 := by
        apply List.map_congr_left
        intro p _
        show toKey (if toKey p.1 = toKey (key k) then (p.1, v) else p).1 = _
        split <;> rfl
      rw [this]
      exact h.nd
    · obtain ⟨q, hq, rfl⟩ := List.mem_map.mp (show p ∈ List.map _ kvs from hp)
      obtain ⟨k', g1, g2, g3⟩ := h.each q hq
      by_cases c : toKey q.1 = toKey (key k)
      · rw [if_pos c]
        have : k' = k := inj k' k g1 hk (by rw [← g2]; exact c)
        subst this
        exact ⟨k', g1, g2, hv⟩
      · rw [if_neg c]
        exact ⟨k', g1, g2, fun g => g3 (w k' g1 g fun e' => c (by rw [g2, e']))⟩
theorem dget_put {k v : D} : dgetN (dputN kvs k v) k = some v := by
  unfold dputN
  cases e : dgetN kvs k with
  | none =>
    show dgetN (kvs ++ [(k, v)]) k = some v
    unfold dgetN
    rw [List.find?_append]
    unfold dgetN at e
    rw [Option.map_eq_none_iff] at e
    rw [e]
    simp
  | some v0 =>
    show dgetN (kvs.map fun p => if toKey p.1 = toKey k then (p.1, v) else p) k = some v
    have : ∀ kvs : List (D × D), (dgetN kvs k).isSome = true → dgetN (kvs.map fun p => if toKey p.1 = toKey k then (p.1, v) else p) k = some v := by
      intro kvs
      induction kvs with
      | nil => intro z; cases z
      | cons p ps ih =>
        intro z
        rw [List.map_cons]
        by_cases c : toKey p.1 = toKey k
        · rw [if_pos c]
          unfold dgetN
          rw [List.find?_cons_of_pos (by exact decide_eq_true c)]
          rfl
        · rw [if_neg c]
          unfold dgetN at z ih ⊢
          rw [List.find?_cons_of_neg (by rw [decide_eq_true_eq]; exact c)] at z ⊢
          exact ih z
    exact this kvs (by rw [e]; rfl)
theorem Memo.len (h : Memo key val ok good kvs) {code : K → Nat} {N : Nat} (hb : ∀ k, ok k → code k < N) (hc : ∀ k k', ok k → ok k' → code k = code k' → toKey (key k) = toKey (key k')) : kvs.length ≤ N := by
  have ex : ∃ ks : List K, kvs.map (·.1) = ks.map key ∧ ∀ k ∈ ks, ok k := by
    have : ∀ kvs : List (D × D), (∀ p ∈ kvs, ∃ k, ok k ∧ p.1 = key k ∧ (good k → p.2 = val k)) → ∃ ks : List K, kvs.map (·.1) = ks.map key ∧ ∀ k ∈ ks, ok k := by
      intro kvs
      induction kvs with
      | nil => exact fun _ => ⟨[], rfl, fun _ z => nomatch z⟩
      | cons p ps ih =>
        intro hh
        obtain ⟨ks, e, ho⟩ := ih fun q hq => hh q (List.mem_cons_of_mem _ hq)
        obtain ⟨k, h1, h2, _⟩ := hh p List.mem_cons_self
        refine ⟨k :: ks, by rw [List.map_cons, List.map_cons, e, h2], fun k' hk' => ?_⟩
        rcases List.mem_cons.mp hk' with rfl | z
        · exact h1
        · exact ho k' z
    exact this kvs h.each
  obtain ⟨ks, e, ho⟩ := ex
  have nd : (ks.map fun k => toKey (key k)).Nodup := by
    have := h.nd
    rw [show (fun p : D × D => toKey p.1) = toKey ∘ (·.1) from rfl, ← List.map_map, e, List.map_map] at this
    exact this
  have nd2 : (ks.map code).Nodup := by
    clear e
    induction ks with
    | nil => exact List.nodup_nil
    | cons k ks ih =>
      rw [List.map_cons, List.nodup_cons] at nd ⊢
      refine ⟨fun z => ?_, ih (fun k' hk' => ho k' (List.mem_cons_of_mem _ hk')) nd.2⟩
      obtain ⟨k', hk', ek⟩ := List.mem_map.mp z
      exact nd.1 (List.mem_map.mpr ⟨k', hk', hc k' k (ho k' (List.mem_cons_of_mem _ hk')) (ho k List.mem_cons_self) ek⟩)
  have := nodup_len N _ nd2 fun x hx => by
    obtain ⟨k, hk, rfl⟩ := List.mem_map.mp hx
    exact hb k (ho k hk)
  rw [List.length_map] at this
  have e2 := congrArg List.length e
  rw [List.length_map, List.length_map] at e2
  omega
end
end Lb

/-! SmA: what the small helpers of a law do. -/
namespace Lb
open PySem L2
local macro_rules | `(tactic| walk_at "v") => `(tactic| ((with_reducible refine ev_var (d := ?dv) ?hv ?_); (case hv => exact rfl)))
local macro_rules | `(tactic| walk_at "f") => `(tactic| first
  | with_reducible refine f_in ?_
  | with_reducible refine f_notin ?_
  | with_reducible refine f_add_i ?_
  | with_reducible refine f_add_s ?_
  | with_reducible refine f_add_l ?_
  | with_reducible refine f_add_t ?_
  | with_reducible refine f_sub ?_
  | with_reducible refine f_mul_i ?_
  | with_reducible refine f_mul_l ?_
  | with_reducible refine f_mul_t ?_
  | with_reducible refine f_div ?_
  | with_reducible refine f_mod ?_
  | with_reducible refine f_pow ?_
  | with_reducible refine f_lt ?_
  | with_reducible refine f_le ?_
  | with_reducible refine f_gt ?_
  | with_reducible refine f_ge ?_
  | with_reducible refine f_eq_i ?_
  | with_reducible refine f_ne_i ?_
  | with_reducible refine f_eq_b ?_
  | with_reducible refine f_ne_b ?_
  | with_reducible refine f_is_n ?_
  | with_reducible refine f_isnot_n ?_
  | with_reducible refine f_is_i ?_
  | with_reducible refine f_isnot_i ?_
  | with_reducible refine f_is_b ?_
  | with_reducible refine f_isnot_b ?_
  | with_reducible refine f_is_s ?_
  | with_reducible refine f_isnot_s ?_
  | with_reducible refine f_is_l ?_
  | with_reducible refine f_isnot_l ?_
  | with_reducible refine f_is_t ?_
  | with_reducible refine f_isnot_t ?_
  | with_reducible refine f_is_r ?_
  | with_reducible refine f_isnot_r ?_
  | with_reducible refine f_is ?_
  | with_reducible refine f_isnot ?_
  | with_reducible refine f_neg ?_
  | with_reducible refine f_len_ml ?_
  | with_reducible refine f_len_mt ?_
  | with_reducible refine f_sum_l ?_
  | with_reducible refine f_sum_t ?_
  | with_reducible refine f_all ?_
  | with_reducible refine f_any ?_
  | with_reducible refine f_len_l ?_
  | with_reducible refine f_len_t ?_
  | with_reducible refine f_len_c ?_
  | with_reducible refine f_abs ?_
  | with_reducible refine f_min2 ?_
  | with_reducible refine f_max2 ?_
  | with_reducible refine f_list_l ?_
  | with_reducible refine f_list_t ?_
  | with_reducible refine f_tup_l ?_
  | with_reducible refine f_tup_t ?_
  | with_reducible refine f_int_i ?_
  | with_reducible refine f_int_b ?_
  | with_reducible refine f_sl_l ?_
  | with_reducible refine f_sl_t ?_
  | with_reducible refine f_tr_n ?_
  | with_reducible refine f_tr_b ?_
  | with_reducible refine f_tr_i ?_
  | with_reducible refine f_tr_l ?_
  | with_reducible refine f_tr_t ?_
  | with_reducible refine f_tr_c ?_)
local macro_rules | `(tactic| walk_at "w") => `(tactic| first
  | walk_at "v"
  | with_reducible refine ev_rev ?_
  | with_reducible refine ev_sset ?_
  | with_reducible refine ev_lcl ?_
  | with_reducible refine ev_lct ?_
  | with_reducible refine ev_lcs ?_
  | with_reducible refine ev_lc1 ?_
  | with_reducible refine ev_lc2 ?_
  | with_reducible refine st_forl ?_
  | with_reducible refine st_fort ?_
  | with_reducible refine st_fors ?_
  | with_reducible refine st_for1 ?_
  | with_reducible refine st_for2 ?_
  | with_reducible refine ex_bl ?_
  | with_reducible refine ex_in ?_
  | with_reducible refine ex_ls ?_
  | with_reducible refine ex_tu ?_
  | with_reducible refine ex_st ?_
  | with_reducible refine ex_d0 ?_
  | with_reducible refine ex_d1 ?_
  | with_reducible refine ex_d2 ?_
  | with_reducible refine ex_d3 ?_
  | with_reducible refine ex_d4 ?_
  | with_reducible refine ex_d5 ?_
  | with_reducible refine ex_d6 ?_
  | with_reducible refine ex_d7 ?_
  | with_reducible refine ex_d8 ?_
  | with_reducible refine m_and ?_
  | with_reducible refine i_t ?_
  | with_reducible refine i_f ?_
  | with_reducible refine i_nt ?_
  | with_reducible refine i_nf ?_
  | with_reducible refine ev_tup ?_
  | with_reducible refine ev_lst ?_
  | with_reducible refine ev_int ?_
  | with_reducible refine ea_cons ?_
  | with_reducible refine ea_nil ?_
  | with_reducible refine ev_op ?_
  | with_reducible refine st_seq ?_
  | with_reducible refine st_asg ?_
  | with_reducible refine ev_call ?_
  | with_reducible refine ev_cb ?_
  | with_reducible refine st_if ?_
  | with_reducible refine et_test ?_
  | with_reducible refine et_not ?_
  | with_reducible refine et_or ?_
  | with_reducible refine et_and ?_
  | with_reducible refine et_tru ?_
  | with_reducible refine et_yes ?_
  | with_reducible refine et_B ?_
  | with_reducible refine ev_chain ?_
  | with_reducible refine ev_chain3 ?_
  | with_reducible refine ev_un ?_
  | with_reducible refine ev_if ?_
  | with_reducible refine ev_bl ?_
  | with_reducible refine ev_non ?_
  | with_reducible refine ev_str ?_
  | with_reducible refine ev_andV ?_
  | with_reducible refine ev_orV ?_
  | with_reducible refine ev_notV ?_
  | with_reducible refine ev_isB ?_
  | with_reducible refine ev_isE ?_
  | with_reducible refine ev_sl2 ?_
  | with_reducible refine ev_slA ?_
  | with_reducible refine ev_slB ?_
  | with_reducible refine ev_bmL ?_
  | with_reducible refine ev_bmL0 ?_
  | with_reducible refine st_ret ?_
  | with_reducible refine st_drop ?_
  | with_reducible refine st_next ?_
  | with_reducible refine st_setL ?_
  | with_reducible refine st_asgG ?_
  | with_reducible refine st_raise ?_
  | with_reducible refine gt_name ?_
  | with_reducible refine gt_tup2 ?_
  | with_reducible refine gt_tup3 ?_
  | walk_at "f")
local macro_rules | `(tactic| walk_at "r") => `(tactic| repeat walk_at "w")

/-! ### the script -/
def cellN (ns : List Int) (k : Int) : Int := (ns[(k % (ns.length : Int)).toNat]?).getD 0
def mixN (ns : List Int) (k : Int) : Int :=
  let a := (cellN ns k + 104729 * (k + 1)) % 4294967291
  let b := a ^ 5 % 4294967279
  (b / 64 * 69621 + b) % 4294967231
theorem mixN_nn (ns : List Int) (k : Int) : 0 ≤ mixN ns k := Int.emod_nonneg _ (by decide)
theorem mixN_lt (ns : List Int) (k : Int) : mixN ns k < 4294967231 := Int.emod_lt_of_pos _ (by decide)
theorem mix_lt (ns : List Int) (k : Int) {z : Nat} (hz : 0 < z) : ∃ j : Nat, j < z ∧ mixN ns k % (z : Int) = (j : Int) := by
  have a0 := Int.emod_nonneg (mixN ns k) (b := (z : Int)) (by omega)
  have a1 := Int.emod_lt_of_pos (mixN ns k) (b := (z : Int)) (by omega)
  exact ⟨(mixN ns k % (z : Int)).toNat, by omega, by omega⟩
def S_law_cell : SpD := fun es m R _ => ∃ ns k, es = [.scr ns, .d (.int k)] ∧ 0 ≤ k ∧ R (.d (.int (cellN ns k))) m
def rd_law_cell (G : Ctx) (W : WX) : TS :=
  tSeq (tIfS (tTru G.K (tVar 0)) (tRet (tOp (rD2 G idxF) (tVar 0) (tOp (rD2 G modF) (tVar 1) (tCB (rDn G lenF) (tCons (tVar 0) (tNil)))))) (tNext))
  (tRet (tC (.int 0)))

theorem len_law_cell : ∀ es m R XR, S_law_cell es m R XR → es.length = 2 := by
  rintro es m R XR ⟨ns, k, rfl, _⟩
  rfl
theorem atI_mod {ns : List Int} {k : Int} (hn : ns ≠ []) : atI ns (k % (ns.length : Int)) = some (cellN ns k) := by
  have hp : 0 < ns.length := List.length_pos_iff.mpr hn
  have h1 : 0 ≤ k % (ns.length : Int) := Int.emod_nonneg _ (by omega)
  have h2 : k % (ns.length : Int) < ns.length := Int.emod_lt_of_pos _ (by omega)
  obtain ⟨j, hj⟩ := Int.eq_ofNat_of_zero_le h1
  unfold cellN
  rw [hj] at h2 ⊢
  have hl : j < ns.length := by omega
  have e : ns[j]? = some ns[j] := List.getElem?_eq_getElem hl
  rw [Int.toNat_natCast, e]
  exact atI_nat e
theorem sem_law_cell (G : Ctx) : BodyD G 2 (rd_law_cell G) S_law_cell := by
  rintro W es m R XR ⟨ns, k, rfl, hk, h⟩
  unfold rd_law_cell
  walk_at "r"
  cases ns with
  | nil => 
    refine i_f ?_
    walk_at "r"
    exact h
  | cons n ns =>
    refine i_t ?_
    walk_at "r"
    exact ⟨by simp, _, atI_mod (by simp), h⟩
def S_law_mix : SpD := fun es m R _ => ∃ ns k, es = [.scr ns, .d (.int k)] ∧ 0 ≤ k ∧ k ≤ 1000000 ∧ R (.d (.int (mixN ns k))) m
def rd_law_mix (G : Ctx) (W : WX) : TS :=
  tSeq (tAsg (tOp (rD2 G modF) (tOp (rD2 G addF) (tCallS (spL G S_law_cell) (WE W) (tCons (tVar 0) (tCons (tVar 1) (tNil)))) (tOp (rD2 G mulF) (tC (.int 104729)) (tOp (rD2 G addF) (tVar 1) (tC (.int 1))))) (tC (.int 4294967291))) (gName 2))
  (tSeq (tAsg (tOp (rD2 G modF) (tOp (rD2 G powF) (tVar 2) (tC (.int 5))) (tC (.int 4294967279))) (gName 2))
  (tRet (tOp (rD2 G modF) (tOp (rD2 G addF) (tOp (rD2 G mulF) (tOp (rD2 G divF) (tVar 2) (tC (.int 64))) (tC (.int 69621))) (tVar 2)) (tC (.int 4294967231)))))

theorem len_law_mix : ∀ es m R XR, S_law_mix es m R XR → es.length = 2 := by
  rintro es m R XR ⟨ns, k, rfl, _⟩
  rfl
theorem sem_law_mix (G : Ctx) : BodyD G 3 (rd_law_mix G) S_law_mix := by
  rintro W es m R XR ⟨ns, k, rfl, hk, hk2, h⟩
  unfold rd_law_mix
  walk_at "r"
  refine ⟨ns, k, rfl, hk, ?_⟩
  walk_at "r"
  refine ⟨.inl (by omega), ?_⟩
  walk_at "r"
  refine ⟨by decide, ?_⟩
  walk_at "r"
  have a1 : 0 ≤ (cellN ns k + 104729 * (k + 1)) % 4294967291 := Int.emod_nonneg _ (by decide)
  have a2 : (cellN ns k + 104729 * (k + 1)) % 4294967291 < 4294967291 := Int.emod_lt_of_pos _ (by decide)
  refine ⟨⟨by decide, by decide, by omega⟩, ?_⟩
  walk_at "r"
  refine ⟨by decide, ?_⟩
  walk_at "r"
  refine ⟨⟨by decide, by decide⟩, ?_⟩
  walk_at "r"
  refine ⟨.inr ⟨by decide, by decide⟩, ?_⟩
  walk_at "r"
  refine ⟨by decide, ?_⟩
  exact h
/-! ### games -/
def GameOk (n l : Int) : Prop := 1 ≤ n ∧ n ≤ 64 ∧ 0 ≤ l ∧ l ≤ 4
instance (n l : Int) : Decidable (GameOk n l) := by unfold GameOk; infer_instance
def S_look_game : SpD := fun es m R XR => ∃ n l : Int, es = [.d (.int n), .d (.int l)] ∧ (GameOk n l → R (.d .non) m) ∧ (¬ GameOk n l → XR .game m)
def rd_look_game (G : Ctx) (W : WX) : TS :=
  tIfS (tOr (tNot (tTest (tChain (rD2 G leF) (rD2 G leF) (tC (.int 1)) (tVar 0) (tC (.int 64))))) (tNot (tTest (tChain (rD2 G leF) (rD2 G leF) (tC (.int 0)) (tVar 1) (tC (.int 4)))))) (tRaise W (G.has .game) (G.ex .game)) (tNext)

theorem len_look_game : ∀ es m R XR, S_look_game es m R XR → es.length = 2 := by
  rintro es m R XR ⟨ns, k, rfl, _⟩
  rfl
theorem sem_look_game (G : Ctx) : BodyD G 2 (rd_look_game G) S_look_game := by
  rintro W es m R XR ⟨n, l, rfl, h1, h2⟩
  unfold rd_look_game
  walk_at "r"
  refine i_d (fun a1 => ?_) (fun a1 => ?_)
  · walk_at "r"
    refine i_nd (fun a2 => ?_) (fun a2 => ?_)
    · walk_at "r"
      exact h2 fun q => a2 q.2.1
    · walk_at "r"
      refine i_d (fun a3 => ?_) (fun a3 => ?_)
      · walk_at "r"
        refine i_nd (fun a4 => ?_) (fun a4 => ?_)
        · walk_at "r"
          exact h2 fun q => a4 q.2.2.2
        · walk_at "r"
          exact h1 ⟨a1, a2, a3, a4⟩
      · walk_at "r"
        exact h2 fun q => a3 q.2.2.1
  · walk_at "r"
    exact h2 fun q => a1 q.1
/-- a question: things, rising -/
def QOk (n : Int) (q : List Int) : Prop := q.Pairwise (· < ·) ∧ ∀ k ∈ q, 0 ≤ k ∧ k < n
instance (n : Int) (q : List Int) : Decidable (QOk n q) := by unfold QOk; infer_instance
def S_look_question : SpD := fun es m R XR => ∃ (n : Int) (q : List Int) (x : DV), es = [.d (.int n), x] ∧ vw m x = some (dInts q) ∧ q.length < 64 ∧ (QOk n q → R (.d .non) m) ∧ (¬ QOk n q → XR .question m)
def rd_look_question (G : Ctx) (W : WX) : TS :=
  tIfS (tOr (tTest (tOp (rD2 G neF) (tVar 1) (tSset G G.w (tCons (tVar 1) (tNil))))) (tAnd (tTru G.K (tVar 1)) (tNot (tTest (tChain3 (rD2 G leF) (rD2 G leF) (rD2 G ltF) (tC (.int 0)) (tOp (rD2 G idxF) (tVar 1) (tC (.int 0))) (tOp (rD2 G idxF) (tVar 1) (tUn (rD1 G negF) (tC (.int 1)))) (tVar 0)))))) (tRaise W (G.has .question) (G.ex .question)) (tNext)

theorem len_look_question : ∀ es m R XR, S_look_question es m R XR → es.length = 2 := by
  rintro es m R XR ⟨ns, k, x, rfl, _⟩
  rfl
theorem sset_self {q : List Int} (h : q.Pairwise (· < ·)) : sset q = q := pw_unique (sset_pw q) h fun _ => mem_sset
theorem pw_last : ∀ {x : Int} {xs : List Int} {z : Int}, (x :: xs).Pairwise (· < ·) → (x :: xs).getLast? = some z → ∀ k ∈ x :: xs, x ≤ k ∧ k ≤ z
  | x, [], z, _, hz => fun k hk => by
    simp at hz hk
    omega
  | x, y :: ys, z, h, hz => fun k hk => by
    obtain ⟨h1, h2⟩ := List.pairwise_cons.mp h
    have hz2 : (y :: ys).getLast? = some z := by rw [List.getLast?_cons_cons] at hz; exact hz
    have ih := pw_last h2 hz2
    rcases List.mem_cons.mp hk with rfl | hk
    · have a := h1 y List.mem_cons_self
      have b := (ih y List.mem_cons_self).2
      omega
    · have a := h1 k hk
      have b := (ih k hk).2
      omega
theorem sem_look_question (G : Ctx) : BodyD G 2 (rd_look_question G) S_look_question := by
  rintro W es m R XR ⟨n, q, x, rfl, hx, hz, h1, h2⟩
  unfold rd_look_question
  walk_at "r"
  refine ⟨q, hx, hz, ?_⟩
  refine v_ne hx rfl sh_dInts sh_dInts ?_
  walk_at "r"
  rw [eqD_ints]
  by_cases e : q = sset q
  · rw [decide_eq_true e]
    refine i_f ?_
    walk_at "r"
    refine v_tru hx ?_
    have pw : q.Pairwise (· < ·) := by rw [e]; exact sset_pw q
    cases q with
    | nil =>
      refine i_f ?_
      walk_at "r"
      exact h1 ⟨List.Pairwise.nil, fun k hk => nomatch hk⟩
    | cons y ys =>
      refine i_t ?_
      walk_at "r"
      refine v_idx hx (z := .int y) (atI_nat (j := 0) rfl) ?_
      walk_at "r"
      refine i_d (fun a1 => ?_) (fun a1 => ?_)
      · walk_at "r"
        have el : (y :: ys).getLast? = some ((y :: ys).getLast (by simp)) := List.getLast?_eq_some_getLast (by simp)
        have es : y :: ys = (y :: ys).dropLast ++ [(y :: ys).getLast (by simp)] := (List.dropLast_concat_getLast (by simp)).symm
        refine v_idx hx (z := .int ((y :: ys).getLast (by simp))) ?_ ?_
        · have := atI_map (f := D.int) (atI_last (y :: ys).dropLast ((y :: ys).getLast (by simp)))
          rw [← es] at this
          exact this
        generalize hl : (y :: ys).getLast (by simp) = z at el
        have bd := pw_last pw el
        have zin : z ∈ y :: ys := by rw [← hl]; exact List.getLast_mem _
        walk_at "r"
        refine i_d (fun a2 => ?_) (fun a2 => ?_)
        · walk_at "r"
          refine i_nd (fun a3 => ?_) (fun a3 => ?_)
          · walk_at "r"
            exact h2 fun g => a3 (g.2 z zin).2
          · walk_at "r"
            exact h1 ⟨pw, fun k hk => by have := bd k hk; omega⟩
        · walk_at "r"
          exact absurd (bd z zin).1 a2
      · walk_at "r"
        exact h2 fun g => a1 (g.2 y List.mem_cons_self).1
  · rw [decide_eq_false e]
    refine i_t ?_
    walk_at "r"
    exact h2 fun g => e (sset_self g.1).symm
/-! ### errors told -/
def tagS : Tag → Str
  | .counts => Str.ofString "counts"
  | .game => Str.ofString "game"
  | .plan => Str.ofString "plan"
  | .question => Str.ofString "question"
  | .liar => Str.ofString "liar"
  | .text => Str.ofString "text"
  | .row => Str.ofString "row"
end Lb

/-! Ma51: things in a row, halved: the numbers. -/
namespace Lb
open PySem L2
abbrev Told := List (Option Nat)
def stO (l : Nat) (b : Bool) : Option Nat → Option Nat
  | none => none
  | some k => if b = true then (if k < l then some (k + 1) else none) else some k
def askN (l : Nat) (p : Int) (ans : Bool) (t : Told) : Told := (List.range t.length).map fun i => stO l (decide (((i : Nat) : Int) < p) != ans) (t.getD i none)
def leftT (t : Told) : Nat := (t.filter (·.isSome)).length
def TOk (l : Nat) (t : Told) : Prop := ∀ k, some k ∈ t → k ≤ l
def phi (l : Nat) : Option Nat → Nat
  | none => 0
  | some k => l + 1 - k
theorem phi_some (l k : Nat) : phi l (some k) = l + 1 - k := rfl
theorem phi_three {l : Nat} (o : Option Nat) (h : l ≤ 2) : phi l o ≤ 3 := by
  cases o with
  | none => exact Nat.zero_le _
  | some k => rw [phi_some]; omega
def Phi (l : Nat) (t : Told) : Nat := ((List.range t.length).map fun i => phi l (t.getD i none)).sum
def placesN (t : Told) : List Int := (List.range (t.length - 1)).map fun i => 1 + ((i : Nat) : Int)
def canN (l : Nat) : Nat → Told → Option Int
  | 0, t => if leftT t ≤ 1 then some (-1) else none
  | n + 1, t => if leftT t ≤ 1 then some (-1) else (placesN t).find? fun p => (canN l n (askN l p true t)).isSome && (canN l n (askN l p false t)).isSome
theorem ask_len (l : Nat) (p : Int) (ans : Bool) (t : Told) : (askN l p ans t).length = t.length := by unfold askN; simp
theorem ask_get {l : Nat} {p : Int} {ans : Bool} {t : Told} {i : Nat} (h : i < t.length) : (askN l p ans t).getD i none = stO l (decide ((i : Int) < p) != ans) (t.getD i none) := by
  unfold askN
  rw [List.getD_eq_getElem?_getD, List.getElem?_map, List.getElem?_range h]
  rfl
theorem told_ext {t u : Told} (hl : t.length = u.length) (h : ∀ i, i < t.length → t.getD i none = u.getD i none) : t = u := by
  apply List.ext_getElem hl
  intro i h1 h2
  have := h i h1
  rw [List.getD_eq_getElem?_getD, List.getD_eq_getElem?_getD, List.getElem?_eq_getElem h1, List.getElem?_eq_getElem h2] at this
  exact this
theorem getD_memT {t : Told} {i k : Nat} (h : t.getD i none = some k) : some k ∈ t := by
  rw [List.getD_eq_getElem?_getD] at h
  cases e : t[i]? with
  | none => rw [e] at h; cases h
  | some o =>
    rw [e] at h
    have h : o = some k := h
    rw [← h]
    exact List.mem_of_getElem? e
theorem ask_ok {l : Nat} {p : Int} {ans : Bool} {t : Told} (h : TOk l t) : TOk l (askN l p ans t) := by
  intro k hk
  obtain ⟨i, hi, e⟩ := List.mem_map.mp hk
  cases e2 : t.getD i none with
  | none => rw [e2] at e; cases e
  | some j =>
    rw [e2] at e
    have hj := h j (getD_memT e2)
    unfold stO at e
    dsimp only at e
    split at e
    · split at e
      · cases e; omega
      · cases e
    · cases e; exact hj
theorem sum_le {f g : Nat → Nat} : ∀ n, (∀ i, i < n → f i ≤ g i) → ((List.range n).map f).sum ≤ ((List.range n).map g).sum
  | 0, _ => Nat.le_refl _
  | n + 1, h => by
    rw [List.range_succ, List.map_append, List.map_append, List.sum_append, List.sum_append]
    have := sum_le n fun i hi => h i (by omega)
    have := h n (by omega)
    simp
    omega
theorem sum_lt {f g : Nat → Nat} : ∀ n, (∀ i, i < n → f i ≤ g i) → (∃ i, i < n ∧ f i < g i) → ((List.range n).map f).sum < ((List.range n).map g).sum
  | 0, _, ⟨i, hi, _⟩ => absurd hi (Nat.not_lt_zero _)
  | n + 1, h, ⟨i, hi, hlt⟩ => by
    rw [List.range_succ, List.map_append, List.map_append, List.sum_append, List.sum_append]
    by_cases c : i = n
    · subst c
      have := sum_le (f := f) (g := g) i fun j hj => h j (by omega)
      simp
      omega
    · have := sum_lt n (fun j hj => h j (by omega)) ⟨i, by omega, hlt⟩
      have := h n (by omega)
      simp
      omega
theorem phi_le {l : Nat} {b : Bool} {o : Option Nat} (h : ∀ k, o = some k → k ≤ l) : phi l (stO l b o) ≤ phi l o ∧ (stO l b o ≠ o → phi l (stO l b o) < phi l o) := by
  cases o with
  | none => exact ⟨Nat.le_refl _, fun z => absurd rfl z⟩
  | some k =>
    have hk := h k rfl
    unfold stO
    dsimp only
    split
    · split
      · exact ⟨by rw [phi_some, phi_some]; omega, fun _ => by rw [phi_some, phi_some]; omega⟩
      · exact ⟨Nat.zero_le _, fun _ => by rw [phi_some]; show 0 < _; omega⟩
    · exact ⟨Nat.le_refl _, fun z => absurd rfl z⟩
theorem Phi_lt {l : Nat} {p : Int} {ans : Bool} {t : Told} (h : TOk l t) (hne : askN l p ans t ≠ t) : Phi l (askN l p ans t) < Phi l t := by
  unfold Phi
  rw [ask_len]
  have hk : ∀ i, i < t.length → ∀ k, t.getD i none = some k → k ≤ l := fun i _ k e => h k (getD_memT e)
  refine sum_lt _ (fun i hi => ?_) ?_
  · rw [ask_get hi]; exact (phi_le (hk i hi)).1
  · apply Classical.byContradiction
    intro z
    apply hne
    apply told_ext (ask_len _ _ _ _)
    intro i hi
    rw [ask_len] at hi
    apply Classical.byContradiction
    intro y
    refine z ⟨i, hi, ?_⟩
    rw [ask_get hi] at y ⊢
    exact (phi_le (hk i hi)).2 y
theorem can_mono (l : Nat) : ∀ (n : Nat) (t : Told), (canN l n t).isSome = true → (canN l (n + 1) t).isSome = true
  | 0, t, h => by
    unfold canN at h ⊢
    split at h
    · rename_i c; rw [if_pos c]; rfl
    · cases h
  | n + 1, t, h => by
    unfold canN at h ⊢
    split at h
    · rename_i c; rw [if_pos c]; rfl
    · rename_i c
      rw [if_neg c]
      rw [List.find?_isSome] at h ⊢
      obtain ⟨p, hp, h⟩ := h
      rw [Bool.and_eq_true] at h
      exact ⟨p, hp, by rw [Bool.and_eq_true]; exact ⟨can_mono l n _ h.1, can_mono l n _ h.2⟩⟩
theorem can_le {l n k : Nat} {t : Told} (h : (canN l n t).isSome = true) (hk : n ≤ k) : (canN l k t).isSome = true := by
  induction hk with
  | refl => exact h
  | step _ ih => exact can_mono l _ t ih
def goodP (l : Nat) (t : Told) (p : Int) : Prop := askN l p true t ≠ t ∧ askN l p false t ≠ t
theorem two_left : ∀ t : Told, 2 ≤ leftT t → ∃ i j, i < j ∧ j < t.length ∧ (t.getD i none).isSome = true ∧ (t.getD j none).isSome = true
  | [], h => by simp [leftT] at h
  | none :: t, h => by
    have h : 2 ≤ leftT t := by unfold leftT at h ⊢; simpa using h
    obtain ⟨i, j, h1, h2, h3, h4⟩ := two_left t h
    exact ⟨i + 1, j + 1, by omega, by rw [List.length_cons]; omega, by simpa using h3, by simpa using h4⟩
  | some k :: t, h => by
    have h : 1 ≤ leftT t := by
      unfold leftT at h ⊢
      rw [List.filter_cons_of_pos (by rfl), List.length_cons] at h
      omega
    have : ∃ o ∈ t, o.isSome = true := by
      unfold leftT at h
      obtain ⟨o, ho⟩ := List.exists_mem_of_length_pos h
      exact ⟨o, (List.mem_filter.mp ho).1, (List.mem_filter.mp ho).2⟩
    obtain ⟨o, ho, hs⟩ := this
    obtain ⟨j, hj, e⟩ := List.getElem_of_mem ho
    refine ⟨0, j + 1, by omega, by rw [List.length_cons]; omega, rfl, ?_⟩
    show (t.getD j none).isSome = true
    rw [List.getD_eq_getElem?_getD, List.getElem?_eq_getElem hj, e]
    exact hs
theorem st_ne {l : Nat} {o : Option Nat} (h : o.isSome = true) : stO l true o ≠ o := by
  cases o with
  | none => cases h
  | some k =>
    show (if k < l then some (k + 1) else none) ≠ some k
    split
    · intro z
      have := Option.some.inj z
      omega
    · exact fun z => nomatch z
theorem good_ex {l : Nat} {t : Told} (h : 2 ≤ leftT t) : ∃ p ∈ placesN t, goodP l t p := by
  obtain ⟨i, j, h1, h2, h3, h4⟩ := two_left t h
  refine ⟨1 + ((i : Nat) : Int), List.mem_map.mpr ⟨i, List.mem_range.mpr (by omega), rfl⟩, fun z => ?_, fun z => ?_⟩
  · have e : (askN l (1 + (i : Int)) true t).getD j none = t.getD j none := by rw [z]
    rw [ask_get h2, show (decide ((j : Int) < 1 + (i : Int)) != true) = true by rw [decide_eq_false (by omega)]; rfl] at e
    exact st_ne h4 e
  · have e : (askN l (1 + (i : Int)) false t).getD i none = t.getD i none := by rw [z]
    rw [ask_get (by omega), show (decide ((i : Int) < 1 + (i : Int)) != false) = true by rw [decide_eq_true (by omega)]; rfl] at e
    exact st_ne h3 e
theorem can_Phi {l : Nat} : ∀ (f : Nat) (t : Told), TOk l t → Phi l t ≤ f → (canN l f t).isSome = true
  | f, t, hk, hf => by
    by_cases c : leftT t ≤ 1
    · cases f <;> (unfold canN; rw [if_pos c]; rfl)
    · obtain ⟨p, hp, g1, g2⟩ := good_ex (l := l) (t := t) (by omega)
      have a1 := Phi_lt hk g1
      have a2 := Phi_lt hk g2
      cases f with
      | zero => omega
      | succ f =>
        unfold canN
        rw [if_neg c, List.find?_isSome]
        exact ⟨p, hp, by rw [Bool.and_eq_true]; exact ⟨can_Phi f _ (ask_ok hk) (by omega), can_Phi f _ (ask_ok hk) (by omega)⟩⟩
structure Dom (l : Nat) (t : Told) : Prop where
  k : TOk l t
  n : t.length ≤ 7
  l2 : l ≤ 2
theorem Dom.ask {l : Nat} {t : Told} (h : Dom l t) (p : Int) (ans : Bool) : Dom l (askN l p ans t) := ⟨ask_ok h.k, by rw [ask_len]; exact h.n, h.l2⟩
theorem Dom.ph {l : Nat} {t : Told} (h : Dom l t) : Phi l t ≤ 21 := by
  have : Phi l t ≤ t.length * 3 := by
    unfold Phi
    have := sum_le (f := fun i => phi l (t.getD i none)) (g := fun _ => 3) t.length fun i _ => by
      exact phi_three _ h.l2
    refine Nat.le_trans this ?_
    have e : ∀ n : Nat, ((List.range n).map fun _ => 3).sum = n * 3 := by
      intro n
      induction n with
      | zero => rfl
      | succ n ih => rw [List.range_succ, List.map_append, List.sum_append, ih]; simp; omega
    rw [e]
    exact Nat.le_refl _
  have := h.n
  omega
def leastN (l : Nat) (t : Told) : Nat := ((List.range 22).find? fun n => (canN l n t).isSome).getD 0
theorem least_spec {l : Nat} {t : Told} (h : Dom l t) (n : Nat) : (canN l n t).isSome = true ↔ leastN l t ≤ n := by
  have ex := can_Phi 21 t h.k h.ph
  unfold leastN
  cases e : (List.range 22).find? fun n => (canN l n t).isSome with
  | none =>
    rw [List.find?_eq_none] at e
    exact absurd ex (e 21 (List.mem_range.mpr (by decide)))
  | some N =>
    have h1 := List.find?_some e
    show _ ↔ N ≤ n
    constructor
    · intro z
      apply Classical.byContradiction
      intro c
      have hN := List.mem_range.mp (List.mem_of_find?_eq_some e)
      rw [List.find?_eq_some_iff_append] at e
      obtain ⟨_, as, bs, e2, e3⟩ := e
      have hlen : as.length = N := by
        have e4 : (List.range 22)[as.length]? = some N := by rw [e2]; simp
        obtain ⟨q1, q2⟩ := List.getElem?_eq_some_iff.mp e4
        rw [List.getElem_range] at q2
        exact q2
      have hn : n ∈ as := by
        have e5 : as = (List.range 22).take N := by rw [e2, ← hlen]; simp
        rw [e5, List.mem_take_iff_getElem]
        refine ⟨n, ?_, by rw [List.getElem_range]⟩
        rw [List.length_range]
        omega
      have := e3 n hn
      rw [z] at this
      cases this
    · intro z
      exact can_le h1 z
def costP (l : Nat) (t : Told) (p : Int) : Nat := 1 + max (leastN l (askN l p true t)) (leastN l (askN l p false t))
theorem cond_iff {l : Nat} {t : Told} (h : Dom l t) (p : Int) (n : Nat) : ((canN l n (askN l p true t)).isSome && (canN l n (askN l p false t)).isSome) = true ↔ costP l t p ≤ n + 1 := by
  rw [Bool.and_eq_true, least_spec (h.ask p true), least_spec (h.ask p false)]
  unfold costP
  omega
theorem least_pos {l : Nat} {t : Told} (h : Dom l t) (h2 : 2 ≤ leftT t) : 1 ≤ leastN l t := by
  apply Classical.byContradiction
  intro z
  have := (least_spec h 0).mpr (by omega)
  unfold canN at this
  rw [if_neg (by omega)] at this
  cases this
/-- the first place that does is one that parts, and costs as little as may be -/
theorem least_first {l : Nat} {t : Told} (h : Dom l t) (h2 : 2 ≤ leftT t) : (∀ p ∈ placesN t, goodP l t p → leastN l t ≤ costP l t p) ∧ (∀ p ∈ placesN t, costP l t p ≤ leastN l t → goodP l t p) ∧ canN l (leastN l t) t = (placesN t).find? fun p => decide (costP l t p ≤ leastN l t) := by
  have hp := least_pos h h2
  obtain ⟨n, en⟩ : ∃ n, leastN l t = n + 1 := ⟨leastN l t - 1, by omega⟩
  have hno : (canN l n t).isSome = false := by
    cases e : (canN l n t).isSome with
    | false => rfl
    | true => have := (least_spec h n).mp e; omega
  refine ⟨fun p hpm g => ?_, fun p hpm hc => ⟨fun z => ?_, fun z => ?_⟩, ?_⟩
  · obtain ⟨k, ek⟩ : ∃ k, costP l t p = k + 1 := ⟨costP l t p - 1, by unfold costP; omega⟩
    apply (least_spec h _).mp
    rw [ek]
    unfold canN
    rw [if_neg (by omega), List.find?_isSome]
    exact ⟨p, hpm, (cond_iff h p k).mpr (by omega)⟩
  · have := (cond_iff h p n).mpr (by omega)
    rw [Bool.and_eq_true, z] at this
    rw [hno] at this
    cases this.1
  · have := (cond_iff h p n).mpr (by omega)
    rw [Bool.and_eq_true, z] at this
    rw [hno] at this
    cases this.2
  · rw [en]
    unfold canN
    rw [if_neg (by omega)]
    congr 1
    funext p
    rw [Bool.eq_iff_iff, cond_iff h p n, decide_eq_true_eq]
/-- the best of some places -/
def BestOk (l : Nat) (t : Told) (pre : List Int) : Option (Nat × Int) → Prop
  | none => ∀ p ∈ pre, ¬ goodP l t p
  | some (M, p) => ∃ a b, pre = a ++ p :: b ∧ goodP l t p ∧ M = costP l t p ∧ (∀ q ∈ a, goodP l t q → M < costP l t q) ∧ (∀ q ∈ b, goodP l t q → M ≤ costP l t q)
theorem best_bad {l : Nat} {t : Told} {pre : List Int} {b : Option (Nat × Int)} {p : Int} (h : BestOk l t pre b) (hb : ¬ goodP l t p) : BestOk l t (pre ++ [p]) b := by
  cases b with
  | none =>
    intro q hq
    rcases List.mem_append.mp hq with z | z
    · exact h q z
    · rw [List.mem_singleton.mp z]; exact hb
  | some m =>
    obtain ⟨M, p0⟩ := m
    obtain ⟨a, b, e, g, e2, h1, h2⟩ := h
    refine ⟨a, b ++ [p], by rw [e]; simp, g, e2, h1, fun q hq gq => ?_⟩
    rcases List.mem_append.mp hq with z | z
    · exact h2 q z gq
    · rw [List.mem_singleton.mp z] at gq; exact absurd gq hb
theorem best_new {l : Nat} {t : Told} {pre : List Int} {b : Option (Nat × Int)} {p : Int} (h : BestOk l t pre b) (hg : goodP l t p) (hb : ∀ M q, b = some (M, q) → costP l t p < M) : BestOk l t (pre ++ [p]) (some (costP l t p, p)) := by
  refine ⟨pre, [], rfl, hg, rfl, fun q hq gq => ?_, fun _ z => nomatch z⟩
  cases b with
  | none => exact absurd gq (h q hq)
  | some m =>
    obtain ⟨M, p0⟩ := m
    have hlt := hb M p0 rfl
    obtain ⟨a, b, e, g, e2, h1, h2⟩ := h
    rw [e] at hq
    rcases List.mem_append.mp hq with z | z
    · have := h1 q z gq; omega
    · rcases List.mem_cons.mp z with rfl | z
      · omega
      · have := h2 q z gq; omega
theorem best_keep {l : Nat} {t : Told} {pre : List Int} {M : Nat} {p0 p : Int} (h : BestOk l t pre (some (M, p0))) (hb : M ≤ costP l t p) : BestOk l t (pre ++ [p]) (some (M, p0)) := by
  obtain ⟨a, b, e, g, e2, h1, h2⟩ := h
  refine ⟨a, b ++ [p], by rw [e]; simp, g, e2, h1, fun q hq gq => ?_⟩
  rcases List.mem_append.mp hq with z | z
  · exact h2 q z gq
  · rw [List.mem_singleton.mp z]; exact hb
theorem best_end {l : Nat} {t : Told} (h : Dom l t) (h2 : 2 ≤ leftT t) {b : Option (Nat × Int)} (hb : BestOk l t (placesN t) b) : ∃ p, b = some (leastN l t, p) ∧ canN l (leastN l t) t = some p := by
  obtain ⟨f1, f2, f3⟩ := least_first h h2
  cases b with
  | none =>
    obtain ⟨p, hp, g⟩ := good_ex (l := l) h2
    exact absurd g (hb p hp)
  | some m =>
    obtain ⟨M, p⟩ := m
    obtain ⟨a, b, e, g, e2, h3, h4⟩ := hb
    have hM : leastN l t ≤ M := by rw [e2]; exact f1 p (by rw [e]; simp) g
    have hex : ∃ q ∈ placesN t, costP l t q ≤ leastN l t := by
      have := (least_spec h (leastN l t)).mpr (Nat.le_refl _)
      rw [f3, List.find?_isSome] at this
      obtain ⟨q, hq, hc⟩ := this
      exact ⟨q, hq, of_decide_eq_true hc⟩
    obtain ⟨q, hq, hc⟩ := hex
    have gq := f2 q hq hc
    have hMq : M ≤ costP l t q := by
      rw [e] at hq
      rcases List.mem_append.mp hq with z | z
      · have := h3 q z gq; omega
      · rcases List.mem_cons.mp z with rfl | z
        · omega
        · exact h4 q z gq
    have eM : M = leastN l t := by omega
    refine ⟨p, by rw [eM], ?_⟩
    rw [f3, e, List.find?_append]
    have na : a.find? (fun p => decide (costP l t p ≤ leastN l t)) = none := by
      rw [List.find?_eq_none]
      intro q hq
      rw [decide_eq_true_eq]
      intro z
      have g1 := f2 q (by rw [e]; simp [hq]) z
      have := h3 q hq g1
      omega
    rw [na, List.find?_cons_of_pos (by rw [decide_eq_true_eq]; omega)]
    rfl
end Lb

/-! Sm51a: things in a row, halved: what the defs do. -/
namespace Lb
open PySem L2
local macro_rules | `(tactic| walk_at "v") => `(tactic| ((with_reducible refine ev_var (d := ?dv) ?hv ?_); (case hv => exact rfl)))
local macro_rules | `(tactic| walk_at "f") => `(tactic| first
  | with_reducible refine f_in ?_
  | with_reducible refine f_notin ?_
  | with_reducible refine f_add_i ?_
  | with_reducible refine f_add_s ?_
  | with_reducible refine f_add_l ?_
  | with_reducible refine f_add_t ?_
  | with_reducible refine f_sub ?_
  | with_reducible refine f_mul_i ?_
  | with_reducible refine f_mul_l ?_
  | with_reducible refine f_mul_t ?_
  | with_reducible refine f_div ?_
  | with_reducible refine f_mod ?_
  | with_reducible refine f_pow ?_
  | with_reducible refine f_lt ?_
  | with_reducible refine f_le ?_
  | with_reducible refine f_gt ?_
  | with_reducible refine f_ge ?_
  | with_reducible refine f_eq_i ?_
  | with_reducible refine f_ne_i ?_
  | with_reducible refine f_eq_b ?_
  | with_reducible refine f_ne_b ?_
  | with_reducible refine f_is_n ?_
  | with_reducible refine f_isnot_n ?_
  | with_reducible refine f_is_i ?_
  | with_reducible refine f_isnot_i ?_
  | with_reducible refine f_is_b ?_
  | with_reducible refine f_isnot_b ?_
  | with_reducible refine f_is_s ?_
  | with_reducible refine f_isnot_s ?_
  | with_reducible refine f_is_l ?_
  | with_reducible refine f_isnot_l ?_
  | with_reducible refine f_is_t ?_
  | with_reducible refine f_isnot_t ?_
  | with_reducible refine f_is_r ?_
  | with_reducible refine f_isnot_r ?_
  | with_reducible refine f_is ?_
  | with_reducible refine f_isnot ?_
  | with_reducible refine f_neg ?_
  | with_reducible refine f_len_ml ?_
  | with_reducible refine f_len_mt ?_
  | with_reducible refine f_sum_l ?_
  | with_reducible refine f_sum_t ?_
  | with_reducible refine f_all ?_
  | with_reducible refine f_any ?_
  | with_reducible refine f_len_l ?_
  | with_reducible refine f_len_t ?_
  | with_reducible refine f_len_c ?_
  | with_reducible refine f_abs ?_
  | with_reducible refine f_min2 ?_
  | with_reducible refine f_max2 ?_
  | with_reducible refine f_list_l ?_
  | with_reducible refine f_list_t ?_
  | with_reducible refine f_tup_l ?_
  | with_reducible refine f_tup_t ?_
  | with_reducible refine f_int_i ?_
  | with_reducible refine f_int_b ?_
  | with_reducible refine f_sl_l ?_
  | with_reducible refine f_sl_t ?_
  | with_reducible refine f_tr_n ?_
  | with_reducible refine f_tr_b ?_
  | with_reducible refine f_tr_i ?_
  | with_reducible refine f_tr_l ?_
  | with_reducible refine f_tr_t ?_
  | with_reducible refine f_tr_c ?_)
local macro_rules | `(tactic| walk_at "m") => `(tactic| first
  | assumption
  | exact mset_same
  | ((refine (mset_ne ?_).trans ?_); (first | assumption | exact Ne.symm (by assumption)); walk_at "m"))
local macro_rules | `(tactic| walk_at "w") => `(tactic| first
  | walk_at "v"
  | with_reducible refine ev_rev ?_
  | with_reducible refine ev_sset ?_
  | with_reducible refine ev_lcl ?_
  | with_reducible refine ev_lct ?_
  | with_reducible refine ev_lcs ?_
  | with_reducible refine ev_lc1 ?_
  | with_reducible refine ev_lc2 ?_
  | with_reducible refine st_forl ?_
  | with_reducible refine st_fort ?_
  | with_reducible refine st_fors ?_
  | with_reducible refine st_for1 ?_
  | with_reducible refine st_for2 ?_
  | with_reducible refine ex_bl ?_
  | with_reducible refine ex_in ?_
  | with_reducible refine ex_ls ?_
  | with_reducible refine ex_tu ?_
  | with_reducible refine ex_st ?_
  | with_reducible refine ex_d0 ?_
  | with_reducible refine ex_d1 ?_
  | with_reducible refine ex_d2 ?_
  | with_reducible refine ex_d3 ?_
  | with_reducible refine ex_d4 ?_
  | with_reducible refine ex_d5 ?_
  | with_reducible refine ex_d6 ?_
  | with_reducible refine ex_d7 ?_
  | with_reducible refine ex_d8 ?_
  | with_reducible refine m_and ?_
  | with_reducible refine i_t ?_
  | with_reducible refine i_f ?_
  | with_reducible refine i_nt ?_
  | with_reducible refine i_nf ?_
  | with_reducible refine ev_fld ?_
  | ((with_reducible refine x_fld (fs := ?fs) (v := ?vv) ?hh ?ll ?_); (case hh => walk_at "m"); (case ll => exact rfl))
  | with_reducible refine ev_meth ?_
  | ((with_reducible refine x_meth (fs := ?fs) ?hh ?ll ?_); (case hh => walk_at "m"); (case ll => exact rfl))
  | with_reducible refine ev_make ?_
  | with_reducible refine st_fld ?_
  | ((with_reducible refine x_set (fs := ?fs) ?hh ?ll ?_); (case hh => walk_at "m"); (case ll => exact Nat.le_of_ble_eq_true rfl))
  | with_reducible refine ev_lstP ?_
  | with_reducible refine ev_dnew ?_
  | with_reducible refine st_dset ?_
  | with_reducible refine ev_tup ?_
  | with_reducible refine ev_lst ?_
  | with_reducible refine ev_int ?_
  | with_reducible refine ea_cons ?_
  | with_reducible refine ea_nil ?_
  | with_reducible refine ev_op ?_
  | with_reducible refine st_seq ?_
  | with_reducible refine st_asg ?_
  | with_reducible refine ev_call ?_
  | with_reducible refine ev_cb ?_
  | with_reducible refine st_if ?_
  | with_reducible refine et_test ?_
  | with_reducible refine et_not ?_
  | with_reducible refine et_or ?_
  | with_reducible refine et_and ?_
  | with_reducible refine et_tru ?_
  | with_reducible refine et_yes ?_
  | with_reducible refine et_B ?_
  | with_reducible refine ev_chain ?_
  | with_reducible refine ev_chain3 ?_
  | with_reducible refine ev_un ?_
  | with_reducible refine ev_if ?_
  | with_reducible refine ev_bl ?_
  | with_reducible refine ev_non ?_
  | with_reducible refine ev_str ?_
  | with_reducible refine ev_andV ?_
  | with_reducible refine ev_orV ?_
  | with_reducible refine ev_notV ?_
  | with_reducible refine ev_isB ?_
  | with_reducible refine ev_isE ?_
  | with_reducible refine ev_sl2 ?_
  | with_reducible refine ev_slA ?_
  | with_reducible refine ev_slB ?_
  | with_reducible refine ev_bmL ?_
  | with_reducible refine ev_bmL0 ?_
  | with_reducible refine st_ret ?_
  | with_reducible refine st_drop ?_
  | with_reducible refine st_next ?_
  | with_reducible refine st_setL ?_
  | with_reducible refine st_asgG ?_
  | with_reducible refine st_raise ?_
  | with_reducible refine gt_name ?_
  | with_reducible refine gt_tup2 ?_
  | with_reducible refine gt_tup3 ?_
  | walk_at "f")
local macro_rules | `(tactic| walk_at "r") => `(tactic| repeat walk_at "w")

def oI : Option Int → D
  | none => .non
  | some k => .int k
def oN (o : Option Nat) : D := oI (o.map fun k => ((k : Nat) : Int))
abbrev dTold (t : Told) : D := .tup (t.map oN)
theorem oN_some (k : Nat) : oN (some k) = .int (k : Int) := rfl
theorem oN_none : oN none = .non := rfl
theorem sh_oI {n : Nat} {o : Option Int} : Sh n (oI o) := by
  cases o with
  | none => exact sh_non
  | some k => exact sh_int
theorem sh_told {n : Nat} {t : Told} : Sh (n + 1) (dTold t) := by
  show ∀ x ∈ t.map oN, Sh n x
  intro x hx
  obtain ⟨o, _, rfl⟩ := List.mem_map.mp hx
  exact sh_oI
/-- a row of lies so far that is one -/
def LT (xs : List (Option Int)) (l : Int) : Prop := 1 ≤ xs.length ∧ xs.length ≤ 7 ∧ 0 ≤ l ∧ l ≤ 2 ∧ ∀ k, some k ∈ xs → 0 ≤ k ∧ k ≤ l
def maxI (n : Nat) : Int := if ((n : Nat) : Int) > 1 then (n : Int) else 1
def S_look_told : SpD := fun es m R XR => ∃ (xs : List (Option Int)) (l : Int), es = [.d (.tup (xs.map oI)), .d (.int l)] ∧ xs.length ≤ 1000 ∧ (¬ GameOk (maxI xs.length) l → XR .game m) ∧ (GameOk (maxI xs.length) l → ¬ LT xs l → XR .counts m) ∧ (LT xs l → R (.d .non) m)
def rd_look_told (G : Ctx) (W : WX) : TS :=
  tSeq (tDrop (tCallS (spL G S_look_game) (WE W) (tCons (tCB (rDn G maxF) (tCons (tC (.int 1)) (tCons (tCB (rDn G lenF) (tCons (tVar 0) (tNil))) (tNil)))) (tCons (tVar 1) (tNil)))))
  (tSeq (tIfS (tOr (tNot (tTest (tChain (rD2 G leF) (rD2 G leF) (tC (.int 1)) (tCB (rDn G lenF) (tCons (tVar 0) (tNil))) (tC (.int 7))))) (tTest (tOp (rD2 G gtF) (tVar 1) (tC (.int 2))))) (tRaise W (G.has .counts) (G.ex .counts)) (tNext))
  (tIfS (tNot (tTru G.K (tCB (rDn G allF) (tCons (tLc (iTup G.K (tVar 0)) (gName 2) (tYes) (tOrV (tOp (rD2 G isF) (tVar 2) (tC .non)) (tChain (rD2 G leF) (rD2 G leF) (tC (.int 0)) (tVar 2) (tVar 1))) [2]) (tNil))))) (tRaise W (G.has .counts) (G.ex .counts)) (tNext)))

theorem len_look_told : ∀ es m R XR, S_look_told es m R XR → es.length = 2 := by
  rintro es m R XR ⟨a, b, rfl, _⟩
  rfl
def okO (l : Int) : Option Int → Bool
  | none => true
  | some k => decide (0 ≤ k) && decide (k ≤ l)
theorem sem_look_told (G : Ctx) : BodyD G 3 (rd_look_told G) S_look_told := by
  rintro W es m R XR ⟨xs, l, rfl, hx, h1, h2, h3⟩
  unfold rd_look_told
  walk_at "r"
  refine ⟨maxI xs.length, l, rfl, fun g => ?_, h1⟩
  obtain ⟨g1, g2, g3, g4⟩ := id g
  walk_at "r"
  refine i_d (fun a1 => ?_) (fun a1 => ?_)
  · walk_at "r"
    refine i_nd (fun a2 => ?_) (fun a2 => ?_)
    · walk_at "r"
      exact h2 g fun q => by have := q.2.1; omega
    · walk_at "r"
      refine i_d (fun a3 => ?_) (fun a3 => ?_)
      · walk_at "r"
        exact h2 g fun q => by have := q.2.2.2.1; omega
      · walk_at "r"
        refine lcM xs (fun o => .d (oI o)) (fun o => .bl (okO l o)) (by rw [List.map_map]; rfl) (by omega) (fun o M ho hM => ⟨_, .name (by decide), ?_⟩) ?_
        · cases o with
          | none =>
            dsimp only [oI]
            walk_at "r"
            exact rfl
          | some k =>
            dsimp only [oI]
            walk_at "r"
            refine i_d (fun b1 => ?_) (fun b1 => ?_)
            · walk_at "r"
              show DV.d (.bl (decide (k ≤ l))) = .d (.bl (decide (0 ≤ k) && decide (k ≤ l)))
              rw [decide_eq_true b1]
              rfl
            · walk_at "r"
              show DV.d (.bl false) = .d (.bl (decide (0 ≤ k) && decide (k ≤ l)))
              rw [decide_eq_false b1]
              rfl
        walk_at "r"
        cases e : xs.all (okO l) with
        | true =>
          refine i_f ?_
          walk_at "r"
          refine h3 ⟨by omega, by omega, g3, by omega, fun k hk => ?_⟩
          have := List.all_eq_true.mp e _ hk
          unfold okO at this
          dsimp only at this
          rw [Bool.and_eq_true, decide_eq_true_eq, decide_eq_true_eq] at this
          exact this
        | false =>
          refine i_t ?_
          walk_at "r"
          refine h2 g fun q => ?_
          have : xs.all (okO l) = true := by
            apply List.all_eq_true.mpr
            intro o ho
            cases o with
            | none => rfl
            | some k =>
              have := q.2.2.2.2 k ho
              unfold okO
              dsimp only
              rw [decide_eq_true this.1, decide_eq_true this.2]
              rfl
          rw [this] at e
          cases e
  · walk_at "r"
    exact h2 g fun q => by have := q.1; omega
theorem LT.told {xs : List (Option Int)} {l : Int} (h : LT xs l) : ∃ t : Told, xs.map oI = t.map oN ∧ Dom l.toNat t ∧ t.length = xs.length := by
  refine ⟨xs.map fun o => o.map Int.toNat, ?_, ⟨fun k hk => ?_, by rw [List.length_map]; exact h.2.1, by have := h.2.2.2.1; omega⟩, by rw [List.length_map]⟩
  · rw [List.map_map]
    apply List.map_congr_left
    intro o ho
    cases o with
    | none => rfl
    | some k =>
      have := h.2.2.2.2 k ho
      show D.int k = D.int ((k.toNat : Nat) : Int)
      rw [Int.toNat_of_nonneg this.1]
  · obtain ⟨o, ho, e⟩ := List.mem_map.mp hk
    cases o with
    | none => cases e
    | some j =>
      have := h.2.2.2.2 j ho
      cases e
      omega
/-! ### behind a question -/
def S_asked_at : SpD := fun es m R _ => ∃ (t : Told) (l : Nat) (p : Int) (ans : Bool), es = [.d (dTold t), .d (.int l), .d (.int p), .d (.bl ans)] ∧ t.length ≤ 1000 ∧ R (.d (dTold (askN l p ans t))) m
def rd_asked_at (G : Ctx) (W : WX) : TS :=
  tSeq (tAsg (tLstO (tNil)) (gName 4))
  (tSeq (tFor (iRng1 (tCons (tCB (rDn G lenF) (tCons (tVar 0) (tNil))) (tNil))) (gName 5) (tSeq (tAsg (tOp (rD2 G idxF) (tVar 0) (tVar 5)) (gName 6))
  (tSeq (tIfS (tAnd (tTest (tOp (rD2 G isnotF) (tVar 6) (tC .non))) (tTest (tOp (rD2 G neF) (tOp (rD2 G ltF) (tVar 5) (tVar 2)) (tVar 3)))) (tAsg (tIf (tTest (tOp (rD2 G ltF) (tVar 6) (tVar 1))) (tOp (rD2 G addF) (tVar 6) (tC (.int 1))) (tC .non)) (gName 6)) (tNext))
  (tDrop (tBM G.K "list" (rDM G appendF) (tVar 4) (tCons (tVar 6) (tNil)))))))
  (tRet (tCB (rDn G tupleF) (tCons (tVar 4) (tNil)))))

theorem len_asked_at : ∀ es m R XR, S_asked_at es m R XR → es.length = 4 := by
  rintro es m R XR ⟨a, b, c, d, rfl, _⟩
  rfl
theorem atI_told {t : Told} {i : Nat} (h : i < t.length) : atI (t.map oN) ((i : Nat) : Int) = some (oN (t.getD i none)) := by
  apply atI_nat
  rw [List.getElem?_map, List.getD_eq_getElem?_getD, List.getElem?_eq_getElem h]
  rfl
theorem range_snoc {α : Type} (f : Nat → α) (i : Nat) : (List.range (i + 1)).map f = (List.range i).map f ++ [f i] := by rw [List.range_succ, List.map_append]; rfl
theorem sem_asked_at (G : Ctx) : BodyD G 7 (rd_asked_at G) S_asked_at := by
  rintro W es m R XR ⟨t, l, p, ans, rfl, ht, h⟩
  unfold rd_asked_at
  walk_at "r"
  intro a ha
  walk_at "r"
  refine ⟨_, rfl, by omega, by omega, ?_⟩
  rw [Int.toNat_natCast]
  refine forN (fun i ds' m' => mset m a (.lst ((List.range i).map fun i => oN (stO l (decide (((i : Nat) : Int) < p) != ans) (t.getD i none)))) = m' ∧ ∃ o5 o6, ds' = [some (.d (dTold t)), some (.d (.int l)), some (.d (.int p)), some (.d (.bl ans)), some (.r a), o5, o6]) ⟨rfl, none, none, rfl⟩ ?_ ?_
  · rintro i ds' m' hi ⟨rfl, o5, o6, rfl⟩
    have put : ∀ x, x = oN (stO l (decide (((i : Nat) : Int) < p) != ans) (t.getD i none)) → mset (mset m a (.lst ((List.range i).map fun i => oN (stO l (decide (((i : Nat) : Int) < p) != ans) (t.getD i none))))) a (.lst (((List.range i).map fun i => oN (stO l (decide (((i : Nat) : Int) < p) != ans) (t.getD i none))) ++ [x])) = mset m a (.lst ((List.range (i + 1)).map fun i => oN (stO l (decide (((i : Nat) : Int) < p) != ans) (t.getD i none)))) := by
      rintro x rfl
      rw [mset_mset, range_snoc]
    walk_at "r"
    rw [Int.zero_add]
    refine ⟨_, atI_told hi, ?_⟩
    cases e : t.getD i none with
    | none =>
      rw [oN_none]
      walk_at "r"
      refine ⟨⟨_, mset_same⟩, ?_⟩
      walk_at "r"
      exact ⟨_, mset_same, by rw [List.length_map, List.length_range]; omega, (put .non (by rw [e]; rfl)).symm, _, _, rfl⟩
    | some k =>
      rw [oN_some]
      walk_at "r"
      refine i_b (fun c => ?_) (fun c => ?_)
      · walk_at "r"
        refine i_d (fun c2 => ?_) (fun c2 => ?_)
        · walk_at "r"
          refine ⟨⟨_, mset_same⟩, ?_⟩
          walk_at "r"
          refine ⟨_, mset_same, by rw [List.length_map, List.length_range]; omega, (put _ ?_).symm, _, _, rfl⟩
          rw [e, c]
          show _ = oN (if k < l then some (k + 1) else none)
          rw [if_pos (by omega), oN_some]
          rfl
        · walk_at "r"
          refine ⟨⟨_, mset_same⟩, ?_⟩
          walk_at "r"
          refine ⟨_, mset_same, by rw [List.length_map, List.length_range]; omega, (put _ ?_).symm, _, _, rfl⟩
          rw [e, c]
          show _ = oN (if k < l then some (k + 1) else none)
          rw [if_neg (by omega), oN_none]
      · walk_at "r"
        refine ⟨⟨_, mset_same⟩, ?_⟩
        walk_at "r"
        refine ⟨_, mset_same, by rw [List.length_map, List.length_range]; omega, (put _ ?_).symm, _, _, rfl⟩
        rw [e, c]
        rfl
  · rintro ds' m' ⟨rfl, o5, o6, rfl⟩
    refine st_frz 4 rfl mset_same ?_
    walk_at "r"
    rw [mdel_mset ha]
    have := h
    unfold askN at this
    rw [dTold, List.map_map] at this
    exact this
def S_behind_place : SpD := fun es m R XR => ∃ (xs : List (Option Int)) (l p : Int) (ans : Bool), es = [.d (.tup (xs.map oI)), .d (.int l), .d (.int p), .d (.bl ans)] ∧ xs.length ≤ 1000 ∧ (¬ GameOk (maxI xs.length) l → XR .game m) ∧ (GameOk (maxI xs.length) l → ¬ LT xs l → XR .counts m) ∧
  (LT xs l → ¬ (0 ≤ p ∧ p ≤ xs.length) → XR .question m) ∧ (LT xs l → 0 ≤ p → p ≤ xs.length → ∀ t : Told, xs.map oI = t.map oN → R (.d (dTold (askN l.toNat p ans t))) m)
def rd_behind_place (G : Ctx) (W : WX) : TS :=
  tSeq (tDrop (tCallS (spL G S_look_told) (WE W) (tCons (tVar 0) (tCons (tVar 1) (tNil)))))
  (tSeq (tIfS (tNot (tTest (tChain (rD2 G leF) (rD2 G leF) (tC (.int 0)) (tVar 2) (tCB (rDn G lenF) (tCons (tVar 0) (tNil)))))) (tRaise W (G.has .question) (G.ex .question)) (tNext))
  (tRet (tCallS (spL G S_asked_at) (WE W) (tCons (tVar 0) (tCons (tVar 1) (tCons (tVar 2) (tCons (tVar 3) (tNil))))))))

theorem len_behind_place : ∀ es m R XR, S_behind_place es m R XR → es.length = 4 := by
  rintro es m R XR ⟨a, b, c, d, rfl, _⟩
  rfl
theorem sem_behind_place (G : Ctx) : BodyD G 4 (rd_behind_place G) S_behind_place := by
  rintro W es m R XR ⟨xs, l, p, ans, rfl, hx, h1, h2, h3, h4⟩
  unfold rd_behind_place
  walk_at "r"
  refine ⟨xs, l, rfl, hx, h1, h2, fun ok => ?_⟩
  walk_at "r"
  refine i_d (fun a1 => ?_) (fun a1 => ?_)
  · walk_at "r"
    refine i_nd (fun a2 => ?_) (fun a2 => ?_)
    · walk_at "r"
      exact h3 ok fun q => a2 q.2
    · walk_at "r"
      obtain ⟨t, e, hd, hl⟩ := ok.told
      obtain ⟨k, rfl⟩ := Int.eq_ofNat_of_zero_le ok.2.2.1
      rw [e]
      refine ⟨t, k, p, ans, rfl, by have := hd.n; omega, ?_⟩
      exact h4 ok a1 a2 t e
  · walk_at "r"
    exact h3 ok fun q => a1 q.1
/-! ### the halver -/
abbrev halF (l : Nat) (d : Addr) : List (Str × DV) := [("most", .d (.int (l : Nat))), ("known", .r d)]
structure HalvAt (m : Mu) (a d : Addr) (l : Nat) (kvs : List (D × D)) : Prop where
  o : m a = some (.ins .halver (halF l d))
  k : m d = some (.dic kvs)
theorem HalvAt.ad {m : Mu} {a d : Addr} {l : Nat} {kvs : List (D × D)} (h : HalvAt m a d l kvs) : a ≠ d := fun e => by have := h.k; rw [← e, h.o] at this; cases this
theorem HalvAt.put {m : Mu} {a d : Addr} {l : Nat} {kvs kvs' : List (D × D)} (h : HalvAt m a d l kvs) : HalvAt (mset m d (.dic kvs')) a d l kvs' := ⟨by rw [mset_ne h.ad]; exact h.o, mset_same⟩
def S_Halver___init__ : SpD := fun es m R _ => ∃ (a : Addr) (l : Nat), es = [.r a, .d (.int l)] ∧ m a = some (.ins .halver []) ∧ ∀ d m', m d = none → HalvAt m' a d l [] → (∀ x, x ≠ a → x ≠ d → m' x = m x) → R (.d .non) m'
def rd_Halver___init__ (G : Ctx) (W : WX) : TS :=
  tSeq (sFldD G .halver (tVar 0) (tVar 1) "most")
  (sFldD G .halver (tVar 0) (tDNew G) "known")

theorem len_Halver___init__ : ∀ es m R XR, S_Halver___init__ es m R XR → es.length = 2 := by
  rintro es m R XR ⟨a, b, rfl, _⟩
  rfl
theorem sem_Halver___init__ (G : Ctx) : BodyD G 2 (rd_Halver___init__ G) S_Halver___init__ := by
  rintro W es m R XR ⟨a, l, rfl, ha, h⟩
  unfold rd_Halver___init__
  walk_at "r"
  intro d hd
  obtain ⟨hda, hdm⟩ := none_mset hd
  have had := hda.symm
  walk_at "r"
  refine h d _ hdm ⟨mset_same, by rw [mset_ne hda, mset_same]⟩ fun x x1 x2 => ?_
  rw [mset_ne x1, mset_ne x2, mset_ne x1]
def S_Halver_left : SpD := fun es m R _ => ∃ (a : Addr) (t : Told), es = [.r a, .d (dTold t)] ∧ t.length ≤ 1000 ∧ R (.d (.int (leftT t : Nat))) m
def rd_Halver_left (G : Ctx) (W : WX) : TS :=
  tRet (tCB (rDn G lenF) (tCons (tLc (iTup G.K (tVar 1)) (gName 2) (tTest (tOp (rD2 G isnotF) (tVar 2) (tC .non))) (tVar 2) [2]) (tNil)))

theorem len_Halver_left : ∀ es m R XR, S_Halver_left es m R XR → es.length = 2 := by
  rintro es m R XR ⟨a, b, rfl, _⟩
  rfl
theorem sem_Halver_left (G : Ctx) : BodyD G 3 (rd_Halver_left G) S_Halver_left := by
  rintro W es m R XR ⟨a, t, rfl, ht, h⟩
  unfold rd_Halver_left
  walk_at "r"
  refine lcF t (fun o => .d (oN o)) (·.isSome) oN (by rw [List.map_map]; rfl) (by omega) (fun o M ho hM => ⟨_, .name (by decide), ?_, fun _ => ?_⟩) ?_
  · cases o with
    | none =>
      rw [oN_none]
      walk_at "r"
      exact rfl
    | some k =>
      rw [oN_some]
      walk_at "r"
      exact rfl
  · walk_at "r"
    exact rfl
  · walk_at "r"
    exact h
/-! ### its memo -/
def hKey (k : Told × Nat) : D := .tup [dTold k.1, .int (k.2 : Nat)]
def hVal (l : Nat) (k : Told × Nat) : D := oI (canN l k.2 k.1)
def hOk (l : Nat) (k : Told × Nat) : Prop := Dom l k.1 ∧ k.2 < 32
theorem toKeys_map (xs : List D) : toKeys xs = xs.map toKey := by
  induction xs with
  | nil => rw [toKeys]; rfl
  | cons x xs ih => rw [toKeys, ih]; rfl
theorem isKeys_all (xs : List D) : isKeys xs = xs.all isKey := by
  induction xs with
  | nil => rw [isKeys]; rfl
  | cons x xs ih => rw [isKeys, ih]; rfl
theorem toKey_oN (o : Option Nat) : toKey (oN o) = match o with | none => .none | some k => .num (k : Int) := by
  cases o with
  | none => rw [oN_none, toKey]
  | some k => rw [oN_some, toKey]
theorem toKey_told (t : Told) : toKey (dTold t) = .tup (t.map fun o => match o with | none => NestedKey.none | some k => .num (k : Int)) := by
  rw [toKey, toKeys_map, List.map_map]
  congr 1
  apply List.map_congr_left
  intro o _
  exact toKey_oN o
theorem told_inj {t u : Told} (h : toKey (dTold t) = toKey (dTold u)) : t = u := by
  rw [toKey_told, toKey_told] at h
  injection h with h
  revert u
  induction t with
  | nil => intro u h; cases u with | nil => rfl | cons _ _ => cases h
  | cons o t ih =>
    intro u h
    cases u with
    | nil => cases h
    | cons o' u =>
      rw [List.map_cons, List.map_cons] at h
      injection h with h1 h2
      rw [ih h2]
      congr 1
      cases o <;> cases o' <;> first | rfl | (cases h1; done) | skip
      injection h1 with h1
      congr 1
      omega
theorem hKey_inj {k k' : Told × Nat} (h : toKey (hKey k) = toKey (hKey k')) : k = k' := by
  obtain ⟨t, n⟩ := k
  obtain ⟨t', n'⟩ := k'
  unfold hKey at h
  rw [toKey, toKey, toKeys_map, toKeys_map] at h
  injection h with h
  simp only [List.map_cons, List.map_nil, List.cons.injEq] at h
  have h1 := told_inj h.1
  have h2 := h.2.1
  rw [toKey, toKey] at h2
  injection h2 with h2
  rw [h1, show n = n' by omega]
theorem isKey_told (t : Told) : isKey (dTold t) = true := by
  rw [isKey, isKeys_all]
  apply List.all_eq_true.mpr
  intro x hx
  obtain ⟨o, _, rfl⟩ := List.mem_map.mp hx
  cases o with
  | none => rw [oN_none, isKey]
  | some k => rw [oN_some, isKey]
theorem depth_told (t : Told) : (toKey (dTold t)).depth ≤ 1 := by
  rw [toKey_told, NestedKey.depth]
  have : ∀ t : Told, NestedKey.depthAll (t.map fun o => match o with | none => NestedKey.none | some k => .num (k : Int)) = 0 := by
    intro t
    induction t with
    | nil => rfl
    | cons o t ih =>
      rw [List.map_cons, NestedKey.depthAll, ih]
      cases o <;> rfl
  rw [this]
  exact Nat.le_refl _
theorem told_key (t : Told) : TupKey (dTold t) := ⟨⟨_, rfl⟩, isKey_told t, Nat.le_trans (depth_told t) (by decide)⟩
theorem hKey_key (k : Told × Nat) : TupKey (hKey k) := by
  obtain ⟨t, n⟩ := k
  refine ⟨⟨_, rfl⟩, ?_, ?_⟩
  · unfold hKey
    rw [isKey, isKeys_all]
    simp only [List.all_cons, List.all_nil, isKey_told, Bool.true_and, Bool.and_true]
    rw [isKey]
  · unfold hKey
    rw [toKey, toKeys_map, NestedKey.depth]
    simp only [List.map_cons, List.map_nil, NestedKey.depthAll]
    have := depth_told t
    have e : toKey (D.int ((n : Nat) : Int)) = NestedKey.num (n : Int) := by rw [toKey]
    rw [e, NestedKey.depth]
    omega
def digO : Option Nat → Nat
  | none => 1
  | some k => k + 2
def codeT : Told → Nat
  | [] => 0
  | o :: t => digO o + 5 * codeT t
theorem code_lt {l : Nat} (hl : l ≤ 2) : ∀ t : Told, TOk l t → codeT t < 5 ^ t.length
  | [], _ => by decide
  | o :: t, h => by
    have ih := code_lt hl t fun k hk => h k (List.mem_cons_of_mem _ hk)
    have hd : digO o ≤ 4 := by
      cases o with
      | none => decide
      | some k => have := h k List.mem_cons_self; show k + 2 ≤ 4; omega
    rw [codeT, List.length_cons, Nat.pow_succ]
    omega
theorem code_inj {l : Nat} (hl : l ≤ 2) : ∀ t u : Told, TOk l t → TOk l u → codeT t = codeT u → t = u
  | [], [], _, _, _ => rfl
  | [], o :: u, _, _, e => by
    have : 1 ≤ digO o := by cases o with | none => decide | some k => show 1 ≤ k + 2; omega
    rw [codeT, codeT] at e
    omega
  | o :: t, [], _, _, e => by
    have : 1 ≤ digO o := by cases o with | none => decide | some k => show 1 ≤ k + 2; omega
    rw [codeT, codeT] at e
    omega
  | o :: t, o' :: u, h, h', e => by
    have d1 : digO o ≤ 4 := by
      cases o with
      | none => decide
      | some k => have := h k List.mem_cons_self; show k + 2 ≤ 4; omega
    have d2 : digO o' ≤ 4 := by
      cases o' with
      | none => decide
      | some k => have := h' k List.mem_cons_self; show k + 2 ≤ 4; omega
    rw [codeT, codeT] at e
    have e1 : digO o = digO o' := by omega
    have e2 : codeT t = codeT u := by omega
    rw [code_inj hl t u (fun k hk => h k (List.mem_cons_of_mem _ hk)) (fun k hk => h' k (List.mem_cons_of_mem _ hk)) e2]
    congr 1
    cases o <;> cases o' <;> simp [digO] at e1 ⊢
    exact e1
theorem code_dom {l : Nat} {t : Told} (h : Dom l t) : codeT t < 78125 := by
  have := code_lt h.l2 t h.k
  have h2 : 5 ^ t.length ≤ 5 ^ 7 := Nat.pow_le_pow_right (by decide) h.n
  have h3 : (5 : Nat) ^ 7 = 78125 := by decide
  omega
abbrev HMemo (l : Nat) (kvs : List (D × D)) : Prop := Memo hKey (hVal l) (hOk l) (fun _ => True) kvs
theorem HMemo.few {l : Nat} {kvs : List (D × D)} (h : HMemo l kvs) : kvs.length ≤ 16000000 := by
  refine Nat.le_trans (h.len (code := fun k => codeT k.1 * 32 + k.2) (N := 78125 * 32) (fun k hk => ?_) (fun k k' hk hk' e => ?_)) (by decide)
  · have := code_dom hk.1
    have := hk.2
    omega
  · have := hk.2
    have := hk'.2
    have e1 : codeT k.1 = codeT k'.1 := by omega
    have e2 : k.2 = k'.2 := by omega
    have e3 := code_inj hk.1.l2 _ _ hk.1.k hk'.1.k e1
    obtain ⟨t, n⟩ := k
    obtain ⟨t', n'⟩ := k'
    dsimp only at e2 e3
    rw [e2, e3]
def S_Halver_canAt (f : Nat) : SpD := fun es m R _ => ∃ (a d : Addr) (l : Nat) (kvs : List (D × D)) (t : Told) (n : Nat), es = [.r a, .d (dTold t), .d (.int n)] ∧ HalvAt m a d l kvs ∧ HMemo l kvs ∧ Dom l t ∧ n < f ∧ n < 32 ∧ ∀ kvs', HMemo l kvs' → R (.d (oI (canN l n t))) (mset m d (.dic kvs'))
def S_Halver_foundAt (f : Nat) : SpD := fun es m R _ => ∃ (a d : Addr) (l : Nat) (kvs : List (D × D)) (t : Told) (n : Nat), es = [.r a, .d (dTold t), .d (.int ((n + 1 : Nat) : Int))] ∧ HalvAt m a d l kvs ∧ HMemo l kvs ∧ Dom l t ∧ n + 1 < f ∧ n + 1 < 32 ∧ 2 ≤ leftT t ∧ ∀ kvs', HMemo l kvs' → R (.d (oI (canN l (n + 1) t))) (mset m d (.dic kvs'))
def rd_Halver_can (G : Ctx) (s_Halver_found : SpD) (W : WX) : TS :=
  tSeq (tIfS (tTest (tOp (rD2 G leF) (tMethD G .halver "left" (spL G S_Halver_left) (WE W) (tVar 0) (tCons (tVar 1) (tNil))) (tC (.int 1)))) (tRet (tUn (rD1 G negF) (tC (.int 1)))) (tNext))
  (tSeq (tIfS (tTest (tOp (rD2 G eqF) (tVar 2) (tC (.int 0)))) (tRet (tC .non)) (tNext))
  (tSeq (tAsg (tTup (tCons (tVar 1) (tCons (tVar 2) (tNil)))) (gName 3))
  (tSeq (tIfS (tTest (tOp (rD2 G notinD) (tVar 3) (tFldD G .halver (tVar 0) "known"))) (sDSet G (tFldD G .halver (tVar 0) "known") (tVar 3) (tMethD G .halver "found" (spL G s_Halver_found) (WE W) (tVar 0) (tCons (tVar 1) (tCons (tVar 2) (tNil))))) (tNext))
  (tRet (tOp (rD2 G idxD) (tFldD G .halver (tVar 0) "known") (tVar 3))))))

def rd_Halver_found (G : Ctx) (s_Halver_can : SpD) (W : WX) : TS :=
  tSeq (tFor (iRng2 (tCons (tC (.int 1)) (tCons (tCB (rDn G lenF) (tCons (tVar 1) (tNil))) (tNil)))) (gName 3) (tSeq (tAsg (tCallS (spL G S_asked_at) (WE W) (tCons (tVar 1) (tCons (tFldD G .halver (tVar 0) "most") (tCons (tVar 3) (tCons (tC (.bl true)) (tNil)))))) (gName 4))
  (tSeq (tAsg (tCallS (spL G S_asked_at) (WE W) (tCons (tVar 1) (tCons (tFldD G .halver (tVar 0) "most") (tCons (tVar 3) (tCons (tC (.bl false)) (tNil)))))) (gName 5))
  (tIfS (tAnd (tTest (tOp (rD2 G isnotF) (tMethD G .halver "can" (spL G s_Halver_can) (WE W) (tVar 0) (tCons (tVar 4) (tCons (tOp (rD2 G subF) (tVar 2) (tC (.int 1))) (tNil)))) (tC .non))) (tTest (tOp (rD2 G isnotF) (tMethD G .halver "can" (spL G s_Halver_can) (WE W) (tVar 0) (tCons (tVar 5) (tCons (tOp (rD2 G subF) (tVar 2) (tC (.int 1))) (tNil)))) (tC .non)))) (tRet (tVar 3)) (tNext)))))
  (tRet (tC .non))

theorem len_Halver_can (f : Nat) : ∀ es m R XR, S_Halver_canAt f es m R XR → es.length = 3 := by
  rintro es m R XR ⟨a, b, c, d, e, g, rfl, _⟩
  rfl
theorem len_Halver_found (f : Nat) : ∀ es m R XR, S_Halver_foundAt f es m R XR → es.length = 3 := by
  rintro es m R XR ⟨a, b, c, d, e, g, rfl, _⟩
  rfl
theorem no_Halver_can {es : List DV} {m : Mu} {R : DV → Mu → Prop} {XR : Tag → Mu → Prop} (h : S_Halver_canAt 0 es m R XR) : False := by
  obtain ⟨_, _, _, _, _, n, _, _, _, _, h, _⟩ := h
  omega
theorem sem_Halver_can (G : Ctx) (f : Nat) : BodyD G 4 (rd_Halver_can G (S_Halver_foundAt f)) (S_Halver_canAt f) := by
  rintro W es m R XR ⟨a, d, l, kvs, t, n, rfl, hA, hM, hD, hf, hn, h⟩
  have ho := hA.o
  have hk := hA.k
  have had := hA.ad
  have htl := hD.n
  unfold rd_Halver_can
  walk_at "r"
  refine ⟨a, t, rfl, by omega, ?_⟩
  have same : mset m d (.dic kvs) = m := by
    funext x
    by_cases e : x = d
    · subst e; rw [mset_same, hk]
    · rw [mset_ne e]
  walk_at "r"
  refine i_d (fun c => ?_) (fun c => ?_)
  · walk_at "r"
    have e : canN l n t = some (-1) := by cases n <;> (unfold canN; rw [if_pos (by omega)])
    have := h kvs hM
    rw [e, same] at this
    exact this
  · have c : 2 ≤ leftT t := by omega
    walk_at "r"
    refine i_d (fun c2 => ?_) (fun c2 => ?_)
    · have c2 : n = 0 := by omega
      subst c2
      walk_at "r"
      have e : canN l 0 t = none := by unfold canN; rw [if_neg (by omega)]
      have := h kvs hM
      rw [e, same] at this
      exact this
    · obtain ⟨k, rfl⟩ : ∃ k, n = k + 1 := ⟨n - 1, by omega⟩
      walk_at "r"
      refine ⟨kvs, hk, hKey_key (t, k + 1), ?_⟩
      cases e : dgetN kvs (hKey (t, k + 1)) with
      | none =>
        rw [show dgetN kvs (D.tup [dTold t, D.int ((k + 1 : Nat) : Int)]) = none from e]
        refine ex_bl (i_t ?_)
        walk_at "r"
        refine ⟨a, d, l, kvs, t, k, rfl, hA, hM, hD, hf, hn, c, fun kvs' hM' => ?_⟩
        have hA' := hA.put (kvs' := kvs')
        have ho' := hA'.o
        walk_at "r"
        refine ⟨d, _, _, kvs', rfl, rfl, rfl, mset_same, hKey_key (t, k + 1), hM'.few, ?_⟩
        have hM2 : HMemo l (dputN kvs' (hKey (t, k + 1)) (oI (canN l (k + 1) t))) := hM'.putV (fun _ _ _ _ z => hKey_inj z) (k := (t, k + 1)) ⟨hD, hn⟩ (fun _ => rfl) (fun _ _ _ _ => trivial)
        rw [mset_mset]
        have hA2 := hA.put (kvs' := dputN kvs' (hKey (t, k + 1)) (oI (canN l (k + 1) t)))
        have ho2 := hA2.o
        walk_at "r"
        exact ⟨_, _, mset_same, hKey_key (t, k + 1), dget_put, h _ hM2⟩
      | some v =>
        rw [show dgetN kvs (D.tup [dTold t, D.int ((k + 1 : Nat) : Int)]) = some v from e]
        refine ex_bl (i_f ?_)
        walk_at "r"
        refine ⟨_, _, hk, hKey_key (t, k + 1), e, ?_⟩
        have ev := hM.get (fun _ _ _ _ z => hKey_inj z) (k := (t, k + 1)) ⟨hD, hn⟩ trivial e
        rw [ev]
        have := h kvs hM
        rw [same] at this
        exact this
theorem find_at {c : Int → Bool} {k i : Nat} (hi : i < k) (h1 : ∀ j, j < i → c (1 + ((j : Nat) : Int)) = false) (h2 : c (1 + ((i : Nat) : Int)) = true) : ((List.range k).map fun i => 1 + ((i : Nat) : Int)).find? c = some (1 + ((i : Nat) : Int)) := by
  rw [List.find?_eq_some_iff_append]
  refine ⟨h2, ((List.range i).map fun i => 1 + ((i : Nat) : Int)), ((List.range' (i + 1) (k - i - 1)).map fun i => 1 + ((i : Nat) : Int)), ?_, fun x hx => ?_⟩
  · have e : List.range k = List.range i ++ i :: List.range' (i + 1) (k - i - 1) := by
      rw [List.range_eq_range', List.range_eq_range']
      have := List.range'_append_1 (s := 0) (m := i) (n := k - i)
      rw [Nat.zero_add] at this
      rw [show k = i + (k - i) by omega, ← this, show i + (k - i) - i - 1 = k - i - 1 by omega]
      congr 1
      obtain ⟨z, hz⟩ : ∃ z, k - i = z + 1 := ⟨k - i - 1, by omega⟩
      rw [hz, List.range'_succ]
      rfl
    rw [e, List.map_append, List.map_cons]
  · obtain ⟨j, hj, rfl⟩ := List.mem_map.mp hx
    rw [h1 j (List.mem_range.mp hj)]
    rfl
theorem find_no {c : Int → Bool} {k : Nat} (h1 : ∀ j, j < k → c (1 + ((j : Nat) : Int)) = false) : ((List.range k).map fun i => 1 + ((i : Nat) : Int)).find? c = none := by
  rw [List.find?_eq_none]
  intro x hx
  obtain ⟨j, hj, rfl⟩ := List.mem_map.mp hx
  rw [h1 j (List.mem_range.mp hj)]
  exact Bool.false_ne_true
theorem sem_Halver_found (G : Ctx) (f : Nat) : BodyD G 6 (rd_Halver_found G (S_Halver_canAt f)) (S_Halver_foundAt (f + 1)) := by
  rintro W es m R XR ⟨a, d, l, kvs, t, n, rfl, hA, hM, hD, hf, hn, h2, h⟩
  have had := hA.ad
  have htl := hD.n
  have htl2 : 2 ≤ t.length := by unfold leftT at h2; have := List.length_filter_le (·.isSome) t; omega
  have eC : canN l (n + 1) t = (placesN t).find? fun p => (canN l n (askN l p true t)).isSome && (canN l n (askN l p false t)).isSome := by rw [canN]; rw [if_neg (by omega)]
  unfold rd_Halver_found
  walk_at "r"
  refine ⟨1, _, rfl, ⟨by decide, by decide, by omega, by omega⟩, ?_⟩
  rw [show ((t.length : Int) - 1).toNat = t.length - 1 by omega]
  refine forN (fun i ds' m' => (∀ j, j < i → ((canN l n (askN l (1 + ((j : Nat) : Int)) true t)).isSome && (canN l n (askN l (1 + ((j : Nat) : Int)) false t)).isSome) = false) ∧ ∃ kvs' o3 o4 o5, HMemo l kvs' ∧ m' = mset m d (.dic kvs') ∧ ds' = [some (.r a), some (.d (dTold t)), some (.d (.int ((n + 1 : Nat) : Int))), o3, o4, o5]) ⟨(fun _ z => absurd z (Nat.not_lt_zero _)), kvs, none, none, none, hM, ?_, rfl⟩ ?_ ?_
  · funext x
    by_cases e : x = d
    · subst e; rw [mset_same, hA.k]
    · rw [mset_ne e]
  · rintro i ds' m' hi ⟨hno, kvs', o3, o4, o5, hM', rfl, rfl⟩
    have hA' := hA.put (kvs' := kvs')
    have ho' := hA'.o
    walk_at "r"
    refine ⟨t, l, _, true, rfl, by omega, ?_⟩
    walk_at "r"
    refine ⟨t, l, _, false, rfl, by omega, ?_⟩
    walk_at "r"
    rw [show ((n + 1 : Nat) : Int) - 1 = ((n : Nat) : Int) by omega]
    refine ⟨a, d, l, kvs', _, n, rfl, hA', hM', hD.ask _ _, by omega, by omega, fun kvs2 hM2 => ?_⟩
    rw [mset_mset]
    have hA2 := hA.put (kvs' := kvs2)
    have ho2 := hA2.o
    have fail : ∀ kvs3, HMemo l kvs3 → ((canN l n (askN l (1 + ((i : Nat) : Int)) true t)).isSome && (canN l n (askN l (1 + ((i : Nat) : Int)) false t)).isSome) = false → (∀ j, j < i + 1 → ((canN l n (askN l (1 + ((j : Nat) : Int)) true t)).isSome && (canN l n (askN l (1 + ((j : Nat) : Int)) false t)).isSome) = false) ∧ ∃ kvs' o3 o4 o5, HMemo l kvs' ∧ mset m d (.dic kvs3) = mset m d (.dic kvs') ∧ [some (.r a), some (.d (dTold t)), some (.d (.int ((n + 1 : Nat) : Int))), some (.d (.int (1 + (i : Int)))), some (.d (dTold (askN l (1 + (i : Int)) true t))), some (.d (dTold (askN l (1 + (i : Int)) false t)))] = [some (DV.r a), some (.d (dTold t)), some (.d (.int ((n + 1 : Nat) : Int))), o3, o4, o5] := by
      intro kvs3 h3 hc
      refine ⟨fun j hj => ?_, kvs3, _, _, _, h3, rfl, rfl⟩
      by_cases e : j = i
      · rw [e]; exact hc
      · exact hno j (by omega)
    cases e1 : canN l n (askN l (1 + ((i : Nat) : Int)) true t) with
    | none =>
      dsimp only [oI]
      walk_at "r"
      exact fail kvs2 hM2 (by rw [e1]; rfl)
    | some p1 =>
      dsimp only [oI]
      walk_at "r"
      rw [show ((n + 1 : Nat) : Int) - 1 = ((n : Nat) : Int) by omega]
      refine ⟨a, d, l, kvs2, _, n, rfl, hA2, hM2, hD.ask _ _, by omega, by omega, fun kvs3 hM3 => ?_⟩
      rw [mset_mset]
      cases e2 : canN l n (askN l (1 + ((i : Nat) : Int)) false t) with
      | none =>
        dsimp only [oI]
        walk_at "r"
        exact fail kvs3 hM3 (by rw [e1, e2]; rfl)
      | some p2 =>
        dsimp only [oI]
        walk_at "r"
        have := h kvs3 hM3
        rw [eC, show placesN t = (List.range (t.length - 1)).map fun i => 1 + ((i : Nat) : Int) from rfl, find_at hi hno (by rw [e1, e2]; rfl)] at this
        exact this
  · rintro ds' m' ⟨hno, kvs', o3, o4, o5, hM', rfl, rfl⟩
    walk_at "r"
    have := h kvs' hM'
    rw [eC, show placesN t = (List.range (t.length - 1)).map fun i => 1 + ((i : Nat) : Int) from rfl, find_no hno] at this
    exact this
def S_Halver_can : SpD := S_Halver_canAt 32
def S_least_halves : SpD := fun es m R XR => ∃ (xs : List (Option Int)) (l : Int), es = [.d (.tup (xs.map oI)), .d (.int l)] ∧ xs.length ≤ 1000 ∧ (¬ GameOk (maxI xs.length) l → XR .game m) ∧ (GameOk (maxI xs.length) l → ¬ LT xs l → XR .counts m) ∧ (LT xs l → ∀ t : Told, xs.map oI = t.map oN → Dom l.toNat t → R (.d (.tup [.int (leastN l.toNat t : Nat), oI (canN l.toNat (leastN l.toNat t) t)])) m)
def rd_least_halves (G : Ctx) (W : WX) : TS :=
  tSeq (tDrop (tCallS (spL G S_look_told) (WE W) (tCons (tVar 0) (tCons (tVar 1) (tNil)))))
  (tSeq (tAsg (tMakeS G .halver (spL G S_Halver___init__) (WE W) (tCons (tVar 1) (tNil))) (gName 2))
  (tSeq (tAsg (tC (.int 0)) (gName 3))
  (tSeq (tWhile (tTest (tOp (rD2 G isF) (tMethD G .halver "can" (spL G S_Halver_can) (WE W) (tVar 2) (tCons (tCB (rDn G tupleF) (tCons (tVar 0) (tNil))) (tCons (tVar 3) (tNil)))) (tC .non))) (tAsg (tOp (rD2 G addF) (tVar 3) (tC (.int 1))) (gName 3)))
  (tRet (tTup (tCons (tVar 3) (tCons (tMethD G .halver "can" (spL G S_Halver_can) (WE W) (tVar 2) (tCons (tCB (rDn G tupleF) (tCons (tVar 0) (tNil))) (tCons (tVar 3) (tNil)))) (tNil))))))))

theorem len_least_halves : ∀ es m R XR, S_least_halves es m R XR → es.length = 2 := by
  rintro es m R XR ⟨a, b, rfl, _⟩
  rfl
theorem least_le {l : Nat} {t : Told} (h : Dom l t) : leastN l t ≤ 21 := (least_spec h 21).mp (can_Phi 21 t h.k h.ph)
theorem sem_least_halves (G : Ctx) : BodyD G 4 (rd_least_halves G) S_least_halves := by
  rintro W es m R XR ⟨xs, l, rfl, hx, h1, h2, h3⟩
  unfold rd_least_halves
  walk_at "r"
  refine ⟨xs, l, rfl, hx, h1, h2, fun ok => ?_⟩
  obtain ⟨t, et, hD, _⟩ := ok.told
  obtain ⟨k, rfl⟩ := Int.eq_ofNat_of_zero_le ok.2.2.1
  have hh := h3 ok t et hD
  rw [Int.toNat_natCast] at hh hD
  have hle := least_le hD
  rw [et]
  walk_at "r"
  intro a ha
  refine ⟨a, k, rfl, mset_same, fun d m1 hd hA fr => ⟨rfl, ?_⟩⟩
  obtain ⟨hda, hdm⟩ := none_mset hd
  have hsub : ∀ kvs, Sub m (mset m1 d (.dic kvs)) := fun kvs x => by
    by_cases x1 : x = d
    · subst x1; exact .inl hdm
    · rw [mset_ne x1]
      by_cases x2 : x = a
      · subst x2; exact .inl ha
      · rw [fr x x2 x1, mset_ne x2]; exact .inr rfl
  walk_at "r"
  refine st_while (fun f ds' m' => ∃ n kvs, n + f = leastN k t ∧ HMemo k kvs ∧ m' = mset m1 d (.dic kvs) ∧ ds' = [some (.d (dTold t)), some (.d (.int (k : Nat))), some (.r a), some (.d (.int (n : Nat)))]) (leastN k t) ⟨0, [], by omega, Memo.nil, ?_, rfl⟩ ?_
  · funext x
    by_cases e : x = d
    · subst e; rw [mset_same, hA.k]
    · rw [mset_ne e]
  rintro f ds' m' ⟨n, kvs, hf, hM, rfl, rfl⟩
  have hA' := hA.put (kvs' := kvs)
  have ho' := hA'.o
  walk_at "r"
  refine ⟨a, d, k, kvs, t, n, rfl, hA', hM, hD, by omega, by omega, fun kvs2 hM2 => ?_⟩
  rw [mset_mset]
  have hA2 := hA.put (kvs' := kvs2)
  have ho2 := hA2.o
  have key := least_spec hD n
  cases e : canN k n t with
  | none =>
    dsimp only [oI]
    walk_at "r"
    rw [e] at key
    have : ¬ leastN k t ≤ n := fun z => by have := key.mpr z; cases this
    exact ⟨f - 1, by omega, n + 1, kvs2, by omega, hM2, rfl, by rw [show ((n : Int) + 1) = ((n + 1 : Nat) : Int) by omega]; rfl⟩
  | some p =>
    dsimp only [oI]
    refine ev_non (f_is_i (ex_bl (i_f ?_)))
    rw [e] at key
    have hn : n = leastN k t := by have := key.mp rfl; omega
    refine st_ret (ev_drop ?_)
    walk_at "r"
    refine ⟨a, d, k, kvs2, t, n, rfl, hA2, hM2, hD, by omega, by omega, fun kvs3 hM3 => ?_⟩
    rw [mset_mset]
    walk_at "r"
    refine ⟨m, hsub _, ?_⟩
    rw [hn]
    exact hh
end Lb

/-! Ma52: a row searched: the numbers. -/
namespace Lb
open PySem L2
def placeN (l : Nat) (t : Told) : Int := (canN l (leastN l t) t).getD 0
def stN (l : Nat) : Told → List Bool → Told
  | t, [] => t
  | t, a :: as => stN l (askN l (placeN l t) a t) as
def plN (l : Nat) : Told → List Bool → List Int
  | _, [] => []
  | t, a :: as => placeN l t :: plN l (askN l (placeN l t) a t) as
theorem stN_app (l : Nat) (a : Bool) : ∀ (as : List Bool) (t : Told), stN l t (as ++ [a]) = askN l (placeN l (stN l t as)) a (stN l t as)
  | [], _ => rfl
  | b :: as, t => stN_app l a as _
theorem plN_app (l : Nat) (a : Bool) : ∀ (as : List Bool) (t : Told), plN l t (as ++ [a]) = plN l t as ++ [placeN l (stN l t as)]
  | [], _ => rfl
  | b :: as, t => by
    show _ :: plN l _ (as ++ [a]) = _ :: (plN l _ as ++ _)
    rw [plN_app l a as]
    rfl
theorem plN_len (l : Nat) : ∀ (as : List Bool) (t : Told), (plN l t as).length = as.length
  | [], _ => rfl
  | b :: as, t => by show (_ :: plN l _ as).length = _; rw [List.length_cons, plN_len l as, List.length_cons]
theorem plN_take (l : Nat) : ∀ (k : Nat) (as : List Bool) (t : Told), plN l t (as.take k) = (plN l t as).take k
  | 0, as, t => rfl
  | k + 1, [], t => rfl
  | k + 1, b :: as, t => by
    show _ :: plN l _ (as.take k) = _ :: (plN l _ as).take k
    rw [plN_take l k as]
theorem Dom.st {l : Nat} : ∀ (as : List Bool) {t : Told}, Dom l t → Dom l (stN l t as)
  | [], _, h => h
  | _ :: as, _, h => Dom.st as (h.ask _ _)
theorem st_len (l : Nat) : ∀ (as : List Bool) (t : Told), (stN l t as).length = t.length
  | [], _ => rfl
  | _ :: as, t => by show (stN l _ as).length = _; rw [st_len l as, ask_len]
/-- each of some answers was asked for -/
def Asks (l : Nat) (t : Told) (as : List Bool) : Prop := ∀ k, k < as.length → 2 ≤ leftT (stN l t (as.take k))
theorem Asks.app {l : Nat} {t : Told} {as : List Bool} {a : Bool} (h : Asks l t as) (h2 : 2 ≤ leftT (stN l t as)) : Asks l t (as ++ [a]) := fun k hk => by
  rw [List.length_append] at hk
  have hk : k < as.length + 1 := hk
  by_cases c : k < as.length
  · rw [List.take_append_of_le_length (by omega)]; exact h k c
  · rw [show k = as.length by omega, List.take_append_of_le_length (Nat.le_refl _), List.take_length]; exact h2
theorem Asks.take {l : Nat} {t : Told} {as : List Bool} (h : Asks l t as) (j : Nat) : Asks l t (as.take j) := fun k hk => by
  rw [List.length_take] at hk
  rw [List.take_take, show min k j = k by omega]
  exact h k (by omega)
theorem place_spec {l : Nat} {t : Told} (h : Dom l t) (h2 : 2 ≤ leftT t) : canN l (leastN l t) t = some (placeN l t) ∧ placeN l t ∈ placesN t ∧ goodP l t (placeN l t) ∧ costP l t (placeN l t) ≤ leastN l t := by
  obtain ⟨f1, f2, f3⟩ := least_first h h2
  have hs := (least_spec h (leastN l t)).mpr (Nat.le_refl _)
  unfold placeN
  cases e : canN l (leastN l t) t with
  | none => rw [e] at hs; cases hs
  | some p =>
    rw [f3] at e
    have h3 := List.find?_some e
    have h4 := List.mem_of_find?_eq_some e
    exact ⟨rfl, h4, f2 p h4 (of_decide_eq_true h3), of_decide_eq_true h3⟩
theorem place_pos {l : Nat} {t : Told} (h : Dom l t) (h2 : 2 ≤ leftT t) : 1 ≤ placeN l t ∧ placeN l t < t.length := by
  obtain ⟨_, h4, _⟩ := place_spec h h2
  obtain ⟨i, hi, e⟩ := List.mem_map.mp h4
  have := List.mem_range.mp hi
  omega
theorem place_no {l : Nat} {t : Told} (h : Dom l t) (h2 : ¬ 2 ≤ leftT t) : leastN l t = 0 ∧ canN l (leastN l t) t = some (-1) ∧ placeN l t = -1 := by
  have e1 : canN l 0 t = some (-1) := by unfold canN; rw [if_pos (by omega)]
  have e0 : leastN l t = 0 := by have := (least_spec h 0).mp (by rw [e1]; rfl); omega
  exact ⟨e0, by rw [e0, e1], by unfold placeN; rw [e0, e1]; rfl⟩
theorem least_down {l : Nat} {t : Told} (h : Dom l t) (h2 : 2 ≤ leftT t) (a : Bool) : leastN l (askN l (placeN l t) a t) + 1 ≤ leastN l t := by
  obtain ⟨_, _, _, hc⟩ := place_spec h h2
  unfold costP at hc
  cases a <;> omega
theorem least_run {l : Nat} {t : Told} (h : Dom l t) (as : List Bool) : Asks l t as → leastN l (stN l t as) + as.length ≤ leastN l t := by
  refine snoc_ind (P := fun as => Asks l t as → leastN l (stN l t as) + as.length ≤ leastN l t) (fun _ => Nat.le_refl _) (fun as a ih hA => ?_) as
  have h1 : Asks l t as := by have := hA.take as.length; rwa [List.take_append_of_le_length (Nat.le_refl _), List.take_length] at this
  have h2 : 2 ≤ leftT (stN l t as) := by have := hA as.length (by simp); rwa [List.take_append_of_le_length (Nat.le_refl _), List.take_length] at this
  have := ih h1
  have := least_down (h.st as) h2 a
  rw [stN_app, List.length_append]
  show _ + (as.length + 1) ≤ _
  omega
/-! ### the lies of a thing -/
def fitsN (ps : List Int) (as : List Bool) (t : Int) : Nat := ((List.range ps.length).filter fun k => decide (t < ps.getD k 0) != as.getD k false).length
theorem fits_app {ps : List Int} {as : List Bool} {p : Int} {a : Bool} {t : Int} (h : ps.length = as.length) : fitsN (ps ++ [p]) (as ++ [a]) t = fitsN ps as t + if (decide (t < p) != a) = true then 1 else 0 := by
  unfold fitsN
  rw [List.length_append]
  show (List.filter _ (List.range (ps.length + 1))).length = _
  rw [List.range_succ, List.filter_append, List.length_append]
  congr 1
  · congr 1
    apply List.filter_congr
    intro k hk
    have hk := List.mem_range.mp hk
    rw [List.getD_eq_getElem?_getD, List.getD_eq_getElem?_getD, List.getElem?_append_left hk, List.getElem?_append_left (by omega)]
    rw [List.getD_eq_getElem?_getD, List.getD_eq_getElem?_getD]
  · rw [List.filter_cons, List.filter_nil]
    have e1 : (ps ++ [p]).getD ps.length 0 = p := by rw [List.getD_eq_getElem?_getD]; simp
    have e2 : (as ++ [a]).getD ps.length false = a := by rw [List.getD_eq_getElem?_getD, h]; simp
    rw [e1, e2]
    split <;> rfl
abbrev zerosN (n : Nat) : Told := List.replicate n (some 0)
theorem zeros_dom {n l : Nat} (hn : n ≤ 7) (hl : l ≤ 2) : Dom l (zerosN n) := ⟨fun k hk => by
  have := (List.mem_replicate.mp hk).2
  cases this
  omega, by rw [List.length_replicate]; exact hn, hl⟩
theorem st_fits {n l : Nat} {t : Nat} (ht : t < n) (as : List Bool) : (stN l (zerosN n) as).getD t none = if fitsN (plN l (zerosN n) as) as (t : Int) ≤ l then some (fitsN (plN l (zerosN n) as) as (t : Int)) else none := by
  refine snoc_ind (P := fun as => (stN l (zerosN n) as).getD t none = if fitsN (plN l (zerosN n) as) as (t : Int) ≤ l then some (fitsN (plN l (zerosN n) as) as (t : Int)) else none) ?_ (fun as a ih => ?_) as
  · show (zerosN n).getD t none = _
    rw [List.getD_eq_getElem?_getD, List.getElem?_replicate, if_pos ht]
    show some 0 = if fitsN [] [] (t : Int) ≤ l then some (fitsN [] [] (t : Int)) else none
    have : fitsN [] [] (t : Int) = 0 := rfl
    rw [this, if_pos (Nat.zero_le _)]
  · rw [stN_app, plN_app, fits_app (plN_len _ _ _), ask_get (by rw [st_len, List.length_replicate]; exact ht), ih]
    generalize fitsN (plN l (zerosN n) as) as (t : Int) = f
    cases c : (decide ((t : Int) < placeN l (stN l (zerosN n) as)) != a) with
    | true =>
      rw [if_pos rfl]
      by_cases c1 : f ≤ l
      · rw [if_pos c1]
        show (if f < l then some (f + 1) else none) = _
        by_cases c2 : f < l
        · rw [if_pos c2, if_pos (by omega)]
        · rw [if_neg c2, if_neg (by omega)]
      · rw [if_neg c1, if_neg (by omega)]
        rfl
    | false =>
      rw [if_neg Bool.false_ne_true]
      by_cases c1 : f ≤ l
      · rw [if_pos c1, if_pos (by omega)]
        rfl
      · rw [if_neg c1, if_neg (by omega)]
        rfl
/-! ### who is left -/
def leftI (t : Told) : List Nat := (List.range t.length).filter fun i => (t.getD i none).isSome
theorem leftI_len : ∀ t : Told, (leftI t).length = leftT t := by
  intro t
  refine snoc_ind (P := fun t => (leftI t).length = leftT t) rfl (fun t o ih => ?_) t
  unfold leftI leftT at *
  rw [List.length_append]
  show (List.filter _ (List.range (t.length + 1))).length = _
  rw [List.range_succ, List.filter_append, List.filter_append, List.length_append, List.length_append, ← ih]
  congr 1
  · congr 1
    apply List.filter_congr
    intro i hi
    have hi := List.mem_range.mp hi
    rw [List.getD_eq_getElem?_getD, List.getD_eq_getElem?_getD, List.getElem?_append_left hi]
  · have e : (t ++ [o]).getD t.length none = o := by rw [List.getD_eq_getElem?_getD]; simp
    rw [List.filter_cons, List.filter_cons, e]
    cases o <;> rfl
theorem mem_leftI {t : Told} {i : Nat} : i ∈ leftI t ↔ i < t.length ∧ (t.getD i none).isSome = true := by
  unfold leftI
  rw [List.mem_filter, List.mem_range]
def oneI (t : Told) : Option Int := match leftI t with
  | [i] => some (i : Int)
  | _ => none
theorem left_one {t : Told} {i : Nat} (h : leftT t ≤ 1) (hi : i ∈ leftI t) : leftI t = [i] := by
  rw [← leftI_len] at h
  match e : leftI t with
  | [] => rw [e] at hi; cases hi
  | [j] => rw [e] at hi; rw [List.mem_singleton.mp hi]
  | _ :: _ :: _ => rw [e] at h; simp at h
end Lb

/-! SmR6: a refusal told, of six kinds. -/
namespace Lb
open PySem L2
local macro_rules | `(tactic| walk_at "v") => `(tactic| ((with_reducible refine ev_var (d := ?dv) ?hv ?_); (case hv => exact rfl)))
local macro_rules | `(tactic| walk_at "f") => `(tactic| first
  | with_reducible refine f_in ?_
  | with_reducible refine f_notin ?_
  | with_reducible refine f_add_i ?_
  | with_reducible refine f_add_s ?_
  | with_reducible refine f_add_l ?_
  | with_reducible refine f_add_t ?_
  | with_reducible refine f_sub ?_
  | with_reducible refine f_mul_i ?_
  | with_reducible refine f_mul_l ?_
  | with_reducible refine f_mul_t ?_
  | with_reducible refine f_div ?_
  | with_reducible refine f_mod ?_
  | with_reducible refine f_pow ?_
  | with_reducible refine f_lt ?_
  | with_reducible refine f_le ?_
  | with_reducible refine f_gt ?_
  | with_reducible refine f_ge ?_
  | with_reducible refine f_eq_i ?_
  | with_reducible refine f_ne_i ?_
  | with_reducible refine f_eq_b ?_
  | with_reducible refine f_ne_b ?_
  | with_reducible refine f_is_n ?_
  | with_reducible refine f_isnot_n ?_
  | with_reducible refine f_is_i ?_
  | with_reducible refine f_isnot_i ?_
  | with_reducible refine f_is_b ?_
  | with_reducible refine f_isnot_b ?_
  | with_reducible refine f_is_s ?_
  | with_reducible refine f_isnot_s ?_
  | with_reducible refine f_is_l ?_
  | with_reducible refine f_isnot_l ?_
  | with_reducible refine f_is_t ?_
  | with_reducible refine f_isnot_t ?_
  | with_reducible refine f_is_r ?_
  | with_reducible refine f_isnot_r ?_
  | with_reducible refine f_is ?_
  | with_reducible refine f_isnot ?_
  | with_reducible refine f_neg ?_
  | with_reducible refine f_len_ml ?_
  | with_reducible refine f_len_mt ?_
  | with_reducible refine f_sum_l ?_
  | with_reducible refine f_sum_t ?_
  | with_reducible refine f_all ?_
  | with_reducible refine f_any ?_
  | with_reducible refine f_len_l ?_
  | with_reducible refine f_len_t ?_
  | with_reducible refine f_len_c ?_
  | with_reducible refine f_abs ?_
  | with_reducible refine f_min2 ?_
  | with_reducible refine f_max2 ?_
  | with_reducible refine f_list_l ?_
  | with_reducible refine f_list_t ?_
  | with_reducible refine f_tup_l ?_
  | with_reducible refine f_tup_t ?_
  | with_reducible refine f_int_i ?_
  | with_reducible refine f_int_b ?_
  | with_reducible refine f_sl_l ?_
  | with_reducible refine f_sl_t ?_
  | with_reducible refine f_tr_n ?_
  | with_reducible refine f_tr_b ?_
  | with_reducible refine f_tr_i ?_
  | with_reducible refine f_tr_l ?_
  | with_reducible refine f_tr_t ?_
  | with_reducible refine f_tr_c ?_)
local macro_rules | `(tactic| walk_at "w") => `(tactic| first
  | walk_at "v"
  | with_reducible refine ev_rev ?_
  | with_reducible refine ev_sset ?_
  | with_reducible refine ev_lcl ?_
  | with_reducible refine ev_lct ?_
  | with_reducible refine ev_lcs ?_
  | with_reducible refine ev_lc1 ?_
  | with_reducible refine ev_lc2 ?_
  | with_reducible refine st_forl ?_
  | with_reducible refine st_fort ?_
  | with_reducible refine st_fors ?_
  | with_reducible refine st_for1 ?_
  | with_reducible refine st_for2 ?_
  | with_reducible refine ex_bl ?_
  | with_reducible refine ex_in ?_
  | with_reducible refine ex_ls ?_
  | with_reducible refine ex_tu ?_
  | with_reducible refine ex_st ?_
  | with_reducible refine ex_d0 ?_
  | with_reducible refine ex_d1 ?_
  | with_reducible refine ex_d2 ?_
  | with_reducible refine ex_d3 ?_
  | with_reducible refine ex_d4 ?_
  | with_reducible refine ex_d5 ?_
  | with_reducible refine ex_d6 ?_
  | with_reducible refine ex_d7 ?_
  | with_reducible refine ex_d8 ?_
  | with_reducible refine m_and ?_
  | with_reducible refine i_t ?_
  | with_reducible refine i_f ?_
  | with_reducible refine i_nt ?_
  | with_reducible refine i_nf ?_
  | with_reducible refine ev_tup ?_
  | with_reducible refine ev_lst ?_
  | with_reducible refine ev_int ?_
  | with_reducible refine ea_cons ?_
  | with_reducible refine ea_nil ?_
  | with_reducible refine ev_op ?_
  | with_reducible refine st_seq ?_
  | with_reducible refine st_asg ?_
  | with_reducible refine ev_call ?_
  | with_reducible refine ev_cb ?_
  | with_reducible refine st_if ?_
  | with_reducible refine et_test ?_
  | with_reducible refine et_not ?_
  | with_reducible refine et_or ?_
  | with_reducible refine et_and ?_
  | with_reducible refine et_tru ?_
  | with_reducible refine et_yes ?_
  | with_reducible refine et_B ?_
  | with_reducible refine ev_chain ?_
  | with_reducible refine ev_chain3 ?_
  | with_reducible refine ev_un ?_
  | with_reducible refine ev_if ?_
  | with_reducible refine ev_bl ?_
  | with_reducible refine ev_non ?_
  | with_reducible refine ev_str ?_
  | with_reducible refine ev_andV ?_
  | with_reducible refine ev_orV ?_
  | with_reducible refine ev_notV ?_
  | with_reducible refine ev_isB ?_
  | with_reducible refine ev_isE ?_
  | with_reducible refine ev_sl2 ?_
  | with_reducible refine ev_slA ?_
  | with_reducible refine ev_slB ?_
  | with_reducible refine ev_bmL ?_
  | with_reducible refine ev_bmL0 ?_
  | with_reducible refine st_ret ?_
  | with_reducible refine st_drop ?_
  | with_reducible refine st_next ?_
  | with_reducible refine st_setL ?_
  | with_reducible refine st_asgG ?_
  | with_reducible refine st_raise ?_
  | with_reducible refine gt_name ?_
  | with_reducible refine gt_tup2 ?_
  | with_reducible refine gt_tup3 ?_
  | walk_at "f")
local macro_rules | `(tactic| walk_at "r") => `(tactic| repeat walk_at "w")

def S_law_refusal : SpD := fun es m R _ => ∃ a t, es = [.r a] ∧ m a = some (.exc t) ∧ t ≠ .row ∧ R (.d (.str (tagS t))) m
def rd_law_refusal (G : Ctx) (W : WX) : TS :=
  tSeq (tIfS (tTest (tOp (rD2 G isF) (tVar 0) (tC .non))) (tRet (tC (.str (Str.ofString "ok")))) (tNext))
  (tSeq (tAsg (tLst (tCons (tCB (rIsE1 G (.ref (G.ex .counts)) (isEF .counts)) (tCons (tVar 0) (tCons (tC (.ref (G.ex .counts))) tNil))) (tCons (tCB (rIsE1 G (.ref (G.ex .game)) (isEF .game)) (tCons (tVar 0) (tCons (tC (.ref (G.ex .game))) tNil))) (tCons (tCB (rIsE1 G (.ref (G.ex .plan)) (isEF .plan)) (tCons (tVar 0) (tCons (tC (.ref (G.ex .plan))) tNil))) (tNil))))) (gName 1))
  (tSeq (tAsg (tOp (rD2 G addF) (tVar 1) (tLst (tCons (tCB (rIsE1 G (.ref (G.ex .question)) (isEF .question)) (tCons (tVar 0) (tCons (tC (.ref (G.ex .question))) tNil))) (tCons (tCB (rIsE1 G (.ref (G.ex .text)) (isEF .text)) (tCons (tVar 0) (tCons (tC (.ref (G.ex .text))) tNil))) (tCons (tCB (rIsE1 G (.ref (G.ex .liar)) (isEF .liar)) (tCons (tVar 0) (tCons (tC (.ref (G.ex .liar))) tNil))) (tNil)))))) (gName 1))
  (tSeq (tIfS (tOr (tTest (tOp (rD2 G neF) (tBM G.K "list" (rDM G countF) (tVar 1) (tCons (tC (.bl true)) (tNil))) (tC (.int 1)))) (tNot (tTru G.K (tCB (rIsE1 G (.ty "ValueError") isVF) (tCons (tVar 0) (tCons (tC (.ty "ValueError")) tNil)))))) (tRet (tC (.str (Str.ofString "wrong")))) (tNext))
  (tRet (tOp (rD2 G idxF) (tLst (tCons (tC (.str (Str.ofString "counts"))) (tCons (tC (.str (Str.ofString "game"))) (tCons (tC (.str (Str.ofString "plan"))) (tCons (tC (.str (Str.ofString "question"))) (tCons (tC (.str (Str.ofString "text"))) (tCons (tC (.str (Str.ofString "liar"))) (tNil)))))))) (tBM G.K "list" (rDM G indexF) (tVar 1) (tCons (tC (.bl true)) (tNil))))))))

theorem len_law_refusal : ∀ es m R XR, S_law_refusal es m R XR → es.length = 1 := by
  rintro es m R XR ⟨ns, k, rfl, _⟩
  rfl
theorem sh_bls {n : Nat} {bs : List Bool} : ∀ y ∈ bs.map D.bl, Sh n y := fun y hy => by
  obtain ⟨i, _, rfl⟩ := List.mem_map.mp hy
  exact sh_bl
theorem count_bls (bs : List Bool) : ((bs.map D.bl).countP fun y => eqD y (.bl true)) = bs.countP id := by
  rw [List.countP_map]
  congr 1
  funext b
  show eqD (.bl b) (.bl true) = b
  rw [eqD_bl]
  cases b <;> rfl
theorem find_bls (bs : List Bool) : ((bs.map D.bl).findIdx? fun y => eqD y (.bl true)) = bs.findIdx? id := by
  rw [List.findIdx?_map]
  congr 1
  funext b
  show eqD (.bl b) (.bl true) = b
  rw [eqD_bl]
  cases b <;> rfl
theorem sem_law_refusal (G : Ctx) : BodyD G 2 (rd_law_refusal G) S_law_refusal := by
  rintro W es m R XR ⟨a, t, rfl, ha, h2, h⟩
  unfold rd_law_refusal
  walk_at "r"
  refine ⟨t, ha, ?_⟩
  walk_at "r"
  refine ⟨t, ha, ?_⟩
  walk_at "r"
  refine ⟨t, ha, ?_⟩
  walk_at "r"
  refine ⟨t, ha, ?_⟩
  walk_at "r"
  refine ⟨t, ha, ?_⟩
  walk_at "r"
  refine ⟨t, ha, ?_⟩
  walk_at "r"
  refine ⟨by show 6 ≤ 100000; decide, ?_⟩
  walk_at "r"
  refine ⟨trivial, ?_⟩
  walk_at "r"
  refine ⟨.bl true, _, rfl, rfl, sh_bls (bs := [_, _, _, _, _, _]), sh_bl, ?_⟩
  have e1 := count_bls [decide (t = .counts), decide (t = .game), decide (t = .plan), decide (t = .question), decide (t = .text), decide (t = .liar)]
  have e2 : List.countP id [decide (t = .counts), decide (t = .game), decide (t = .plan), decide (t = .question), decide (t = .text), decide (t = .liar)] = 1 := by cases t <;> first | rfl | exact absurd rfl h2
  have e3 := e1.trans e2
  have e4 := find_bls [decide (t = .counts), decide (t = .game), decide (t = .plan), decide (t = .question), decide (t = .text), decide (t = .liar)]
  walk_at "r"
  refine i_nd (fun q => absurd (congrArg (fun n : Nat => (n : Int)) e3) q) (fun _ => ?_)
  walk_at "r"
  refine ⟨t, ha, ?_⟩
  walk_at "r"
  refine ⟨trivial, ?_⟩
  walk_at "r"
  have fin : ∀ j s, List.findIdx? id [decide (t = .counts), decide (t = .game), decide (t = .plan), decide (t = .question), decide (t = .text), decide (t = .liar)] = some j → [D.str (Str.ofString "counts"), D.str (Str.ofString "game"), D.str (Str.ofString "plan"), D.str (Str.ofString "question"), D.str (Str.ofString "text"), D.str (Str.ofString "liar")][j]? = some s → s = D.str (tagS t) := by
    intro j s hj hs
    cases t <;> first
      | exact absurd rfl h2
      | (cases hj; cases hs; rfl)
  have ex : ∃ j s, List.findIdx? id [decide (t = .counts), decide (t = .game), decide (t = .plan), decide (t = .question), decide (t = .text), decide (t = .liar)] = some j ∧ [D.str (Str.ofString "counts"), D.str (Str.ofString "game"), D.str (Str.ofString "plan"), D.str (Str.ofString "question"), D.str (Str.ofString "text"), D.str (Str.ofString "liar")][j]? = some s := by
    cases t <;> first
      | exact absurd rfl h2
      | exact ⟨_, _, rfl, rfl⟩
  obtain ⟨j, s, hj, hs⟩ := ex
  refine ⟨_, rfl, sh_bls (bs := [_, _, _, _, _, _]), sh_bl, j, e4.trans hj, s, atI_nat hs, ?_⟩
  rw [fin j s hj hs]
  exact h
end Lb

/-! SmV: whole numbers. -/
namespace Lb
open PySem L2
local macro_rules | `(tactic| walk_at "v") => `(tactic| ((with_reducible refine ev_var (d := ?dv) ?hv ?_); (case hv => exact rfl)))
local macro_rules | `(tactic| walk_at "f") => `(tactic| first
  | with_reducible refine f_in ?_
  | with_reducible refine f_notin ?_
  | with_reducible refine f_add_i ?_
  | with_reducible refine f_add_s ?_
  | with_reducible refine f_add_l ?_
  | with_reducible refine f_add_t ?_
  | with_reducible refine f_sub ?_
  | with_reducible refine f_mul_i ?_
  | with_reducible refine f_mul_l ?_
  | with_reducible refine f_mul_t ?_
  | with_reducible refine f_div ?_
  | with_reducible refine f_mod ?_
  | with_reducible refine f_pow ?_
  | with_reducible refine f_lt ?_
  | with_reducible refine f_le ?_
  | with_reducible refine f_gt ?_
  | with_reducible refine f_ge ?_
  | with_reducible refine f_eq_i ?_
  | with_reducible refine f_ne_i ?_
  | with_reducible refine f_eq_b ?_
  | with_reducible refine f_ne_b ?_
  | with_reducible refine f_is_n ?_
  | with_reducible refine f_isnot_n ?_
  | with_reducible refine f_is_i ?_
  | with_reducible refine f_isnot_i ?_
  | with_reducible refine f_is_b ?_
  | with_reducible refine f_isnot_b ?_
  | with_reducible refine f_is_s ?_
  | with_reducible refine f_isnot_s ?_
  | with_reducible refine f_is_l ?_
  | with_reducible refine f_isnot_l ?_
  | with_reducible refine f_is_t ?_
  | with_reducible refine f_isnot_t ?_
  | with_reducible refine f_is_r ?_
  | with_reducible refine f_isnot_r ?_
  | with_reducible refine f_is ?_
  | with_reducible refine f_isnot ?_
  | with_reducible refine f_neg ?_
  | with_reducible refine f_len_ml ?_
  | with_reducible refine f_len_mt ?_
  | with_reducible refine f_sum_l ?_
  | with_reducible refine f_sum_t ?_
  | with_reducible refine f_all ?_
  | with_reducible refine f_any ?_
  | with_reducible refine f_len_l ?_
  | with_reducible refine f_len_t ?_
  | with_reducible refine f_len_c ?_
  | with_reducible refine f_abs ?_
  | with_reducible refine f_min2 ?_
  | with_reducible refine f_max2 ?_
  | with_reducible refine f_list_l ?_
  | with_reducible refine f_list_t ?_
  | with_reducible refine f_tup_l ?_
  | with_reducible refine f_tup_t ?_
  | with_reducible refine f_int_i ?_
  | with_reducible refine f_int_b ?_
  | with_reducible refine f_sl_l ?_
  | with_reducible refine f_sl_t ?_
  | with_reducible refine f_tr_n ?_
  | with_reducible refine f_tr_b ?_
  | with_reducible refine f_tr_i ?_
  | with_reducible refine f_tr_l ?_
  | with_reducible refine f_tr_t ?_
  | with_reducible refine f_tr_c ?_)
local macro_rules | `(tactic| walk_at "w") => `(tactic| first
  | walk_at "v"
  | with_reducible refine ev_rev ?_
  | with_reducible refine ev_sset ?_
  | with_reducible refine ev_lcl ?_
  | with_reducible refine ev_lct ?_
  | with_reducible refine ev_lcs ?_
  | with_reducible refine ev_lc1 ?_
  | with_reducible refine ev_lc2 ?_
  | with_reducible refine st_forl ?_
  | with_reducible refine st_fort ?_
  | with_reducible refine st_fors ?_
  | with_reducible refine st_for1 ?_
  | with_reducible refine st_for2 ?_
  | with_reducible refine ex_bl ?_
  | with_reducible refine ex_in ?_
  | with_reducible refine ex_ls ?_
  | with_reducible refine ex_tu ?_
  | with_reducible refine ex_st ?_
  | with_reducible refine ex_d0 ?_
  | with_reducible refine ex_d1 ?_
  | with_reducible refine ex_d2 ?_
  | with_reducible refine ex_d3 ?_
  | with_reducible refine ex_d4 ?_
  | with_reducible refine ex_d5 ?_
  | with_reducible refine ex_d6 ?_
  | with_reducible refine ex_d7 ?_
  | with_reducible refine ex_d8 ?_
  | with_reducible refine m_and ?_
  | with_reducible refine i_t ?_
  | with_reducible refine i_f ?_
  | with_reducible refine i_nt ?_
  | with_reducible refine i_nf ?_
  | with_reducible refine ev_tup ?_
  | with_reducible refine ev_lst ?_
  | with_reducible refine ev_int ?_
  | with_reducible refine ea_cons ?_
  | with_reducible refine ea_nil ?_
  | with_reducible refine ev_op ?_
  | with_reducible refine st_seq ?_
  | with_reducible refine st_asg ?_
  | with_reducible refine ev_call ?_
  | with_reducible refine ev_cb ?_
  | with_reducible refine st_if ?_
  | with_reducible refine et_test ?_
  | with_reducible refine et_not ?_
  | with_reducible refine et_or ?_
  | with_reducible refine et_and ?_
  | with_reducible refine et_tru ?_
  | with_reducible refine et_yes ?_
  | with_reducible refine et_B ?_
  | with_reducible refine ev_chain ?_
  | with_reducible refine ev_chain3 ?_
  | with_reducible refine ev_un ?_
  | with_reducible refine ev_if ?_
  | with_reducible refine ev_bl ?_
  | with_reducible refine ev_non ?_
  | with_reducible refine ev_str ?_
  | with_reducible refine ev_andV ?_
  | with_reducible refine ev_orV ?_
  | with_reducible refine ev_notV ?_
  | with_reducible refine ev_isB ?_
  | with_reducible refine ev_isE ?_
  | with_reducible refine ev_sl2 ?_
  | with_reducible refine ev_slA ?_
  | with_reducible refine ev_slB ?_
  | with_reducible refine ev_bmL ?_
  | with_reducible refine ev_bmL0 ?_
  | with_reducible refine st_ret ?_
  | with_reducible refine st_drop ?_
  | with_reducible refine st_next ?_
  | with_reducible refine st_setL ?_
  | with_reducible refine st_asgG ?_
  | with_reducible refine st_raise ?_
  | with_reducible refine gt_name ?_
  | with_reducible refine gt_tup2 ?_
  | with_reducible refine gt_tup3 ?_
  | walk_at "f")
local macro_rules | `(tactic| walk_at "r") => `(tactic| repeat walk_at "w")

def S_law_whole : SpD := fun es m R _ => ∃ i : Int, es = [.d (.int i)] ∧ R (.d (.bl true)) m
def rd_law_whole (G : Ctx) (W : WX) : TS :=
  tRet (tAndV (tCB (rIsB G "int") (tCons (tVar 0) (tCons (tC (.ty "int")) tNil))) (tNotV (tCB (rIsB G "bool") (tCons (tVar 0) (tCons (tC (.ty "bool")) tNil)))))

theorem len_law_whole : ∀ es m R XR, S_law_whole es m R XR → es.length = 1 := by
  rintro es m R XR ⟨i, rfl, _⟩
  rfl
theorem sem_law_whole (G : Ctx) : BodyD G 1 (rd_law_whole G) S_law_whole := by
  rintro W es m R XR ⟨i, rfl, h⟩
  unfold rd_law_whole
  walk_at "r"
  refine ⟨"int", true, rfl, kit_ii, ?_⟩
  walk_at "r"
  refine ⟨"int", false, rfl, kit_ib, ?_⟩
  walk_at "r"
  exact h
end Lb

/-! Sm52: a row searched: what the defs do. -/
namespace Lb
open PySem L2
local macro_rules | `(tactic| walk_at "v") => `(tactic| ((with_reducible refine ev_var (d := ?dv) ?hv ?_); (case hv => exact rfl)))
local macro_rules | `(tactic| walk_at "f") => `(tactic| first
  | with_reducible refine f_in ?_
  | with_reducible refine f_notin ?_
  | with_reducible refine f_add_i ?_
  | with_reducible refine f_add_s ?_
  | with_reducible refine f_add_l ?_
  | with_reducible refine f_add_t ?_
  | with_reducible refine f_sub ?_
  | with_reducible refine f_mul_i ?_
  | with_reducible refine f_mul_l ?_
  | with_reducible refine f_mul_t ?_
  | with_reducible refine f_div ?_
  | with_reducible refine f_mod ?_
  | with_reducible refine f_pow ?_
  | with_reducible refine f_lt ?_
  | with_reducible refine f_le ?_
  | with_reducible refine f_gt ?_
  | with_reducible refine f_ge ?_
  | with_reducible refine f_eq_i ?_
  | with_reducible refine f_ne_i ?_
  | with_reducible refine f_eq_b ?_
  | with_reducible refine f_ne_b ?_
  | with_reducible refine f_is_n ?_
  | with_reducible refine f_isnot_n ?_
  | with_reducible refine f_is_i ?_
  | with_reducible refine f_isnot_i ?_
  | with_reducible refine f_is_b ?_
  | with_reducible refine f_isnot_b ?_
  | with_reducible refine f_is_s ?_
  | with_reducible refine f_isnot_s ?_
  | with_reducible refine f_is_l ?_
  | with_reducible refine f_isnot_l ?_
  | with_reducible refine f_is_t ?_
  | with_reducible refine f_isnot_t ?_
  | with_reducible refine f_is_r ?_
  | with_reducible refine f_isnot_r ?_
  | with_reducible refine f_is ?_
  | with_reducible refine f_isnot ?_
  | with_reducible refine f_neg ?_
  | with_reducible refine f_len_ml ?_
  | with_reducible refine f_len_mt ?_
  | with_reducible refine f_sum_l ?_
  | with_reducible refine f_sum_t ?_
  | with_reducible refine f_all ?_
  | with_reducible refine f_any ?_
  | with_reducible refine f_len_l ?_
  | with_reducible refine f_len_t ?_
  | with_reducible refine f_len_c ?_
  | with_reducible refine f_abs ?_
  | with_reducible refine f_min2 ?_
  | with_reducible refine f_max2 ?_
  | with_reducible refine f_list_l ?_
  | with_reducible refine f_list_t ?_
  | with_reducible refine f_tup_l ?_
  | with_reducible refine f_tup_t ?_
  | with_reducible refine f_int_i ?_
  | with_reducible refine f_int_b ?_
  | with_reducible refine f_sl_l ?_
  | with_reducible refine f_sl_t ?_
  | with_reducible refine f_tr_n ?_
  | with_reducible refine f_tr_b ?_
  | with_reducible refine f_tr_i ?_
  | with_reducible refine f_tr_l ?_
  | with_reducible refine f_tr_t ?_
  | with_reducible refine f_tr_c ?_)
local macro_rules | `(tactic| walk_at "m") => `(tactic| first
  | assumption
  | exact mset_same
  | ((refine (mset_ne ?_).trans ?_); (first | assumption | exact Ne.symm (by assumption)); walk_at "m"))
local macro_rules | `(tactic| walk_at "w") => `(tactic| first
  | walk_at "v"
  | with_reducible refine ev_rev ?_
  | with_reducible refine ev_sset ?_
  | with_reducible refine ev_lcl ?_
  | with_reducible refine ev_lct ?_
  | with_reducible refine ev_lcs ?_
  | with_reducible refine ev_lc1 ?_
  | with_reducible refine ev_lc2 ?_
  | with_reducible refine st_forl ?_
  | with_reducible refine st_fort ?_
  | with_reducible refine st_fors ?_
  | with_reducible refine st_for1 ?_
  | with_reducible refine st_for2 ?_
  | with_reducible refine ex_bl ?_
  | with_reducible refine ex_in ?_
  | with_reducible refine ex_ls ?_
  | with_reducible refine ex_tu ?_
  | with_reducible refine ex_st ?_
  | with_reducible refine ex_d0 ?_
  | with_reducible refine ex_d1 ?_
  | with_reducible refine ex_d2 ?_
  | with_reducible refine ex_d3 ?_
  | with_reducible refine ex_d4 ?_
  | with_reducible refine ex_d5 ?_
  | with_reducible refine ex_d6 ?_
  | with_reducible refine ex_d7 ?_
  | with_reducible refine ex_d8 ?_
  | with_reducible refine m_and ?_
  | with_reducible refine i_t ?_
  | with_reducible refine i_f ?_
  | with_reducible refine i_nt ?_
  | with_reducible refine i_nf ?_
  | with_reducible refine ev_fld ?_
  | ((with_reducible refine x_fld (fs := ?fs) (v := ?vv) ?hh ?ll ?_); (case hh => walk_at "m"); (case ll => exact rfl))
  | with_reducible refine ev_meth ?_
  | ((with_reducible refine x_meth (fs := ?fs) ?hh ?ll ?_); (case hh => walk_at "m"); (case ll => exact rfl))
  | with_reducible refine ev_make ?_
  | with_reducible refine st_fld ?_
  | ((with_reducible refine x_set (fs := ?fs) ?hh ?ll ?_); (case hh => walk_at "m"); (case ll => exact Nat.le_of_ble_eq_true rfl))
  | with_reducible refine ev_lstP ?_
  | with_reducible refine ev_dnew ?_
  | with_reducible refine st_dset ?_
  | with_reducible refine ev_tup ?_
  | with_reducible refine ev_lst ?_
  | with_reducible refine ev_int ?_
  | with_reducible refine ea_cons ?_
  | with_reducible refine ea_nil ?_
  | with_reducible refine ev_op ?_
  | with_reducible refine st_seq ?_
  | with_reducible refine st_asg ?_
  | with_reducible refine ev_call ?_
  | with_reducible refine ev_cb ?_
  | with_reducible refine st_if ?_
  | with_reducible refine et_test ?_
  | with_reducible refine et_not ?_
  | with_reducible refine et_or ?_
  | with_reducible refine et_and ?_
  | with_reducible refine et_tru ?_
  | with_reducible refine et_yes ?_
  | with_reducible refine et_B ?_
  | with_reducible refine ev_chain ?_
  | with_reducible refine ev_chain3 ?_
  | with_reducible refine ev_un ?_
  | with_reducible refine ev_if ?_
  | with_reducible refine ev_bl ?_
  | with_reducible refine ev_non ?_
  | with_reducible refine ev_str ?_
  | with_reducible refine ev_andV ?_
  | with_reducible refine ev_orV ?_
  | with_reducible refine ev_notV ?_
  | with_reducible refine ev_isB ?_
  | with_reducible refine ev_isE ?_
  | with_reducible refine ev_sl2 ?_
  | with_reducible refine ev_slA ?_
  | with_reducible refine ev_slB ?_
  | with_reducible refine ev_bmL ?_
  | with_reducible refine ev_bmL0 ?_
  | with_reducible refine st_ret ?_
  | with_reducible refine st_drop ?_
  | with_reducible refine st_next ?_
  | with_reducible refine st_setL ?_
  | with_reducible refine st_asgG ?_
  | with_reducible refine st_raise ?_
  | with_reducible refine gt_name ?_
  | with_reducible refine gt_tup2 ?_
  | with_reducible refine gt_tup3 ?_
  | walk_at "f")
local macro_rules | `(tactic| walk_at "r") => `(tactic| repeat walk_at "w")

abbrev dInt1 (ns : List Int) : D := dInts ns
def S_fits_halves : SpD := fun es m R _ => ∃ (ps : List Int) (as : List Bool) (t : Int), es = [.d (dInts ps), .d (dBls as), .d (.int t)] ∧ ps.length = as.length ∧ ps.length ≤ 1000 ∧ R (.d (.int (fitsN ps as t : Nat))) m
def rd_fits_halves (G : Ctx) (W : WX) : TS :=
  tRet (tCB (rDn G lenF) (tCons (tLc (iRng1 (tCons (tCB (rDn G lenF) (tCons (tVar 0) (tNil))) (tNil))) (gName 3) (tTest (tOp (rD2 G neF) (tOp (rD2 G ltF) (tVar 2) (tOp (rD2 G idxF) (tVar 0) (tVar 3))) (tOp (rD2 G idxF) (tVar 1) (tVar 3)))) (tVar 3) [3]) (tNil)))

theorem len_fits_halves : ∀ es m R XR, S_fits_halves es m R XR → es.length = 3 := by
  rintro es m R XR ⟨a, b, c, rfl, _⟩
  rfl
theorem sem_fits_halves (G : Ctx) : BodyD G 4 (rd_fits_halves G) S_fits_halves := by
  rintro W es m R XR ⟨ps, as, t, rfl, hl, hp, h⟩
  unfold rd_fits_halves
  walk_at "r"
  refine ⟨_, rfl, by omega, by omega, ?_⟩
  rw [Int.toNat_natCast]
  refine lcF (List.range ps.length) (fun k => .d (.int (0 + (k : Nat)))) (fun k => decide (t < ps.getD k 0) != as.getD k false) (fun k => .int (0 + (k : Nat))) rfl (by rw [List.length_range]; omega) (fun k M hk hM => ⟨_, .name (by decide), ?_, fun _ => ?_⟩) ?_
  · have hk := List.mem_range.mp hk
    walk_at "r"
    refine ⟨_, atI_is hk, ?_⟩
    walk_at "r"
    refine ⟨_, atI_bs (by omega), ?_⟩
    walk_at "r"
    exact rfl
  · walk_at "r"
    exact rfl
  · walk_at "r"
    exact h
theorem zeros_flat (n : Nat) : D.tup (List.replicate (n : Int).toNat [D.int 0]).flatten = dTold (zerosN n) := by
  rw [Int.toNat_natCast, flatten_rep, dTold, List.map_replicate]
  rfl
theorem up_zeros (n : Nat) : dTold (zerosN n) = D.tup (((zerosN n).map fun o => o.map fun k => ((k : Nat) : Int)).map oI) := by
  rw [dTold, List.map_map]
  rfl
theorem LT_zeros {n l : Nat} (h1 : 1 ≤ n) (hn : n ≤ 7) (hl : l ≤ 2) : LT ((zerosN n).map fun o => o.map fun k => ((k : Nat) : Int)) (l : Int) := by
  refine ⟨by rw [List.length_map, List.length_replicate]; exact h1, by rw [List.length_map, List.length_replicate]; exact hn, by omega, by omega, fun k hk => ?_⟩
  obtain ⟨o, ho, e⟩ := List.mem_map.mp hk
  rw [(List.mem_replicate.mp ho).2] at e
  cases e
  show 0 ≤ ((0 : Nat) : Int) ∧ ((0 : Nat) : Int) ≤ (l : Int)
  omega
theorem told_inj2 {t u : Told} (h : (t.map oN) = u.map oN) : t = u := told_inj (by rw [dTold, dTold, h])
/-! ### searched -/
def SGood (n l : Int) : Prop := GameOk n l ∧ n ≤ 7 ∧ l ≤ 2
def S_searched : SpD := fun es m R XR => ∃ (n l : Int) (as : List Bool), es = [.d (.int n), .d (.int l), .d (dBls as)] ∧ as.length ≤ 1000 ∧ (¬ GameOk n l → XR .game m) ∧ (GameOk n l → ¬ (n ≤ 7 ∧ l ≤ 2) → XR .counts m) ∧
  (SGood n l → ¬ Asks l.toNat (zerosN n.toNat) as → XR .question m) ∧ (SGood n l → Asks l.toNat (zerosN n.toNat) as → R (.d (.tup [dInts (plN l.toNat (zerosN n.toNat) as), oI (oneI (stN l.toNat (zerosN n.toNat) as))])) m)
def rd_searched (G : Ctx) (W : WX) : TS :=
  tSeq (tDrop (tCallS (spL G S_look_game) (WE W) (tCons (tVar 0) (tCons (tVar 1) (tNil)))))
  (tSeq (tAsg (tOp (rD2 G mulF) (tTup (tCons (tC (.int 0)) (tNil))) (tVar 0)) (gName 3))
  (tSeq (tDrop (tCallS (spL G S_look_told) (WE W) (tCons (tVar 3) (tCons (tVar 1) (tNil)))))
  (tSeq (tAsg (tMakeS G .halver (spL G S_Halver___init__) (WE W) (tCons (tVar 1) (tNil))) (gName 4))
  (tSeq (tAsg (tLstO (tNil)) (gName 5))
  (tSeq (tFor (iList G.K (tVar 2)) (gName 6) (tSeq (tAsg (tC (.int 0)) (gName 7))
  (tSeq (tWhile (tTest (tOp (rD2 G isF) (tMethD G .halver "can" (spL G S_Halver_can) (WE W) (tVar 4) (tCons (tVar 3) (tCons (tVar 7) (tNil)))) (tC .non))) (tAsg (tOp (rD2 G addF) (tVar 7) (tC (.int 1))) (gName 7)))
  (tSeq (tAsg (tMethD G .halver "can" (spL G S_Halver_can) (WE W) (tVar 4) (tCons (tVar 3) (tCons (tVar 7) (tNil)))) (gName 8))
  (tSeq (tIfS (tTest (tOp (rD2 G ltF) (tVar 8) (tC (.int 0)))) (tRaise W (G.has .question) (G.ex .question)) (tNext))
  (tSeq (tDrop (tBM G.K "list" (rDM G appendF) (tVar 5) (tCons (tVar 8) (tNil))))
  (tAsg (tCallS (spL G S_asked_at) (WE W) (tCons (tVar 3) (tCons (tVar 1) (tCons (tVar 8) (tCons (tVar 6) (tNil)))))) (gName 3))))))))
  (tSeq (tAsg (tLc (iRng1 (tCons (tVar 0) (tNil))) (gName 10) (tTest (tOp (rD2 G isnotF) (tOp (rD2 G idxF) (tVar 3) (tVar 10)) (tC .non))) (tVar 10) [10]) (gName 9))
  (tRet (tTup (tCons (tVar 5) (tCons (tIf (tTest (tOp (rD2 G eqF) (tCB (rDn G lenF) (tCons (tVar 9) (tNil))) (tC (.int 1)))) (tOp (rD2 G idxF) (tVar 9) (tC (.int 0))) (tC .non)) (tNil)))))))))))

theorem len_searched : ∀ es m R XR, S_searched es m R XR → es.length = 3 := by
  rintro es m R XR ⟨a, b, c, rfl, _⟩
  rfl
theorem sem_searched (G : Ctx) : BodyD G 11 (rd_searched G) S_searched := by
  rintro W es m R XR ⟨n, l, as, rfl, hal, h1, h2, h3, h4⟩
  unfold rd_searched
  walk_at "r"
  refine ⟨n, l, rfl, fun g => ?_, h1⟩
  obtain ⟨g1, g2, g3, g4⟩ := id g
  obtain ⟨k, rfl⟩ := Int.eq_ofNat_of_zero_le (show 0 ≤ n by omega)
  obtain ⟨j, rfl⟩ := Int.eq_ofNat_of_zero_le g3
  walk_at "r"
  refine ⟨by simp, by omega, by omega, by show 1 ≤ 1000; decide, ?_⟩
  rw [zeros_flat]
  walk_at "r"
  rw [up_zeros]
  refine ⟨_, j, rfl, by rw [List.length_map, List.length_replicate]; omega, fun z => absurd ?_ z, fun _ z => h2 g fun y => z (LT_zeros (by omega) (by omega) (by omega)), fun ok => ?_⟩
  · rw [List.length_map, List.length_replicate]
    unfold maxI GameOk
    split <;> omega
  have hk7 : k ≤ 7 := by have := ok.2.1; rw [List.length_map, List.length_replicate] at this; exact this
  have hj2 : j ≤ 2 := by have := ok.2.2.2.1; omega
  have hS : SGood (k : Int) (j : Int) := ⟨g, by omega, by omega⟩
  have h3 := h3 hS
  have h4 := h4 hS
  rw [Int.toNat_natCast, Int.toNat_natCast] at h3 h4
  rw [← up_zeros]
  have hD := zeros_dom hk7 hj2
  walk_at "r"
  intro a ha
  refine ⟨a, j, rfl, mset_same, fun d m1 hd hA fr => ⟨rfl, ?_⟩⟩
  obtain ⟨hda, hdm⟩ := none_mset hd
  walk_at "r"
  intro b hb
  have ho1 := hA.o
  have hk1 := hA.k
  have had := hA.ad
  have hab : a ≠ b := ne_new ho1 hb
  have hdb : d ≠ b := ne_new hk1 hb
  have hbm : m b = none := by rw [fr b hab.symm hdb.symm, mset_ne hab.symm] at hb; exact hb
  have hsub : ∀ x, x ≠ a → x ≠ d → x ≠ b → m1 x = m x := fun x x1 x2 _ => by rw [fr x x1 x2, mset_ne x1]
  walk_at "r"
  refine forL as (fun q => .d (.bl q)) (fun pre ds' m' => ∃ kvs o6 o7 o8, Asks j (zerosN k) pre ∧ HMemo j kvs ∧ HalvAt m' a d j kvs ∧ m' b = some (.lst ((plN j (zerosN k) pre).map D.int)) ∧ (∀ x, x ≠ a → x ≠ d → x ≠ b → m' x = m x) ∧ ds' = [some (.d (.int (k : Nat))), some (.d (.int (j : Nat))), some (.d (dBls as)), some (.d (dTold (stN j (zerosN k) pre))), some (.r a), some (.r b), o6, o7, o8, none, none]) (by rw [List.map_map]; rfl)
    ⟨[], none, none, none, (fun _ z => absurd z (Nat.not_lt_zero _)), Memo.nil, ⟨by rw [mset_ne hab]; exact ho1, by rw [mset_ne hdb]; exact hk1⟩, mset_same, fun x x1 x2 x3 => by rw [mset_ne x3]; exact hsub x x1 x2 x3, rfl⟩ ?_ ?_
  · rintro pre q post ds' m' epre ⟨kvs, o6, o7, o8, hAs, hM, hA1, hb1, hfr, rfl⟩
    have hDs := hD.st pre
    have hle := least_le hDs
    have hpl : pre.length ≤ 1000 := by
      have := congrArg List.length epre
      simp at this
      omega
    generalize hT : stN j (zerosN k) pre = T at hDs hle
    walk_at "r"
    refine st_while (fun f ds' m' => ∃ n kvs, n + f = leastN j T ∧ HMemo j kvs ∧ HalvAt m' a d j kvs ∧ m' b = some (.lst ((plN j (zerosN k) pre).map D.int)) ∧ (∀ x, x ≠ a → x ≠ d → x ≠ b → m' x = m x) ∧ ds' = [some (.d (.int (k : Nat))), some (.d (.int (j : Nat))), some (.d (dBls as)), some (.d (dTold T)), some (.r a), some (.r b), some (.d (.bl q)), some (.d (.int (n : Nat))), o8, none, none]) (leastN j T) ⟨0, kvs, by omega, hM, hA1, hb1, hfr, rfl⟩ ?_
    clear hM hA1 hb1 hfr
    rintro f ds' m2 ⟨n, kvs, hf, hM, hA1, hb1, hfr, rfl⟩
    have ho2 := hA1.o
    walk_at "r"
    refine ⟨a, d, j, kvs, T, n, rfl, hA1, hM, hDs, by omega, by omega, fun kvs2 hM2 => ?_⟩
    have hA2 := hA1.put (kvs' := kvs2)
    have ho3 := hA2.o
    have hb2 : mset m2 d (.dic kvs2) b = some (.lst ((plN j (zerosN k) pre).map D.int)) := by rw [mset_ne hdb.symm]; exact hb1
    have hfr2 : ∀ x, x ≠ a → x ≠ d → x ≠ b → mset m2 d (.dic kvs2) x = m x := fun x x1 x2 x3 => by rw [mset_ne x2]; exact hfr x x1 x2 x3
    have key := least_spec hDs n
    cases e : canN j n T with
    | none =>
      dsimp only [oI]
      walk_at "r"
      rw [e] at key
      have : ¬ leastN j T ≤ n := fun z => by have := key.mpr z; cases this
      exact ⟨f - 1, by omega, n + 1, kvs2, by omega, hM2, hA2, hb2, hfr2, by rw [show ((n : Int) + 1) = ((n + 1 : Nat) : Int) by omega]; rfl⟩
    | some p =>
      rw [e] at key
      have hn : n = leastN j T := by have := key.mp rfl; omega
      dsimp only [oI]
      walk_at "r"
      refine ⟨a, d, j, kvs2, T, n, rfl, hA2, hM2, hDs, by omega, by omega, fun kvs3 hM3 => ?_⟩
      rw [mset_mset, e]
      have hA3 := hA1.put (kvs' := kvs3)
      have hb3 : mset m2 d (.dic kvs3) b = some (.lst ((plN j (zerosN k) pre).map D.int)) := by rw [mset_ne hdb.symm]; exact hb1
      have hfr3 : ∀ x, x ≠ a → x ≠ d → x ≠ b → mset m2 d (.dic kvs3) x = m x := fun x x1 x2 x3 => by rw [mset_ne x2]; exact hfr x x1 x2 x3
      have hp : p = placeN j T := by unfold placeN; rw [← hn, e]; rfl
      subst hp
      dsimp only [oI]
      walk_at "r"
      by_cases hlt : 2 ≤ leftT T
      · have hpp := place_pos hDs hlt
        refine i_d (fun z => by omega) (fun _ => ?_)
        walk_at "r"
        refine ⟨⟨_, hb3⟩, ?_⟩
        walk_at "r"
        refine ⟨_, hb3, by rw [List.length_map, plN_len]; omega, ?_⟩
        walk_at "r"
        refine ⟨T, j, _, q, rfl, by have := hDs.n; omega, ?_⟩
        refine ⟨kvs3, some (.d (.bl q)), some (.d (.int (n : Nat))), some (.d (.int (placeN j T))), hAs.app (by rw [hT]; exact hlt), hM3, ⟨by rw [mset_ne hab]; exact hA3.o, by rw [mset_ne hdb]; exact hA3.k⟩, ?_, fun x x1 x2 x3 => by rw [mset_ne x3]; exact hfr3 x x1 x2 x3, ?_⟩
        · rw [mset_same, plN_app, List.map_append, hT]
          rfl
        · rw [stN_app, hT]
          rfl
      · obtain ⟨_, _, e3⟩ := place_no hDs hlt
        refine i_d (fun _ => ?_) (fun z => by omega)
        refine StD.sub (m' := m) ?_ ?_
        · walk_at "r"
          refine h3 fun z => hlt ?_
          have := z pre.length (by rw [epre]; simp)
          rw [epre, List.take_append_of_le_length (Nat.le_refl _), List.take_length, hT] at this
          exact this
        · intro x
          by_cases x1 : x = a
          · subst x1; exact .inl ha
          · by_cases x2 : x = d
            · subst x2; exact .inl hdm
            · by_cases x3 : x = b
              · subst x3; exact .inl hbm
              · exact .inr (hfr3 x x1 x2 x3).symm
  · rintro ds' m' ⟨kvs, o6, o7, o8, hAs, hM, hA1, hb1, hfr, rfl⟩
    have hh := h4 hAs
    have hl := st_len j as (zerosN k)
    rw [List.length_replicate] at hl
    generalize stN j (zerosN k) as = T at hh hl
    refine st_frz 5 rfl hb1 ?_
    walk_at "r"
    refine ⟨_, rfl, by omega, by omega, ?_⟩
    rw [Int.toNat_natCast]
    refine lcF (List.range k) (fun t => .d (.int (0 + (t : Nat)))) (fun t => (T.getD t none).isSome) (fun t => .int ((t : Nat) : Int)) rfl (by rw [List.length_range]; omega) (fun t M ht hM => ⟨_, .name (by decide), ?_, fun _ => ?_⟩) ?_
    · have ht := List.mem_range.mp ht
      walk_at "r"
      rw [Int.zero_add]
      refine ⟨_, atI_told (by omega), ?_⟩
      cases T.getD t none with
      | none =>
        rw [oN_none]
        walk_at "r"
        exact rfl
      | some z =>
        rw [oN_some]
        walk_at "r"
        exact rfl
    · walk_at "r"
      rw [Int.zero_add]
    have eL : (List.range k).filter (fun t => (T.getD t none).isSome) = leftI T := by unfold leftI; rw [hl]
    rw [eL]
    refine st_ret (ev_drop ?_)
    have fin : ∃ m2, Sub m2 (mdel m' b) ∧ R (.d (.tup [dInts (plN j (zerosN k) as), oI (oneI T)])) m2 := by
      refine ⟨m, fun x => ?_, hh⟩
      by_cases x1 : x = a
      · subst x1; exact .inl ha
      · by_cases x2 : x = d
        · subst x2; exact .inl hdm
        · by_cases x3 : x = b
          · subst x3; exact .inl hbm
          · rw [mdel_ne x3]; exact .inr (hfr x x1 x2 x3).symm
    unfold oneI at fin
    walk_at "r"
    match e : leftI T with
    | [] =>
      rw [e] at fin
      refine i_d (fun z => absurd z (by decide)) (fun _ => ?_)
      walk_at "r"
      exact fin
    | [i] =>
      rw [e] at fin
      refine i_d (fun _ => ?_) (fun z => absurd rfl z)
      walk_at "r"
      refine ⟨_, atI_nat (j := 0) rfl, ?_⟩
      walk_at "r"
      exact fin
    | x :: y :: r =>
      rw [e] at fin
      refine i_d (fun z => absurd z (by show ¬ (((r.length + 1 + 1 : Nat) : Int) = 1); omega)) (fun _ => ?_)
      walk_at "r"
      exact fin
end Lb

/-! Sm52b: the law k52's own defs. -/
namespace Lb
open PySem L2
local macro_rules | `(tactic| walk_at "v") => `(tactic| ((with_reducible refine ev_var (d := ?dv) ?hv ?_); (case hv => exact rfl)))
local macro_rules | `(tactic| walk_at "f") => `(tactic| first
  | with_reducible refine f_in ?_
  | with_reducible refine f_notin ?_
  | with_reducible refine f_add_i ?_
  | with_reducible refine f_add_s ?_
  | with_reducible refine f_add_l ?_
  | with_reducible refine f_add_t ?_
  | with_reducible refine f_sub ?_
  | with_reducible refine f_mul_i ?_
  | with_reducible refine f_mul_l ?_
  | with_reducible refine f_mul_t ?_
  | with_reducible refine f_div ?_
  | with_reducible refine f_mod ?_
  | with_reducible refine f_pow ?_
  | with_reducible refine f_lt ?_
  | with_reducible refine f_le ?_
  | with_reducible refine f_gt ?_
  | with_reducible refine f_ge ?_
  | with_reducible refine f_eq_i ?_
  | with_reducible refine f_ne_i ?_
  | with_reducible refine f_eq_b ?_
  | with_reducible refine f_ne_b ?_
  | with_reducible refine f_is_n ?_
  | with_reducible refine f_isnot_n ?_
  | with_reducible refine f_is_i ?_
  | with_reducible refine f_isnot_i ?_
  | with_reducible refine f_is_b ?_
  | with_reducible refine f_isnot_b ?_
  | with_reducible refine f_is_s ?_
  | with_reducible refine f_isnot_s ?_
  | with_reducible refine f_is_l ?_
  | with_reducible refine f_isnot_l ?_
  | with_reducible refine f_is_t ?_
  | with_reducible refine f_isnot_t ?_
  | with_reducible refine f_is_r ?_
  | with_reducible refine f_isnot_r ?_
  | with_reducible refine f_is ?_
  | with_reducible refine f_isnot ?_
  | with_reducible refine f_neg ?_
  | with_reducible refine f_len_ml ?_
  | with_reducible refine f_len_mt ?_
  | with_reducible refine f_sum_l ?_
  | with_reducible refine f_sum_t ?_
  | with_reducible refine f_all ?_
  | with_reducible refine f_any ?_
  | with_reducible refine f_len_l ?_
  | with_reducible refine f_len_t ?_
  | with_reducible refine f_len_c ?_
  | with_reducible refine f_abs ?_
  | with_reducible refine f_min2 ?_
  | with_reducible refine f_max2 ?_
  | with_reducible refine f_list_l ?_
  | with_reducible refine f_list_t ?_
  | with_reducible refine f_tup_l ?_
  | with_reducible refine f_tup_t ?_
  | with_reducible refine f_int_i ?_
  | with_reducible refine f_int_b ?_
  | with_reducible refine f_sl_l ?_
  | with_reducible refine f_sl_t ?_
  | with_reducible refine f_tr_n ?_
  | with_reducible refine f_tr_b ?_
  | with_reducible refine f_tr_i ?_
  | with_reducible refine f_tr_l ?_
  | with_reducible refine f_tr_t ?_
  | with_reducible refine f_tr_c ?_)
local macro_rules | `(tactic| walk_at "m") => `(tactic| first
  | assumption
  | exact mset_same
  | ((refine (mset_ne ?_).trans ?_); (first | assumption | exact Ne.symm (by assumption)); walk_at "m"))
local macro_rules | `(tactic| walk_at "w") => `(tactic| first
  | walk_at "v"
  | with_reducible refine ev_rev ?_
  | with_reducible refine ev_sset ?_
  | with_reducible refine ev_lcl ?_
  | with_reducible refine ev_lct ?_
  | with_reducible refine ev_lcs ?_
  | with_reducible refine ev_lc1 ?_
  | with_reducible refine ev_lc2 ?_
  | with_reducible refine st_forl ?_
  | with_reducible refine st_fort ?_
  | with_reducible refine st_fors ?_
  | with_reducible refine st_for1 ?_
  | with_reducible refine st_for2 ?_
  | with_reducible refine ex_bl ?_
  | with_reducible refine ex_in ?_
  | with_reducible refine ex_ls ?_
  | with_reducible refine ex_tu ?_
  | with_reducible refine ex_st ?_
  | with_reducible refine ex_d0 ?_
  | with_reducible refine ex_d1 ?_
  | with_reducible refine ex_d2 ?_
  | with_reducible refine ex_d3 ?_
  | with_reducible refine ex_d4 ?_
  | with_reducible refine ex_d5 ?_
  | with_reducible refine ex_d6 ?_
  | with_reducible refine ex_d7 ?_
  | with_reducible refine ex_d8 ?_
  | with_reducible refine m_and ?_
  | with_reducible refine i_t ?_
  | with_reducible refine i_f ?_
  | with_reducible refine i_nt ?_
  | with_reducible refine i_nf ?_
  | with_reducible refine ev_fld ?_
  | ((with_reducible refine x_fld (fs := ?fs) (v := ?vv) ?hh ?ll ?_); (case hh => walk_at "m"); (case ll => exact rfl))
  | with_reducible refine ev_meth ?_
  | ((with_reducible refine x_meth (fs := ?fs) ?hh ?ll ?_); (case hh => walk_at "m"); (case ll => exact rfl))
  | with_reducible refine ev_make ?_
  | with_reducible refine st_fld ?_
  | ((with_reducible refine x_set (fs := ?fs) ?hh ?ll ?_); (case hh => walk_at "m"); (case ll => exact Nat.le_of_ble_eq_true rfl))
  | with_reducible refine ev_lstP ?_
  | with_reducible refine ev_dnew ?_
  | with_reducible refine st_dset ?_
  | with_reducible refine ev_tup ?_
  | with_reducible refine ev_lst ?_
  | with_reducible refine ev_int ?_
  | with_reducible refine ea_cons ?_
  | with_reducible refine ea_nil ?_
  | with_reducible refine ev_op ?_
  | with_reducible refine st_seq ?_
  | with_reducible refine st_asg ?_
  | with_reducible refine ev_call ?_
  | with_reducible refine ev_cb ?_
  | with_reducible refine st_if ?_
  | with_reducible refine et_test ?_
  | with_reducible refine et_not ?_
  | with_reducible refine et_or ?_
  | with_reducible refine et_and ?_
  | with_reducible refine et_tru ?_
  | with_reducible refine et_yes ?_
  | with_reducible refine et_B ?_
  | with_reducible refine ev_chain ?_
  | with_reducible refine ev_chain3 ?_
  | with_reducible refine ev_un ?_
  | with_reducible refine ev_if ?_
  | with_reducible refine ev_bl ?_
  | with_reducible refine ev_non ?_
  | with_reducible refine ev_str ?_
  | with_reducible refine ev_andV ?_
  | with_reducible refine ev_orV ?_
  | with_reducible refine ev_notV ?_
  | with_reducible refine ev_isB ?_
  | with_reducible refine ev_isE ?_
  | with_reducible refine ev_sl2 ?_
  | with_reducible refine ev_slA ?_
  | with_reducible refine ev_slB ?_
  | with_reducible refine ev_bmL ?_
  | with_reducible refine ev_bmL0 ?_
  | with_reducible refine st_ret ?_
  | with_reducible refine st_drop ?_
  | with_reducible refine st_next ?_
  | with_reducible refine st_setL ?_
  | with_reducible refine st_asgG ?_
  | with_reducible refine st_raise ?_
  | with_reducible refine gt_name ?_
  | with_reducible refine gt_tup2 ?_
  | with_reducible refine gt_tup3 ?_
  | walk_at "f")
local macro_rules | `(tactic| walk_at "r") => `(tactic| repeat walk_at "w")

abbrev upT (t : Told) : List (Option Int) := t.map fun o => o.map fun k => ((k : Nat) : Int)
theorem upT_map (t : Told) : (upT t).map oI = t.map oN := by unfold upT; rw [List.map_map]; rfl
theorem up_len (t : Told) : (upT t).length = t.length := List.length_map _
theorem LT_up {l : Nat} {t : Told} (h : Dom l t) (h1 : 1 ≤ t.length) : LT (upT t) (l : Int) := by
  refine ⟨by rw [List.length_map]; exact h1, by rw [List.length_map]; exact h.n, by omega, by have := h.l2; omega, fun k hk => ?_⟩
  obtain ⟨o, ho, e⟩ := List.mem_map.mp hk
  cases o with
  | none => cases e
  | some j =>
    have e : ((j : Nat) : Int) = k := Option.some.inj e
    have := h.k j ho
    omega
theorem maxI_ok {n l : Nat} (h : n ≤ 64) (hl : l ≤ 4) : GameOk (maxI n) (l : Int) := by
  unfold GameOk maxI
  split <;> omega
/-- the fewest halves of what is known -/
theorem ask_least {m : Mu} {R : DV → Mu → Prop} {XR : Tag → Mu → Prop} {l : Nat} {t : Told} (hD : Dom l t) (h1 : 1 ≤ t.length) (h : R (.d (.tup [.int (leastN l t : Nat), oI (canN l (leastN l t) t)])) m) : S_least_halves [.d (dTold t), .d (.int (l : Nat))] m R XR := by
  have hn := hD.n
  have hl := hD.l2
  refine ⟨upT t, l, by rw [upT_map], by rw [up_len]; omega, fun z => absurd (maxI_ok (by rw [up_len]; omega) (by omega)) z, fun _ z => absurd (LT_up hD h1) z, fun _ u eu _ => ?_⟩
  rw [upT_map] at eu
  have := told_inj2 eu
  subst this
  rw [Int.toNat_natCast]
  exact h
theorem ask_behind {m : Mu} {R : DV → Mu → Prop} {XR : Tag → Mu → Prop} {l : Nat} {t : Told} {p : Int} {a : Bool} (hD : Dom l t) (h1 : 1 ≤ t.length) (p0 : 0 ≤ p) (p1 : p ≤ t.length) (h : R (.d (dTold (askN l p a t))) m) : S_behind_place [.d (dTold t), .d (.int (l : Nat)), .d (.int p), .d (.bl a)] m R XR := by
  have hn := hD.n
  have hl := hD.l2
  refine ⟨upT t, l, p, a, by rw [upT_map], by rw [up_len]; omega, fun z => absurd (maxI_ok (by rw [up_len]; omega) (by omega)) z, fun _ z => absurd (LT_up hD h1) z, fun _ z => absurd ⟨p0, by rw [up_len]; exact p1⟩ z, fun _ _ _ u eu => ?_⟩
  rw [upT_map] at eu
  have := told_inj2 eu
  subst this
  rw [Int.toNat_natCast]
  exact h
/-! ### played -/
def S_law_played : SpD := fun es m R _ => ∃ (ns : List Int) (n l h : Nat) (tr : Bool), es = [.scr ns, .d (.int (n : Nat)), .d (.int (l : Nat)), .d (.int (h : Nat)), .d (.bl tr)] ∧ 1 ≤ n ∧ n ≤ 7 ∧ l ≤ 2 ∧ h < n ∧
  ∀ as, Asks l (zerosN n) as → leftT (stN l (zerosN n) as) ≤ 1 → as.length ≤ 21 → (tr = true → ((stN l (zerosN n) as).getD h none).isSome = true) → R (.d (.tup [dBls as, dInts (plN l (zerosN n) as), dTold (stN l (zerosN n) as)])) m
def rd_law_played_c0 (G : Ctx) (W : WX) : TS :=
  tSeq (tDrop (tBM G.K "list" (rDM G appendF) (tVar 7) (tCons (tIf (tTru G.K (tVar 4)) (tVar 10) (tOp (rD2 G eqF) (tOp (rD2 G modF) (tVar 9) (tC (.int 2))) (tC (.int 0)))) (tNil))))
  (tAsg (tCallS (spL G S_behind_place) (WE W) (tCons (tVar 6) (tCons (tVar 2) (tCons (tOp (rD2 G idxF) (tVar 8) (tUn (rD1 G negF) (tC (.int 1)))) (tCons (tOp (rD2 G idxF) (tVar 7) (tUn (rD1 G negF) (tC (.int 1)))) (tNil)))))) (gName 6))
def rd_law_played (G : Ctx) (W : WX) : TS :=
  tSeq (tAsg (tC (.int 0)) (gName 5))
  (tSeq (tAsg (tOp (rD2 G mulF) (tTup (tCons (tC (.int 0)) (tNil))) (tVar 1)) (gName 6))
  (tSeq (tAsg (tLstO (tNil)) (gName 7))
  (tSeq (tAsg (tLstO (tNil)) (gName 8))
  (tSeq (tWhile (tTest (tOp (rD2 G gtF) (tOp (rD2 G idxF) (tCallS (spL G S_least_halves) (WE W) (tCons (tVar 6) (tCons (tVar 2) (tNil)))) (tC (.int 1))) (tC (.int 0)))) (tSeq (tDrop (tBM G.K "list" (rDM G appendF) (tVar 8) (tCons (tOp (rD2 G idxF) (tCallS (spL G S_least_halves) (WE W) (tCons (tVar 6) (tCons (tVar 2) (tNil)))) (tC (.int 1))) (tNil))))
  (tSeq (tAsg (tOp (rD2 G divF) (tCallS (spL G S_law_mix) (WE W) (tCons (tVar 0) (tCons (tOp (rD2 G addF) (tC (.int 9)) (tCB (rDn G lenF) (tCons (tVar 8) (tNil)))) (tNil)))) (tC (.int 4))) (gName 9))
  (tSeq (tAsg (tOp (rD2 G ltF) (tVar 3) (tOp (rD2 G idxF) (tVar 8) (tUn (rD1 G negF) (tC (.int 1))))) (gName 10))
  (tSeq (tIfS (tAnd (tTest (tOp (rD2 G ltF) (tVar 5) (tVar 2))) (tTest (tOp (rD2 G eqF) (tOp (rD2 G modF) (tVar 9) (tC (.int 3))) (tC (.int 0))))) (tSeq (tAsg (tNotV (tVar 10)) (gName 10))
  (tAsg (tOp (rD2 G addF) (tVar 5) (tC (.int 1))) (gName 5))) (tNext))
  (rd_law_played_c0 G W))))))
  (tRet (tTup (tCons (tVar 7) (tCons (tVar 8) (tCons (tVar 6) (tNil))))))))))

theorem len_law_played : ∀ es m R XR, S_law_played es m R XR → es.length = 5 := by
  rintro es m R XR ⟨a, b, c, d, e, rfl, _⟩
  rfl
theorem asks_len {n l : Nat} (hn : n ≤ 7) (hl : l ≤ 2) {as : List Bool} (h : Asks l (zerosN n) as) : as.length ≤ 21 := by
  have hD := zeros_dom hn hl
  have := least_run hD as h
  have := least_le hD
  omega
/-- so far -/
def PlP (m : Mu) (a b : Addr) (ns : List Int) (n l h : Nat) (tr : Bool) (f : Nat) (ds' : DS) (m' : Mu) : Prop := ∃ (as : List Bool) (lied : Nat) (o9 o10 : Option DV), Asks l (zerosN n) as ∧ Phi l (stN l (zerosN n) as) + 1 = f ∧ lied ≤ l ∧ (tr = true → (stN l (zerosN n) as).getD h none = some lied) ∧ Two m a b (as.map D.bl) ((plN l (zerosN n) as).map D.int) m' ∧
  ds' = [some (.scr ns), some (.d (.int (n : Nat))), some (.d (.int (l : Nat))), some (.d (.int (h : Nat))), some (.d (.bl tr)), some (.d (.int (lied : Nat))), some (.d (dTold (stN l (zerosN n) as))), some (.r a), some (.r b), o9, o10]
theorem played_c0 {G : Ctx} {W : WX} {m m3 : Mu} {RT : DV → Mu → Prop} {BK CT : DS → Mu → Prop} {XS : Tag → DS → Mu → Prop} {a b : Addr} {ns : List Int} {n l h lied : Nat} {tr ans : Bool} {f : Nat} {as : List Bool} {num : Int} (hn1 : 1 ≤ n) (hn : n ≤ 7) (hl : l ≤ 2) (hab : a ≠ b) (hA : Asks l (zerosN n) as) (c : 2 ≤ leftT (stN l (zerosN n) as)) (hf : Phi l (stN l (zerosN n) as) + 1 = f) (hli : lied ≤ l)
    (hs : tr = true → (askN l (placeN l (stN l (zerosN n) as)) ans (stN l (zerosN n) as)).getD h none = some lied) (t3 : Two m a b (as.map D.bl) ((plN l (zerosN n) as).map D.int ++ [.int (placeN l (stN l (zerosN n) as))]) m3) :
    StD G W (rd_law_played_c0 G W) [some (.scr ns), some (.d (.int (n : Nat))), some (.d (.int (l : Nat))), some (.d (.int (h : Nat))), some (.d (.bl tr)), some (.d (.int (lied : Nat))), some (.d (dTold (stN l (zerosN n) as))), some (.r a), some (.r b), some (.d (.int num)), some (.d (.bl ans))] m3 { nx := fun ds2 m2 => ∃ k', k' < f ∧ PlP m a b ns n l h tr k' ds2 m2, rt := RT, bk := BK, ct := CT } XS := by
  have hZ := zeros_dom hn hl
  have hD := hZ.st as
  have hsl := st_len l as (zerosN n)
  rw [List.length_replicate] at hsl
  have hal := asks_len hn hl hA
  generalize hT : stN l (zerosN n) as = T at hD hsl hf hs c t3
  obtain ⟨_, _, g, _⟩ := place_spec hD c
  have hp := place_pos hD c
  have last : atI ((plN l (zerosN n) as).map D.int ++ [D.int (placeN l T)]) (-1) = some (.int (placeN l T)) := atI_lst (by simp)
  have go : ∀ ans', (tr = true → ans' = ans) → ∃ k', k' < f ∧ PlP m a b ns n l h tr k' [some (.scr ns), some (.d (.int (n : Nat))), some (.d (.int (l : Nat))), some (.d (.int (h : Nat))), some (.d (.bl tr)), some (.d (.int (lied : Nat))), some (.d (dTold (askN l (placeN l T) ans' T))), some (.r a), some (.r b), some (.d (.int num)), some (.d (.bl ans))] (mset m3 a (.lst (as.map D.bl ++ [.bl ans']))) := by
    intro ans' he
    have hne : askN l (placeN l T) ans' T ≠ T := by cases ans'; exact g.2; exact g.1
    have hlt := Phi_lt hD.k hne
    have es : stN l (zerosN n) (as ++ [ans']) = askN l (placeN l T) ans' T := by rw [stN_app, hT]
    refine ⟨Phi l (askN l (placeN l T) ans' T) + 1, by omega, as ++ [ans'], lied, _, _, hA.app (by rw [hT]; exact c), by rw [es], hli, fun z => ?_, ?_, by rw [es]⟩
    · rw [es, he z]; exact hs z
    · have := t3.setY hab (as.map D.bl ++ [.bl ans'])
      rw [plN_app, hT, List.map_append, List.map_append]
      exact this
  unfold rd_law_played_c0
  walk_at "r"
  refine ⟨⟨_, t3.y⟩, ?_⟩
  walk_at "r"
  cases tr with
  | true =>
    refine i_t ?_
    walk_at "r"
    refine ⟨_, t3.y, by rw [List.length_map]; omega, ?_⟩
    have t4 := t3.setY hab (as.map D.bl ++ [.bl ans])
    walk_at "r"
    refine ⟨_, t4.n, _, last, ?_⟩
    walk_at "r"
    refine ⟨_, t4.y, _, atI_lst (x := .bl ans) (by simp), ?_⟩
    walk_at "r"
    refine ask_behind hD (by omega) (by omega) (by omega) ?_
    exact go ans (fun _ => rfl)
  | false =>
    refine i_f ?_
    walk_at "r"
    refine ⟨by decide, ?_⟩
    walk_at "r"
    refine ⟨_, t3.y, by rw [List.length_map]; omega, ?_⟩
    have t4 := t3.setY hab (as.map D.bl ++ [.bl (decide (num % 2 = 0))])
    walk_at "r"
    refine ⟨_, t4.n, _, last, ?_⟩
    walk_at "r"
    refine ⟨_, t4.y, _, atI_lst (x := .bl (decide (num % 2 = 0))) (by simp), ?_⟩
    walk_at "r"
    refine ask_behind hD (by omega) (by omega) (by omega) ?_
    exact go (decide (num % 2 = 0)) (fun z => nomatch z)
theorem sem_law_played (G : Ctx) : BodyD G 11 (rd_law_played G) S_law_played := by
  rintro W es m R XR ⟨ns, n, l, h, tr, rfl, hn1, hn, hl, hh, H⟩
  have hZ := zeros_dom hn hl
  unfold rd_law_played
  walk_at "r"
  refine ⟨by simp, by omega, by omega, by show 1 ≤ 1000; decide, ?_⟩
  rw [zeros_flat]
  walk_at "r"
  intro a ha
  walk_at "r"
  intro b hb
  obtain ⟨hba, hbm⟩ := none_mset hb
  walk_at "r"
  refine st_while (PlP m a b ns n l h tr) (Phi l (zerosN n) + 1) ⟨[], 0, none, none, (fun _ z => absurd z (Nat.not_lt_zero _)), rfl, Nat.zero_le _, fun _ => ?_, ⟨by rw [mset_ne hba.symm, mset_same]; rfl, mset_same, fun c c1 c2 => by rw [mset_ne c2, mset_ne c1]⟩, rfl⟩ ?_
  · show (zerosN n).getD h none = some 0
    rw [List.getD_eq_getElem?_getD, List.getElem?_replicate, if_pos hh]
    rfl
  rintro f ds' m' ⟨as, lied, o9, o10, hA, hf, hli, htr, t2, rfl⟩
  have hD := hZ.st as
  have hsl := st_len l as (zerosN n)
  rw [List.length_replicate] at hsl
  have hal := asks_len hn hl hA
  walk_at "r"
  refine ask_least hD (by omega) ?_
  walk_at "r"
  by_cases c : 2 ≤ leftT (stN l (zerosN n) as)
  · obtain ⟨e1, _, g, _⟩ := place_spec hD c
    have hp := place_pos hD c
    refine ⟨.int (placeN l (stN l (zerosN n) as)), by rw [e1]; exact atI_nat (j := 1) rfl, ?_⟩
    walk_at "r"
    refine i_d (fun _ => ?_) (fun z => by omega)
    walk_at "r"
    refine ⟨⟨_, t2.n⟩, ?_⟩
    walk_at "r"
    refine ask_least hD (by omega) ?_
    walk_at "r"
    refine ⟨.int (placeN l (stN l (zerosN n) as)), by rw [e1]; exact atI_nat (j := 1) rfl, ?_⟩
    walk_at "r"
    refine ⟨_, t2.n, by rw [List.length_map, plN_len]; omega, ?_⟩
    have t3 := t2.setN hba.symm ((plN l (zerosN n) as).map D.int ++ [.int (placeN l (stN l (zerosN n) as))])
    generalize mset m' b (.lst ((plN l (zerosN n) as).map D.int ++ [.int (placeN l (stN l (zerosN n) as))])) = m3 at t3
    have last : atI ((plN l (zerosN n) as).map D.int ++ [D.int (placeN l (stN l (zerosN n) as))]) (-1) = some (.int (placeN l (stN l (zerosN n) as))) := atI_lst (by simp)
    walk_at "r"
    refine ⟨_, t3.n, ?_⟩
    walk_at "r"
    refine ⟨ns, _, rfl, by omega, by rw [List.length_append, List.length_map, plN_len]; show 9 + ((as.length + 1 : Nat) : Int) ≤ _; omega, ?_⟩
    have hnum := mixN_nn ns (9 + (((List.map D.int (plN l (zerosN n) as) ++ [D.int (placeN l (stN l (zerosN n) as))]).length : Nat) : Int))
    generalize mixN ns (9 + (((List.map D.int (plN l (zerosN n) as) ++ [D.int (placeN l (stN l (zerosN n) as))]).length : Nat) : Int)) = num at hnum
    walk_at "r"
    refine ⟨⟨by decide, by decide⟩, ?_⟩
    walk_at "r"
    refine ⟨_, t3.n, _, last, ?_⟩
    have stay : tr = true → (askN l (placeN l (stN l (zerosN n) as)) (decide ((h : Int) < placeN l (stN l (zerosN n) as))) (stN l (zerosN n) as)).getD h none = some lied := fun z => by
      rw [ask_get (by omega), htr z, bne_self_eq_false]
      rfl
    walk_at "r"
    refine i_d (fun c1 => ?_) (fun c1 => ?_)
    · walk_at "r"
      refine ⟨by decide, ?_⟩
      walk_at "r"
      refine i_d (fun c2 => ?_) (fun c2 => ?_)
      · walk_at "r"
        rw [show (lied : Int) + 1 = ((lied + 1 : Nat) : Int) by omega]
        refine played_c0 hn1 hn hl hba.symm hA c hf (by omega) (fun z => ?_) t3
        rw [ask_get (by omega), htr z]
        have e5 : (decide ((h : Int) < placeN l (stN l (zerosN n) as)) != !decide ((h : Int) < placeN l (stN l (zerosN n) as))) = true := by cases decide ((h : Int) < placeN l (stN l (zerosN n) as)) <;> rfl
        rw [e5]
        show (if lied < l then some (lied + 1) else none) = _
        rw [if_pos (by omega)]
      · walk_at "r"
        exact played_c0 hn1 hn hl hba.symm hA c hf hli stay t3
    · walk_at "r"
      exact played_c0 hn1 hn hl hba.symm hA c hf hli stay t3
  · obtain ⟨_, e2, _⟩ := place_no hD c
    refine ⟨.int (-1), by rw [e2]; exact atI_nat (j := 1) rfl, ?_⟩
    refine ev_int (f_gt (ex_bl (i_d (fun z => by omega) (fun _ => ?_))))
    refine st_frz 7 rfl t2.y ?_
    refine st_frz 8 rfl (by rw [mdel_ne hba]; exact t2.n) ?_
    walk_at "r"
    rw [t2.done ha hbm]
    exact H as hA (by omega) hal (fun z => by rw [htr z]; rfl)
/-! ### fits -/
def S_law_fits : SpD := fun es m R _ => ∃ (ps : List Int) (as : List Bool) (l : Nat) (left : List Int) (n : Nat), es = [.d (dInts ps), .d (dBls as), .d (.int (l : Nat)), .d (dInts left), .d (.int (n : Nat))] ∧ ps.length = as.length ∧ ps.length ≤ 1000 ∧ n ≤ 1000 ∧ (∀ t : Nat, t < n → (fitsN ps as (t : Int) ≤ l ↔ (t : Int) ∈ left)) ∧ R (.d (.bl true)) m
def rd_law_fits (G : Ctx) (W : WX) : TS :=
  tSeq (tFor (iRng1 (tCons (tVar 4) (tNil))) (gName 5) (tSeq (tAsg (tCB (rDn G lenF) (tCons (tLc (iRng1 (tCons (tCB (rDn G lenF) (tCons (tVar 0) (tNil))) (tNil))) (gName 8) (tTest (tOp (rD2 G neF) (tOp (rD2 G ltF) (tVar 5) (tOp (rD2 G idxF) (tVar 0) (tVar 8))) (tOp (rD2 G idxF) (tVar 1) (tVar 8)))) (tVar 8) [8]) (tNil))) (gName 6))
  (tSeq (tAsg (tCallS (spL G S_fits_halves) (WE W) (tCons (tVar 0) (tCons (tVar 1) (tCons (tVar 5) (tNil))))) (gName 7))
  (tIfS (tOr (tTest (tOp (rD2 G neF) (tVar 7) (tVar 6))) (tOr (tNot (tTru G.K (tCallS (spL G S_law_whole) (WE W) (tCons (tVar 7) (tNil))))) (tTest (tOp (rD2 G neF) (tOp (rD2 G leF) (tVar 6) (tVar 2)) (tOp (rD2 G inF) (tVar 5) (tVar 3)))))) (tRet (tC (.bl false))) (tNext)))))
  (tRet (tC (.bl true)))

theorem len_law_fits : ∀ es m R XR, S_law_fits es m R XR → es.length = 5 := by
  rintro es m R XR ⟨a, b, c, d, e, rfl, _⟩
  rfl
theorem sem_law_fits (G : Ctx) : BodyD G 9 (rd_law_fits G) S_law_fits := by
  rintro W es m R XR ⟨ps, as, l, left, n, rfl, hl, hp, hn, hk, h⟩
  unfold rd_law_fits
  walk_at "r"
  refine ⟨_, rfl, by omega, by omega, ?_⟩
  rw [Int.toNat_natCast]
  refine forN (fun i ds' m' => m = m' ∧ ∃ o5 o6 o7 o8, ds' = [some (.d (dInts ps)), some (.d (dBls as)), some (.d (.int (l : Nat))), some (.d (dInts left)), some (.d (.int (n : Nat))), o5, o6, o7, o8]) ⟨rfl, none, none, none, none, rfl⟩ ?_ ?_
  · rintro i ds' m' hi ⟨rfl, o5, o6, o7, o8, rfl⟩
    walk_at "r"
    refine ⟨_, rfl, by omega, by omega, ?_⟩
    rw [Int.toNat_natCast, Int.zero_add]
    refine lcF (List.range ps.length) (fun k => .d (.int (0 + (k : Nat)))) (fun k => decide ((i : Int) < ps.getD k 0) != as.getD k false) (fun k => .int (0 + (k : Nat))) rfl (by rw [List.length_range]; omega) (fun k M hk hM => ⟨_, .name (by decide), ?_, fun _ => ?_⟩) ?_
    · have hk := List.mem_range.mp hk
      walk_at "r"
      refine ⟨_, atI_is hk, ?_⟩
      walk_at "r"
      refine ⟨_, atI_bs (by omega), ?_⟩
      walk_at "r"
      exact rfl
    · walk_at "r"
      exact rfl
    walk_at "r"
    refine ⟨ps, as, _, rfl, hl, hp, ?_⟩
    walk_at "r"
    refine i_nd (fun z => absurd rfl z) (fun _ => ?_)
    walk_at "r"
    refine ⟨_, rfl, ?_⟩
    walk_at "r"
    have e : (decide (((List.filter (fun k => decide ((i : Int) < ps.getD k 0) != as.getD k false) (List.range ps.length)).length : Int) ≤ (l : Int)) != decide ((i : Int) ∈ left)) = false := by
      have := hk i hi
      have e2 : decide (((List.filter (fun k => decide ((i : Int) < ps.getD k 0) != as.getD k false) (List.range ps.length)).length : Int) ≤ (l : Int)) = decide ((i : Int) ∈ left) := by
        apply decide_eq_decide.mpr
        rw [← this]
        unfold fitsN
        omega
      rw [e2, bne_self_eq_false]
    rw [e]
    refine i_f ?_
    walk_at "r"
    exact ⟨_, _, _, _, rfl⟩
  · rintro ds' m' ⟨rfl, o5, o6, o7, o8, rfl⟩
    walk_at "r"
    exact h
/-! ### told -/
def S_law_told : SpD := fun es m R _ => ∃ (n l : Int) (as : List Bool), es = [.d (.int n), .d (.int l), .d (dBls as)] ∧ as.length ≤ 1000 ∧ (¬ GameOk n l → R (.d (.str (tagS .game))) m) ∧ (GameOk n l → ¬ (n ≤ 7 ∧ l ≤ 2) → R (.d (.str (tagS .counts))) m) ∧
  (SGood n l → ¬ Asks l.toNat (zerosN n.toNat) as → R (.d (.str (tagS .question))) m) ∧ (SGood n l → Asks l.toNat (zerosN n.toNat) as → R (.d (.tup [dInts (plN l.toNat (zerosN n.toNat) as), oI (oneI (stN l.toNat (zerosN n.toNat) as))])) m)
def rd_law_told (G : Ctx) (W : WX) : TS :=
  tSeq (tAsg (tC .non) (gName 3))
  (tSeq (tAsg (tC .non) (gName 4))
  (tSeq (tTryK G.K (.ref G.le) 5 3 (fun W1 => tAsg (tCallS (spL G S_searched) (WE W1) (tCons (tVar 0) (tCons (tVar 1) (tCons (tVar 2) (tNil))))) (gName 4)))
  (tRet (tIf (tTest (tOp (rD2 G isF) (tVar 3) (tC .non))) (tVar 4) (tCallS (spL G S_law_refusal) (WE W) (tCons (tVar 3) (tNil)))))))

theorem len_law_told : ∀ es m R XR, S_law_told es m R XR → es.length = 3 := by
  rintro es m R XR ⟨a, b, c, rfl, _⟩
  rfl
theorem sem_law_told (G : Ctx) (hx : XAll G) : BodyD G 6 (rd_law_told G) S_law_told := by
  rintro W es m R XR ⟨n, l, as, rfl, hl, h1, h2, h3, h4⟩
  unfold rd_law_told
  walk_at "r"
  refine st_tryK (by show 5 < 6; decide) (by decide) hx fun W' => ?_
  walk_at "r"
  have ref : ∀ t, t ≠ .row → R (.d (.str (tagS t))) m → ∀ a, m a = none → StD G W (tRet (tIf (tTest (tOp (rD2 G isF) (tVar 3) (tC V.non))) (tVar 4) (tCallS (spL G S_law_refusal) (WE W) (tCons (tVar 3) tNil)))) [some (.d (.int n)), some (.d (.int l)), some (.d (dBls as)), some (.r a), some (.d .non), none] (mset m a (.exc t)) { nx := fun x m' => R (.d .non) m', rt := R } (fun t _ m' => XR t m') := by
    intro t t2 hR a ha
    refine st_ret (ev_drop ?_)
    walk_at "r"
    exact ⟨a, t, rfl, mset_same, t2, m, sub_mset ha, hR⟩
  refine ⟨n, l, as, rfl, hl, fun g => ⟨rfl, ref .game (by decide) (h1 g)⟩, fun g g2 => ⟨rfl, ref .counts (by decide) (h2 g g2)⟩, fun g g2 => ⟨rfl, ref .question (by decide) (h3 g g2)⟩, fun g g2 => ?_⟩
  walk_at "r"
  exact h4 g g2
end Lb

/-! SmL52: the law k52. -/
namespace Lb
open PySem L2
local macro_rules | `(tactic| walk_at "v") => `(tactic| ((with_reducible refine ev_var (d := ?dv) ?hv ?_); (case hv => exact rfl)))
local macro_rules | `(tactic| walk_at "f") => `(tactic| first
  | with_reducible refine f_in ?_
  | with_reducible refine f_notin ?_
  | with_reducible refine f_add_i ?_
  | with_reducible refine f_add_s ?_
  | with_reducible refine f_add_l ?_
  | with_reducible refine f_add_t ?_
  | with_reducible refine f_sub ?_
  | with_reducible refine f_mul_i ?_
  | with_reducible refine f_mul_l ?_
  | with_reducible refine f_mul_t ?_
  | with_reducible refine f_div ?_
  | with_reducible refine f_mod ?_
  | with_reducible refine f_pow ?_
  | with_reducible refine f_lt ?_
  | with_reducible refine f_le ?_
  | with_reducible refine f_gt ?_
  | with_reducible refine f_ge ?_
  | with_reducible refine f_eq_i ?_
  | with_reducible refine f_ne_i ?_
  | with_reducible refine f_eq_b ?_
  | with_reducible refine f_ne_b ?_
  | with_reducible refine f_is_n ?_
  | with_reducible refine f_isnot_n ?_
  | with_reducible refine f_is_i ?_
  | with_reducible refine f_isnot_i ?_
  | with_reducible refine f_is_b ?_
  | with_reducible refine f_isnot_b ?_
  | with_reducible refine f_is_s ?_
  | with_reducible refine f_isnot_s ?_
  | with_reducible refine f_is_l ?_
  | with_reducible refine f_isnot_l ?_
  | with_reducible refine f_is_t ?_
  | with_reducible refine f_isnot_t ?_
  | with_reducible refine f_is_r ?_
  | with_reducible refine f_isnot_r ?_
  | with_reducible refine f_is ?_
  | with_reducible refine f_isnot ?_
  | with_reducible refine f_neg ?_
  | with_reducible refine f_len_ml ?_
  | with_reducible refine f_len_mt ?_
  | with_reducible refine f_sum_l ?_
  | with_reducible refine f_sum_t ?_
  | with_reducible refine f_all ?_
  | with_reducible refine f_any ?_
  | with_reducible refine f_len_l ?_
  | with_reducible refine f_len_t ?_
  | with_reducible refine f_len_c ?_
  | with_reducible refine f_abs ?_
  | with_reducible refine f_min2 ?_
  | with_reducible refine f_max2 ?_
  | with_reducible refine f_list_l ?_
  | with_reducible refine f_list_t ?_
  | with_reducible refine f_tup_l ?_
  | with_reducible refine f_tup_t ?_
  | with_reducible refine f_int_i ?_
  | with_reducible refine f_int_b ?_
  | with_reducible refine f_sl_l ?_
  | with_reducible refine f_sl_t ?_
  | with_reducible refine f_tr_n ?_
  | with_reducible refine f_tr_b ?_
  | with_reducible refine f_tr_i ?_
  | with_reducible refine f_tr_l ?_
  | with_reducible refine f_tr_t ?_
  | with_reducible refine f_tr_c ?_)
local macro_rules | `(tactic| walk_at "m") => `(tactic| first
  | assumption
  | exact mset_same
  | ((refine (mset_ne ?_).trans ?_); (first | assumption | exact Ne.symm (by assumption)); walk_at "m"))
local macro_rules | `(tactic| walk_at "w") => `(tactic| first
  | walk_at "v"
  | with_reducible refine ev_rev ?_
  | with_reducible refine ev_sset ?_
  | with_reducible refine ev_lcl ?_
  | with_reducible refine ev_lct ?_
  | with_reducible refine ev_lcs ?_
  | with_reducible refine ev_lc1 ?_
  | with_reducible refine ev_lc2 ?_
  | with_reducible refine st_forl ?_
  | with_reducible refine st_fort ?_
  | with_reducible refine st_fors ?_
  | with_reducible refine st_for1 ?_
  | with_reducible refine st_for2 ?_
  | with_reducible refine ex_bl ?_
  | with_reducible refine ex_in ?_
  | with_reducible refine ex_ls ?_
  | with_reducible refine ex_tu ?_
  | with_reducible refine ex_st ?_
  | with_reducible refine ex_d0 ?_
  | with_reducible refine ex_d1 ?_
  | with_reducible refine ex_d2 ?_
  | with_reducible refine ex_d3 ?_
  | with_reducible refine ex_d4 ?_
  | with_reducible refine ex_d5 ?_
  | with_reducible refine ex_d6 ?_
  | with_reducible refine ex_d7 ?_
  | with_reducible refine ex_d8 ?_
  | with_reducible refine m_and ?_
  | with_reducible refine i_t ?_
  | with_reducible refine i_f ?_
  | with_reducible refine i_nt ?_
  | with_reducible refine i_nf ?_
  | with_reducible refine ev_fld ?_
  | ((with_reducible refine x_fld (fs := ?fs) (v := ?vv) ?hh ?ll ?_); (case hh => walk_at "m"); (case ll => exact rfl))
  | with_reducible refine ev_meth ?_
  | ((with_reducible refine x_meth (fs := ?fs) ?hh ?ll ?_); (case hh => walk_at "m"); (case ll => exact rfl))
  | with_reducible refine ev_make ?_
  | with_reducible refine st_fld ?_
  | ((with_reducible refine x_set (fs := ?fs) ?hh ?ll ?_); (case hh => walk_at "m"); (case ll => exact Nat.le_of_ble_eq_true rfl))
  | with_reducible refine ev_lstP ?_
  | with_reducible refine ev_dnew ?_
  | with_reducible refine st_dset ?_
  | with_reducible refine ev_tup ?_
  | with_reducible refine ev_lst ?_
  | with_reducible refine ev_int ?_
  | with_reducible refine ea_cons ?_
  | with_reducible refine ea_nil ?_
  | with_reducible refine ev_op ?_
  | with_reducible refine st_seq ?_
  | with_reducible refine st_asg ?_
  | with_reducible refine ev_call ?_
  | with_reducible refine ev_cb ?_
  | with_reducible refine st_if ?_
  | with_reducible refine et_test ?_
  | with_reducible refine et_not ?_
  | with_reducible refine et_or ?_
  | with_reducible refine et_and ?_
  | with_reducible refine et_tru ?_
  | with_reducible refine et_yes ?_
  | with_reducible refine et_B ?_
  | with_reducible refine ev_chain ?_
  | with_reducible refine ev_chain3 ?_
  | with_reducible refine ev_un ?_
  | with_reducible refine ev_if ?_
  | with_reducible refine ev_bl ?_
  | with_reducible refine ev_non ?_
  | with_reducible refine ev_str ?_
  | with_reducible refine ev_andV ?_
  | with_reducible refine ev_orV ?_
  | with_reducible refine ev_notV ?_
  | with_reducible refine ev_isB ?_
  | with_reducible refine ev_isE ?_
  | with_reducible refine ev_sl2 ?_
  | with_reducible refine ev_slA ?_
  | with_reducible refine ev_slB ?_
  | with_reducible refine ev_bmL ?_
  | with_reducible refine ev_bmL0 ?_
  | with_reducible refine st_ret ?_
  | with_reducible refine st_drop ?_
  | with_reducible refine st_next ?_
  | with_reducible refine st_setL ?_
  | with_reducible refine st_asgG ?_
  | with_reducible refine st_raise ?_
  | with_reducible refine gt_name ?_
  | with_reducible refine gt_tup2 ?_
  | with_reducible refine gt_tup3 ?_
  | walk_at "f")
local macro_rules | `(tactic| walk_at "r") => `(tactic| repeat walk_at "w")

def S_law : SpD := fun es m R _ => ∃ ns : List Int, es = [.scr ns] ∧ ∀ m', R (.d (.bl true)) m'
def rd_law_c0 (G : Ctx) (W : WX) : TS :=
  tIfS (tOr (tNot (tTru G.K (tCB (rIsB G "tuple") (tCons (tVar 10) (tCons (tC (.ty "tuple")) tNil))))) (tTest (tOp (rD2 G neF) (tVar 10) (tTup (tCons (tSl (rDS G sliceF) (tVar 6) tNoPart (tPart (tVar 9))) (tCons (tVar 11) (tNil))))))) (tRet (tC (.bl false))) (tNext)
def rd_law_8 (G : Ctx) (W : WX) : TS :=
  tSeq (tIfS (tOr (tNot (tTru G.K (tCallS (spL G S_law_fits) (WE W) (tCons (tVar 6) (tCons (tVar 5) (tCons (tVar 1) (tCons (tVar 8) (tCons (tVar 2) (tNil))))))))) (tTest (tOp (rD2 G neF) (tCallS (spL G S_law_told) (WE W) (tCons (tVar 2) (tCons (tVar 1) (tCons (tOp (rD2 G addF) (tVar 5) (tLst (tCons (tC (.bl true)) (tNil)))) (tNil))))) (tC (.str (Str.ofString "question")))))) (tRet (tC (.bl false))) (tNext))
  (tRet (tOp (rD2 G eqF) (tLst (tCons (tCallS (spL G S_law_told) (WE W) (tCons (tC (.int 8)) (tCons (tC (.int 1)) (tCons (tLst (tNil)) (tNil))))) (tCons (tCallS (spL G S_law_told) (WE W) (tCons (tC (.int 3)) (tCons (tC (.int 3)) (tCons (tLst (tNil)) (tNil))))) (tCons (tCallS (spL G S_law_told) (WE W) (tCons (tC (.int 3)) (tCons (tC (.int 5)) (tCons (tLst (tNil)) (tNil))))) (tNil))))) (tLst (tCons (tC (.str (Str.ofString "counts"))) (tCons (tC (.str (Str.ofString "counts"))) (tCons (tC (.str (Str.ofString "game"))) (tNil)))))))
def rd_law_7 (G : Ctx) (W : WX) : TS :=
  tSeq (tIfS (tOr (tTest (tOp (rD2 G gtF) (tCB (rDn G lenF) (tCons (tVar 6) (tNil))) (tOp (rD2 G idxF) (tCallS (spL G S_least_halves) (WE W) (tCons (tOp (rD2 G mulF) (tTup (tCons (tC (.int 0)) (tNil))) (tVar 2)) (tCons (tVar 1) (tNil)))) (tC (.int 0))))) (tAnd (tTru G.K (tVar 4)) (tTest (tOp (rD2 G neF) (tVar 8) (tLst (tCons (tVar 3) (tNil))))))) (tRet (tC (.bl false))) (tNext))
  (rd_law_8 G W)
def rd_law_6 (G : Ctx) (W : WX) : TS :=
  tSeq (tFor (iRng1 (tCons (tOp (rD2 G addF) (tCB (rDn G lenF) (tCons (tVar 5) (tNil))) (tC (.int 1))) (tNil))) (gName 9) (tSeq (tAsg (tCallS (spL G S_law_told) (WE W) (tCons (tVar 2) (tCons (tVar 1) (tCons (tSl (rDS G sliceF) (tVar 5) tNoPart (tPart (tVar 9))) (tNil))))) (gName 10))
  (tSeq (tAsg (tIf (tAnd (tTest (tOp (rD2 G eqF) (tVar 9) (tCB (rDn G lenF) (tCons (tVar 5) (tNil))))) (tTest (tOp (rD2 G neF) (tVar 8) (tLst (tNil))))) (tOp (rD2 G idxF) (tVar 8) (tC (.int 0))) (tC .non)) (gName 11))
  (rd_law_c0 G W))))
  (rd_law_7 G W)
def rd_law_5 (G : Ctx) (W : WX) : TS :=
  tSeq (tAsg (tLc (iRng1 (tCons (tVar 2) (tNil))) (gName 12) (tTest (tOp (rD2 G isnotF) (tOp (rD2 G idxF) (tVar 7) (tVar 12)) (tC .non))) (tVar 12) [12]) (gName 8))
  (rd_law_6 G W)
def rd_law (G : Ctx) (W : WX) : TS :=
  tSeq (tAsg (tOp (rD2 G modF) (tCallS (spL G S_law_mix) (WE W) (tCons (tVar 0) (tCons (tC (.int 0)) (tNil)))) (tC (.int 3))) (gName 1))
  (tSeq (tAsg (tOp (rD2 G addF) (tC (.int 1)) (tOp (rD2 G modF) (tCallS (spL G S_law_mix) (WE W) (tCons (tVar 0) (tCons (tC (.int 1)) (tNil)))) (tOp (rD2 G idxF) (tLst (tCons (tC (.int 6)) (tCons (tC (.int 6)) (tCons (tC (.int 4)) (tNil))))) (tVar 1)))) (gName 2))
  (tSeq (tAsg (tOp (rD2 G modF) (tCallS (spL G S_law_mix) (WE W) (tCons (tVar 0) (tCons (tC (.int 2)) (tNil)))) (tVar 2)) (gName 3))
  (tSeq (tAsg (tOp (rD2 G gtF) (tOp (rD2 G modF) (tCallS (spL G S_law_mix) (WE W) (tCons (tVar 0) (tCons (tC (.int 3)) (tNil)))) (tC (.int 4))) (tC (.int 0))) (gName 4))
  (tSeq (tAsg (tCallS (spL G S_law_played) (WE W) (tCons (tVar 0) (tCons (tVar 2) (tCons (tVar 1) (tCons (tVar 3) (tCons (tVar 4) (tNil))))))) (gTup G.K 3 (gCons (gName 5) (gCons (gName 6) (gCons (gName 7) (gNil))))))
  (rd_law_5 G W)))))

theorem len_law : ∀ es m R XR, S_law es m R XR → es.length = 1 := by
  rintro es m R XR ⟨a, rfl, _⟩
  rfl
theorem ask_law (ns : List Int) (hl : ns.length ≤ 63) : S_law [.scr ns] (fun _ => none) (fun d _ => d = .d (.bl true)) (fun _ _ => False) := ⟨ns, rfl, fun _ => rfl⟩
abbrev leftZ (t : Told) : List Int := (leftI t).map fun i => ((i : Nat) : Int)
structure Pl (n l : Nat) (as : List Bool) : Prop where
  n1 : 1 ≤ n
  n7 : n ≤ 7
  l2 : l ≤ 2
  a : Asks l (zerosN n) as
  e : leftT (stN l (zerosN n) as) ≤ 1
  k : as.length ≤ 21
abbrev lawS (ns : List Int) (n l h : Nat) (tr : Bool) (as : List Bool) (o8 o9 o10 o11 o12 : Option DV) : DS := [some (.scr ns), some (.d (.int (l : Nat))), some (.d (.int (n : Nat))), some (.d (.int (h : Nat))), some (.d (.bl tr)), some (.d (dBls as)), some (.d (dInts (plN l (zerosN n) as))), some (.d (dTold (stN l (zerosN n) as))), o8, o9, o10, o11, o12]
theorem Pl.g {n l : Nat} {as : List Bool} (p : Pl n l as) : SGood (n : Int) (l : Int) := by
  have := p.n1
  have := p.n7
  have := p.l2
  exact ⟨⟨by omega, by omega, by omega, by omega⟩, by omega, by omega⟩
theorem sh_pair {a : List Int} {o : Option Int} : Sh 63 (.tup [dInts a, oI o]) := by
  refine Sh.tup fun y hy => ?_
  simp at hy
  rcases hy with rfl | rfl
  · exact sh_dInts
  · exact sh_oI
theorem cut_to {α : Type} (xs : List α) (k : Nat) : cut xs none (some (k : Int)) = xs.take k := by
  unfold cut
  have e1 : HT.sIx xs.length 0 none = 0 := HT.sIx_none _ _
  rw [e1, HT.sIx_nat, List.drop_zero, Nat.sub_zero]
  by_cases h : k ≤ xs.length
  · rw [Nat.min_eq_left h]
  · rw [Nat.min_eq_right (by omega), List.take_length, List.take_of_length_le (by omega)]
theorem law_8 {G : Ctx} {W : WX} {m : Mu} {R : DV → Mu → Prop} {XR : Tag → Mu → Prop} {ns : List Int} {n l h : Nat} {tr : Bool} {as : List Bool} {o9 o10 o11 o12 : Option DV} (p : Pl n l as) (H : ∀ m', R (.d (.bl true)) m') :
    StD G W (rd_law_8 G W) (lawS ns n l h tr as (some (.d (dInts (leftZ (stN l (zerosN n) as))))) o9 o10 o11 o12) m (NL R) (fun t _ m' => XR t m') := by
  have hk := p.k
  have hn7 := p.n7
  have hsl := st_len l as (zerosN n)
  rw [List.length_replicate] at hsl
  unfold rd_law_8
  walk_at "r"
  refine ⟨plN l (zerosN n) as, as, l, leftZ (stN l (zerosN n) as), n, rfl, plN_len _ _ _, by rw [plN_len]; omega, by omega, fun t ht => ?_, ?_⟩
  · have e := st_fits (l := l) ht as
    constructor
    · intro z
      rw [if_pos z] at e
      exact List.mem_map.mpr ⟨t, mem_leftI.mpr ⟨by omega, by rw [e]; rfl⟩, rfl⟩
    · intro z
      obtain ⟨i, hi, ei⟩ := List.mem_map.mp z
      have : i = t := by omega
      subst this
      have h2 := (mem_leftI.mp hi).2
      rw [e] at h2
      apply Classical.byContradiction
      intro y
      rw [if_neg y] at h2
      cases h2
  walk_at "r"
  refine ⟨by rw [List.length_map]; show as.length + 1 ≤ _; omega, ?_⟩
  rw [show D.lst (as.map D.bl ++ [D.bl true]) = dBls (as ++ [true]) by rw [dBls, List.map_append]; rfl]
  walk_at "r"
  refine ⟨n, l, as ++ [true], rfl, by rw [List.length_append]; show as.length + 1 ≤ _; omega, fun z => absurd p.g.1 z, fun _ z => absurd p.g.2 z, fun _ _ => ?_, fun _ z => ?_⟩
  · walk_at "r"
    refine ne_self (.str (tagS .question)) rfl rfl (sh_str (by decide +kernel)) ?_
    walk_at "r"
    refine ⟨8, 1, [], rfl, by decide, fun z => absurd (by decide) z, fun _ _ => ?_, fun z => absurd z.2.1 (by decide), fun z => absurd z.2.1 (by decide)⟩
    walk_at "r"
    refine ⟨3, 3, [], rfl, by decide, fun z => absurd (by decide) z, fun _ _ => ?_, fun z => absurd z.2.2 (by decide), fun z => absurd z.2.2 (by decide)⟩
    walk_at "r"
    refine ⟨3, 5, [], rfl, by decide, fun _ => ?_, fun z => absurd z (by decide), fun z => absurd z.2.2 (by decide), fun z => absurd z.2.2 (by decide)⟩
    walk_at "r"
    refine eq_strs [tagS .counts, tagS .counts, tagS .game] (by decide +kernel) rfl rfl ?_
    exact H _
  · have := z as.length (by simp)
    rw [Int.toNat_natCast, Int.toNat_natCast, List.take_append_of_le_length (Nat.le_refl _), List.take_length] at this
    have := p.e
    omega
theorem law_7 {G : Ctx} {W : WX} {m : Mu} {R : DV → Mu → Prop} {XR : Tag → Mu → Prop} {ns : List Int} {n l h : Nat} {tr : Bool} {as : List Bool} {o9 o10 o11 o12 : Option DV} (p : Pl n l as) (ht : tr = true → ((stN l (zerosN n) as).getD h none).isSome = true) (hh : h < n) (H : ∀ m', R (.d (.bl true)) m') :
    StD G W (rd_law_7 G W) (lawS ns n l h tr as (some (.d (dInts (leftZ (stN l (zerosN n) as))))) o9 o10 o11 o12) m (NL R) (fun t _ m' => XR t m') := by
  have hn1 := p.n1
  have hn7 := p.n7
  have hl2 := p.l2
  have hD := zeros_dom hn7 hl2
  have hrun := least_run hD as p.a
  have hsl := st_len l as (zerosN n)
  rw [List.length_replicate] at hsl
  unfold rd_law_7
  walk_at "r"
  refine ⟨by simp, by omega, by omega, by show 1 ≤ 1000; decide, ?_⟩
  rw [zeros_flat]
  walk_at "r"
  refine ask_least hD (by rw [List.length_replicate]; exact hn1) ?_
  walk_at "r"
  refine ⟨.int (leastN l (zerosN n) : Nat), atI_nat (j := 0) rfl, ?_⟩
  walk_at "r"
  rw [plN_len]
  refine i_d (fun z => by omega) (fun _ => ?_)
  walk_at "r"
  cases tr with
  | false =>
    refine i_f ?_
    walk_at "r"
    exact law_8 p H
  | true =>
    refine i_t ?_
    walk_at "r"
    have e := left_one p.e (mem_leftI.mpr ⟨by omega, ht rfl⟩)
    refine ne_self (dInts [(h : Int)]) ?_ rfl sh_dInts ?_
    · show some (dInts (leftZ (stN l (zerosN n) as))) = _
      unfold leftZ
      rw [e]
      rfl
    walk_at "r"
    exact law_8 p H
theorem one_left {t : Told} : oI (oneI t) = (match leftI t with | [i] => .int (i : Int) | _ => .non) := by
  unfold oneI
  generalize leftI t = xs
  match xs with
  | [] => rfl
  | [_] => rfl
  | _ :: _ :: _ => rfl
theorem law_6 {G : Ctx} {W : WX} {m : Mu} {R : DV → Mu → Prop} {XR : Tag → Mu → Prop} {ns : List Int} {n l h : Nat} {tr : Bool} {as : List Bool} {o9 o10 o11 o12 : Option DV} (p : Pl n l as) (ht : tr = true → ((stN l (zerosN n) as).getD h none).isSome = true) (hh : h < n) (H : ∀ m', R (.d (.bl true)) m') :
    StD G W (rd_law_6 G W) (lawS ns n l h tr as (some (.d (dInts (leftZ (stN l (zerosN n) as))))) o9 o10 o11 o12) m (NL R) (fun t _ m' => XR t m') := by
  have hk := p.k
  have hn1 := p.n1
  have hn7 := p.n7
  have hl2 := p.l2
  have hD := zeros_dom hn7 hl2
  unfold rd_law_6
  walk_at "r"
  refine ⟨_, rfl, by omega, by omega, ?_⟩
  rw [show ((as.length : Int) + 1).toNat = as.length + 1 by omega]
  refine forN (fun i ds' m' => m = m' ∧ ∃ o9 o10 o11 o12, ds' = lawS ns n l h tr as (some (.d (dInts (leftZ (stN l (zerosN n) as))))) o9 o10 o11 o12) ⟨rfl, o9, o10, o11, o12, rfl⟩ ?_ ?_
  · rintro i ds' m' hi ⟨rfl, o9, o10, o11, o12, rfl⟩
    walk_at "r"
    rw [Int.zero_add, cut_to, ← List.map_take]
    refine ⟨n, l, as.take i, rfl, by rw [List.length_take]; omega, fun z => absurd p.g.1 z, fun _ z => absurd p.g.2 z, fun _ z => absurd (p.a.take i) z, fun _ _ => ?_⟩
    rw [Int.toNat_natCast, Int.toNat_natCast]
    have fin : ∀ x, x = oI (oneI (stN l (zerosN n) (as.take i))) → ∀ o12, StD G W (rd_law_c0 G W) (lawS ns n l h tr as (some (.d (dInts (leftZ (stN l (zerosN n) as))))) (some (.d (.int (i : Nat)))) (some (.d (.tup [dInts (plN l (zerosN n) (as.take i)), oI (oneI (stN l (zerosN n) (as.take i)))]))) (some (.d x)) o12) m { nx := fun ds' m' => m = m' ∧ ∃ o9 o10 o11 o12, ds' = lawS ns n l h tr as (some (.d (dInts (leftZ (stN l (zerosN n) as))))) o9 o10 o11 o12, rt := R, bk := fun ds' m' => StD G W (rd_law_7 G W) ds' m' (NL R) (fun t _ m' => XR t m'), ct := fun ds' m' => m = m' ∧ ∃ o9 o10 o11 o12, ds' = lawS ns n l h tr as (some (.d (dInts (leftZ (stN l (zerosN n) as))))) o9 o10 o11 o12 } (fun t _ m' => XR t m') := by
      rintro x rfl o12
      unfold rd_law_c0
      walk_at "r"
      refine ⟨"tuple", true, rfl, by decide +kernel, ?_⟩
      walk_at "r"
      rw [cut_to, ← List.map_take, ← plN_take]
      refine ne_self (.tup [dInts (plN l (zerosN n) (as.take i)), oI (oneI (stN l (zerosN n) (as.take i)))]) rfl rfl sh_pair ?_
      walk_at "r"
      exact ⟨_, _, _, _, rfl⟩
    walk_at "r"
    refine i_d (fun c => ?_) (fun c => ?_)
    · have c : i = as.length := by omega
      subst c
      walk_at "r"
      rw [List.take_length] at *
      cases e : leftI (stN l (zerosN n) as) with
      | nil =>
        refine ne_self (.lst []) ?_ rfl (Sh.lst fun _ z => nomatch z) ?_
        · show some (dInts (leftZ (stN l (zerosN n) as))) = _
          unfold leftZ
          rw [e]
          rfl
        walk_at "r"
        refine fin .non ?_ _
        rw [one_left, e]
      | cons j r =>
        have e2 := left_one p.e (show j ∈ leftI (stN l (zerosN n) as) by rw [e]; exact List.mem_cons_self)
        have e3 : leftZ (stN l (zerosN n) as) = [(j : Int)] := by unfold leftZ; rw [e2]; rfl
        refine v_ne (a := dInts [(j : Int)]) (b := .lst []) ?_ rfl sh_dInts (Sh.lst fun _ z => nomatch z) ?_
        · show some (dInts (leftZ (stN l (zerosN n) as))) = _
          rw [e3]
        rw [show eqD (dInts [(j : Int)]) (.lst []) = false from by rw [show D.lst [] = dInts [] from rfl, eqD_ints]; rfl]
        walk_at "r"
        refine ⟨.int (j : Int), ?_, ?_⟩
        · rw [e3]; exact atI_nat (j := 0) rfl
        refine fin (.int (j : Int)) ?_ _
        rw [one_left, e2]
    · have c : i < as.length := by omega
      walk_at "r"
      refine fin .non ?_ _
      have h2 := p.a i c
      rw [one_left]
      have := leftI_len (stN l (zerosN n) (as.take i))
      match e : leftI (stN l (zerosN n) (as.take i)) with
      | [] => rfl
      | [_] => rw [e] at this; simp at this; omega
      | _ :: _ :: _ => rfl
  · rintro ds' m' ⟨rfl, o9, o10, o11, o12, rfl⟩
    exact law_7 p ht hh H
theorem law_5 {G : Ctx} {W : WX} {m : Mu} {R : DV → Mu → Prop} {XR : Tag → Mu → Prop} {ns : List Int} {n l h : Nat} {tr : Bool} {as : List Bool} {o8 o9 o10 o11 o12 : Option DV} (p : Pl n l as) (ht : tr = true → ((stN l (zerosN n) as).getD h none).isSome = true) (hh : h < n) (H : ∀ m', R (.d (.bl true)) m') :
    StD G W (rd_law_5 G W) (lawS ns n l h tr as o8 o9 o10 o11 o12) m (NL R) (fun t _ m' => XR t m') := by
  have hn7 := p.n7
  have hsl := st_len l as (zerosN n)
  rw [List.length_replicate] at hsl
  unfold rd_law_5
  walk_at "r"
  refine ⟨_, rfl, by omega, by omega, ?_⟩
  rw [Int.toNat_natCast]
  refine lcF (List.range n) (fun t => .d (.int (0 + (t : Nat)))) (fun t => ((stN l (zerosN n) as).getD t none).isSome) (fun t => .int ((t : Nat) : Int)) rfl (by rw [List.length_range]; omega) (fun t M ht hM => ⟨_, .name (by decide), ?_, fun _ => ?_⟩) ?_
  · have ht := List.mem_range.mp ht
    walk_at "r"
    rw [Int.zero_add]
    refine ⟨_, atI_told (by omega), ?_⟩
    cases (stN l (zerosN n) as).getD t none with
    | none =>
      rw [oN_none]
      walk_at "r"
      exact rfl
    | some z =>
      rw [oN_some]
      walk_at "r"
      exact rfl
  · walk_at "r"
    rw [Int.zero_add]
  have eL : D.lst (List.map (fun t : Nat => D.int ((t : Nat) : Int)) ((List.range n).filter fun t => ((stN l (zerosN n) as).getD t none).isSome)) = dInts (leftZ (stN l (zerosN n) as)) := by
    unfold leftZ leftI
    rw [dInts, List.map_map, hsl]
    rfl
  rw [eL]
  exact law_6 p ht hh H
theorem sem_law (G : Ctx) : BodyD G 13 (rd_law G) S_law := by
  rintro W es m R XR ⟨ns, rfl, H⟩
  unfold rd_law
  walk_at "r"
  refine ⟨ns, 0, rfl, by decide, by decide, ?_⟩
  walk_at "r"
  refine ⟨by decide, ?_⟩
  obtain ⟨l, hl, el⟩ := mix_lt ns 0 (z := 3) (by decide)
  rw [show mixN ns 0 % 3 = (l : Int) from el]
  walk_at "r"
  refine ⟨ns, 1, rfl, by decide, by decide, ?_⟩
  walk_at "r"
  obtain ⟨z, hz0, hz, ez⟩ : ∃ z : Nat, 0 < z ∧ z ≤ 6 ∧ atI [D.int 6, D.int 6, D.int 4] (l : Int) = some (.int (z : Nat)) := by
    match l, hl with
    | 0, _ => exact ⟨6, by decide, by decide, atI_nat rfl⟩
    | 1, _ => exact ⟨6, by decide, by decide, atI_nat rfl⟩
    | 2, _ => exact ⟨4, by decide, by decide, atI_nat rfl⟩
  refine ⟨_, ez, ?_⟩
  walk_at "r"
  refine ⟨by omega, ?_⟩
  obtain ⟨n0, hn, en⟩ := mix_lt ns 1 (z := z) hz0
  rw [en]
  refine f_add_i ?_
  rw [show 1 + (n0 : Int) = ((n0 + 1 : Nat) : Int) by omega]
  walk_at "r"
  refine ⟨ns, 2, rfl, by decide, by decide, ?_⟩
  walk_at "r"
  refine ⟨by omega, ?_⟩
  obtain ⟨h, hh, eh⟩ := mix_lt ns 2 (z := n0 + 1) (by omega)
  rw [eh]
  walk_at "r"
  refine ⟨ns, 3, rfl, by decide, by decide, ?_⟩
  walk_at "r"
  refine ⟨by decide, ?_⟩
  walk_at "r"
  refine ⟨ns, n0 + 1, l, h, _, rfl, by omega, by omega, by omega, hh, fun as hA hE hK hT => ?_⟩
  walk_at "r"
  exact law_5 ⟨by omega, by omega, by omega, hA, hE, hK⟩ hT hh H
end Lb

namespace Lb
open PySem L2
def topS (i : Nat) : Stmt := PySem.Challenge.pw_liarbook_k52_whole_searched.main.body.getD i (.Pass ⟨0, 0, 0, 0⟩)
structure Tx (G : Ctx) (mg : Str → Option Value) : Prop where
  b_ValueError : mg "ValueError" = none
  b_all : mg "all" = none
  b_bool : mg "bool" = none
  b_int : mg "int" = none
  b_isinstance : mg "isinstance" = none
  b_len : mg "len" = none
  b_max : mg "max" = none
  b_range : mg "range" = none
  b_tuple : mg "tuple" = none
  c_MOST_LIES_games : ∃ t, mg "MOST_LIES_games" = some (.int 4 t)
  c_MOST_LIES_halves : ∃ t, mg "MOST_LIES_halves" = some (.int 2 t)
  c_MOST_THINGS_games : ∃ t, mg "MOST_THINGS_games" = some (.int 64 t)
  c_MOST_THINGS_halves : ∃ t, mg "MOST_THINGS_halves" = some (.int 7 t)
  e_game : ErrAt G mg "BadGame" .game
  e_counts : ErrAt G mg "BadCounts" .counts
  e_question : ErrAt G mg "BadQuestion" .question
  e_liar : ErrAt G mg "Liar" .liar
  e_plan : ErrAt G mg "BadPlan" .plan
  e_text : ErrAt G mg "BadText" .text
  cl_halver : ClOk G .halver
  mk_halver : MkOk G mg .halver "Halver"
  n_halver_known : NoAttr G.K (G.cl .halver) "known"
  n_halver_most : NoAttr G.K (G.cl .halver) "most"
  le : mg "LiarError" = some (.ref G.le)
  exc : ExcT G
  xall : XAll G
abbrev s_look_game : Stmt := topS 11
abbrev N_look_game : List Str := ["things", "lies"]
theorem sc_look_game : FnScope N_look_game ["things", "lies"] (defScope s_look_game) := ⟨rfl, rfl, rfl, by decide +kernel, rfl, by decide +kernel, by decide +kernel⟩
theorem fk_look_game {P : Program} {mg : Str → Option Value} {base : Heap} {G : Ctx} (T : Tx G mg) (F : DefAt G mg "look_game" "look_game" s_look_game ["things", "lies"]) : FnF P G mg base 1 "look_game" ["things", "lies"] S_look_game := by
    refine fnF_mk (k := 0) F sc_look_game len_look_game (sem_look_game G) (fun f cdv A outer s H E hr => ?_)
    have tk := takes_of (X := cxOf (L2.CX P G.w) P G.w G.K mg base N_look_game "look_game" (defScope s_look_game) f cdv A outer s H E) (E := E) rfl rfl rfl rfl
    have po := passes_of (X := cxOf (L2.CX P G.w) P G.w G.K mg base N_look_game "look_game" (defScope s_look_game) f cdv A outer s H E) rfl
    exact (pss_one (ps_if (PW.pt (pw_or (pt_not (pt_chain (or_le) (or_le) pe_int (pv 0) (pe_globI T.c_MOST_THINGS_games rfl))) (pw_or1 (pt_not (pt_chain (or_le) (or_le) pe_int (pv 1) (pe_globI T.c_MOST_LIES_games rfl)))))) (pss_one (ps_raiseE rfl tk rfl T.e_game rfl)) pss_nil))
abbrev s_look_told : Stmt := topS 15
abbrev N_look_told : List Str := ["told", "lies", "many"]
theorem sc_look_told : FnScope N_look_told ["told", "lies"] (defScope s_look_told) := ⟨rfl, rfl, rfl, by decide +kernel, rfl, by decide +kernel, by decide +kernel⟩
theorem fk_look_told {P : Program} {mg : Str → Option Value} {base : Heap} {G : Ctx} (T : Tx G mg) (F : DefAt G mg "look_told" "look_told" s_look_told ["told", "lies"]) (h_look_game : FnF P G mg base 1 "look_game" ["things", "lies"] S_look_game) : FnF P G mg base 2 "look_told" ["told", "lies"] S_look_told := by
    refine fnF_mk (k := 1) F sc_look_told len_look_told (sem_look_told G) (fun f cdv A outer s H E hr => ?_)
    have tk := takes_of (X := cxOf (L2.CX P G.w) P G.w G.K mg base N_look_told "look_told" (defScope s_look_told) f cdv A outer s H E) (E := E) rfl rfl rfl rfl
    have po := passes_of (X := cxOf (L2.CX P G.w) P G.w G.K mg base N_look_told "look_told" (defScope s_look_told) f cdv A outer s H E) rfl
    exact (pss_cons (ps_expr (pe_callF h_look_game rfl rfl (hr.mono (by decide)) tk (by rfl) (pa_cons (pe_callB (cr_maxD rfl) (by rfl) T.b_max bt_max (pa_cons pe_int (pa_cons (pe_callB (cr_len rfl) (by rfl) T.b_len PySem.boot_len (pa_cons (pv 0) pa_nil)) pa_nil))) (pa_cons (pv 1) pa_nil))))
    (pss_cons (ps_if (PW.pt (pw_or (pt_not (pt_chain (or_le) (or_le) pe_int (pe_callB (cr_len rfl) (by rfl) T.b_len PySem.boot_len (pa_cons (pv 0) pa_nil)) (pe_globI T.c_MOST_THINGS_halves rfl))) (pw_or1 (pt_cmpR (or_gt) (pv 1) (pe_globI T.c_MOST_LIES_halves rfl) (nomark _))))) (pss_one (ps_raiseE rfl tk rfl T.e_counts rfl)) pss_nil)
    (pss_one (ps_if (pt_not (pt_truD (pe_callB (cr_allD rfl) (by rfl) T.b_all bt_all (pa_cons (pe_lc (own := [("many", 2)]) (by rfl) sc_look_told.nd (pi_tup (pv 0)) (blkOk_by (own := [("many", 2)]) (N := N_look_told) (sc := defScope s_look_told) (by decide +kernel)) (fun _ _ _ _ _ => (pg_name (i := 2) sc_look_told.nd rfl (Or.inl rfl))) (fun _ _ _ _ _ => pts_nil) (fun _ _ _ _ _ => (pe_or (pe_cmpR (or_is) (pv 2) pe_non (nomark _)) (pe_one (pe_chain (or_le) (or_le) pe_int (pv 2) (pv 1)))))) pa_nil)))) (pss_one (ps_raiseE rfl tk rfl T.e_counts rfl)) pss_nil))))
abbrev s_asked_at : Stmt := topS 16
abbrev N_asked_at : List Str := ["told", "lies", "place", "answer", "found", "thing", "many"]
theorem sc_asked_at : FnScope N_asked_at ["told", "lies", "place", "answer"] (defScope s_asked_at) := ⟨rfl, rfl, rfl, by decide +kernel, rfl, by decide +kernel, by decide +kernel⟩
theorem fk_asked_at {P : Program} {mg : Str → Option Value} {base : Heap} {G : Ctx} (T : Tx G mg) (F : DefAt G mg "asked_at" "asked_at" s_asked_at ["told", "lies", "place", "answer"]) : FnF P G mg base 1 "asked_at" ["told", "lies", "place", "answer"] S_asked_at := by
    refine fnF_mk (k := 0) F sc_asked_at len_asked_at (sem_asked_at G) (fun f cdv A outer s H E hr => ?_)
    have tk := takes_of (X := cxOf (L2.CX P G.w) P G.w G.K mg base N_asked_at "asked_at" (defScope s_asked_at) f cdv A outer s H E) (E := E) rfl rfl rfl rfl
    have po := passes_of (X := cxOf (L2.CX P G.w) P G.w G.K mg base N_asked_at "asked_at" (defScope s_asked_at) f cdv A outer s H E) rfl
    exact (pss_cons (ps_set (i := 4) sc_asked_at.nd rfl (Or.inl rfl) (pe_lstO pa_nil))
    (pss_cons (ps_for po rfl (pi_range1 rfl T.b_range (pa_cons (pe_callB (cr_len rfl) (by rfl) T.b_len PySem.boot_len (pa_cons (pv 0) pa_nil)) pa_nil)) (pg_name (i := 5) sc_asked_at.nd rfl (Or.inl rfl)) (pss_cons (ps_set (i := 6) sc_asked_at.nd rfl (Or.inl rfl) (pe_ix (ix_D rfl) (pv 0) (pv 5) (fun _ _ => rfl)))
    (pss_cons (ps_if (PW.pt (pw_and (pt_cmpR (or_isnot) (pv 6) pe_non (nomark _)) (pw_and1 (pt_cmpR (or_ne hr.units) (pe_cmpR (or_lt hr.units0) (pv 5) (pv 2) (nomark _)) (pv 3) (nomark _))))) (pss_one (ps_set (i := 6) sc_asked_at.nd rfl (Or.inl rfl) (pe_ifExp (pt_cmpR (or_lt hr.units0) (pv 6) (pv 1) (nomark _)) (pe_op (or_add rfl) (pv 6) pe_int) pe_non))) pss_nil)
    (pss_one (ps_expr (pe_bm PySem.F.plainAttrs_list PySem.F.slot_list_append PySem.F.type_list_append (mt_appendD) (pv 4) (pa_cons (pv 6) pa_nil)))))))
    (pss_one (ps_ret (pe_callTy (cr_tupleD) (by rfl) T.b_tuple bt_tuple (pa_cons (pv 4) pa_nil))))))
abbrev s_behind_place : Stmt := topS 17
abbrev N_behind_place : List Str := ["told", "lies", "place", "answer"]
theorem sc_behind_place : FnScope N_behind_place ["told", "lies", "place", "answer"] (defScope s_behind_place) := ⟨rfl, rfl, rfl, by decide +kernel, rfl, by decide +kernel, by decide +kernel⟩
theorem fk_behind_place {P : Program} {mg : Str → Option Value} {base : Heap} {G : Ctx} (T : Tx G mg) (F : DefAt G mg "behind_place" "behind_place" s_behind_place ["told", "lies", "place", "answer"]) (h_look_told : FnF P G mg base 2 "look_told" ["told", "lies"] S_look_told) (h_asked_at : FnF P G mg base 1 "asked_at" ["told", "lies", "place", "answer"] S_asked_at) : FnF P G mg base 3 "behind_place" ["told", "lies", "place", "answer"] S_behind_place := by
    refine fnF_mk (k := 2) F sc_behind_place len_behind_place (sem_behind_place G) (fun f cdv A outer s H E hr => ?_)
    have tk := takes_of (X := cxOf (L2.CX P G.w) P G.w G.K mg base N_behind_place "behind_place" (defScope s_behind_place) f cdv A outer s H E) (E := E) rfl rfl rfl rfl
    have po := passes_of (X := cxOf (L2.CX P G.w) P G.w G.K mg base N_behind_place "behind_place" (defScope s_behind_place) f cdv A outer s H E) rfl
    exact (pss_cons (ps_expr (pe_callF h_look_told rfl rfl (hr.mono (by decide)) tk (by rfl) (pa_cons (pv 0) (pa_cons (pv 1) pa_nil))))
    (pss_cons (ps_if (pt_not (pt_chain (or_le) (or_le) pe_int (pv 2) (pe_callB (cr_len rfl) (by rfl) T.b_len PySem.boot_len (pa_cons (pv 0) pa_nil)))) (pss_one (ps_raiseE rfl tk rfl T.e_question rfl)) pss_nil)
    (pss_one (ps_ret (pe_callF h_asked_at rfl rfl (hr.mono (by decide)) tk (by rfl) (pa_cons (pv 0) (pa_cons (pv 1) (pa_cons (pv 2) (pa_cons (pv 3) pa_nil)))))))))
abbrev s_Halver___init__ : Stmt := inClass (topS 18) 0
abbrev N_Halver___init__ : List Str := ["self", "lies"]
theorem sc_Halver___init__ : FnScope N_Halver___init__ ["self", "lies"] (defScope s_Halver___init__) := ⟨rfl, rfl, rfl, by decide +kernel, rfl, by decide +kernel, by decide +kernel⟩
theorem fk_Halver___init__ {P : Program} {mg : Str → Option Value} {base : Heap} {G : Ctx} (T : Tx G mg) (F : MethAt G .halver "__init__" "Halver.__init__" s_Halver___init__ ["self", "lies"]) : FnM P G mg base 1 .halver "__init__" ["self", "lies"] S_Halver___init__ := by
    refine fnM_mk (k := 0) F sc_Halver___init__ len_Halver___init__ (sem_Halver___init__ G) (fun f cdv A outer s H E hr => ?_)
    have tk := takes_of (X := cxOf (L2.CX P G.w) P G.w G.K mg base N_Halver___init__ "Halver.__init__" (defScope s_Halver___init__) f cdv A outer s H E) (E := E) rfl rfl rfl rfl
    have po := passes_of (X := cxOf (L2.CX P G.w) P G.w G.K mg base N_Halver___init__ "Halver.__init__" (defScope s_Halver___init__) f cdv A outer s H E) rfl
    exact (pss_cons (ps_fldD rfl T.cl_halver T.n_halver_most (pv 0) (pv 1))
    (pss_one (ps_fldD rfl T.cl_halver T.n_halver_known (pv 0) (pe_dnew rfl))))
abbrev s_Halver_left : Stmt := inClass (topS 18) 1
abbrev N_Halver_left : List Str := ["self", "told", "many"]
theorem sc_Halver_left : FnScope N_Halver_left ["self", "told"] (defScope s_Halver_left) := ⟨rfl, rfl, rfl, by decide +kernel, rfl, by decide +kernel, by decide +kernel⟩
theorem fk_Halver_left {P : Program} {mg : Str → Option Value} {base : Heap} {G : Ctx} (T : Tx G mg) (F : MethAt G .halver "left" "Halver.left" s_Halver_left ["self", "told"]) : FnM P G mg base 1 .halver "left" ["self", "told"] S_Halver_left := by
    refine fnM_mk (k := 0) F sc_Halver_left len_Halver_left (sem_Halver_left G) (fun f cdv A outer s H E hr => ?_)
    have tk := takes_of (X := cxOf (L2.CX P G.w) P G.w G.K mg base N_Halver_left "Halver.left" (defScope s_Halver_left) f cdv A outer s H E) (E := E) rfl rfl rfl rfl
    have po := passes_of (X := cxOf (L2.CX P G.w) P G.w G.K mg base N_Halver_left "Halver.left" (defScope s_Halver_left) f cdv A outer s H E) rfl
    exact (pss_one (ps_ret (pe_callB (cr_len rfl) (by rfl) T.b_len PySem.boot_len (pa_cons (pe_lc (own := [("many", 2)]) (by rfl) sc_Halver_left.nd (pi_tup (pv 1)) (blkOk_by (own := [("many", 2)]) (N := N_Halver_left) (sc := defScope s_Halver_left) (by decide +kernel)) (fun _ _ _ _ _ => (pg_name (i := 2) sc_Halver_left.nd rfl (Or.inl rfl))) (fun _ _ _ _ _ => (pts_one (pt_cmpR (or_isnot) (pv 2) pe_non (nomark _)))) (fun _ _ _ _ _ => (pv 2))) pa_nil))))
abbrev s_Halver_found : Stmt := inClass (topS 18) 3
abbrev N_Halver_found : List Str := ["self", "told", "many", "place", "yes", "no"]
theorem sc_Halver_found : FnScope N_Halver_found ["self", "told", "many"] (defScope s_Halver_found) := ⟨rfl, rfl, rfl, by decide +kernel, rfl, by decide +kernel, by decide +kernel⟩
abbrev s_Halver_can : Stmt := inClass (topS 18) 2
abbrev N_Halver_can : List Str := ["self", "told", "many", "key"]
theorem sc_Halver_can : FnScope N_Halver_can ["self", "told", "many"] (defScope s_Halver_can) := ⟨rfl, rfl, rfl, by decide +kernel, rfl, by decide +kernel, by decide +kernel⟩
theorem fa_Halver_can {P : Program} {mg : Str → Option Value} {base : Heap} {G : Ctx} (T : Tx G mg) (F : MethAt G .halver "can" "Halver.can" s_Halver_can ["self", "told", "many"]) (F2 : MethAt G .halver "found" "Halver.found" s_Halver_found ["self", "told", "many"]) (h_Halver_left : FnM P G mg base 1 .halver "left" ["self", "told"] S_Halver_left) (h_asked_at : FnF P G mg base 1 "asked_at" ["told", "lies", "place", "answer"] S_asked_at) : ∀ n : Nat, FnM P G mg base (1 + 2 * n) .halver "can" ["self", "told", "many"] (S_Halver_canAt n)
  | 0 => fnM_none F (fun es m R XR h => no_Halver_can h)
  | n + 1 => by
    have h_Halver_can := fa_Halver_can (P := P) (base := base) T F F2 h_Halver_left h_asked_at n
    have h_Halver_found : FnM P G mg base (1 + 2 * n + 1) .halver "found" ["self", "told", "many"] (S_Halver_foundAt (n + 1)) := by
      refine fnM_mk (k := 1 + 2 * n) F2 sc_Halver_found (len_Halver_found (n + 1)) (sem_Halver_found G n) (fun f cdv A outer s H E hr => ?_)
      have tk := takes_of (X := cxOf (L2.CX P G.w) P G.w G.K mg base N_Halver_found "Halver.found" (defScope s_Halver_found) f cdv A outer s H E) (E := E) rfl rfl rfl rfl
      have po := passes_of (X := cxOf (L2.CX P G.w) P G.w G.K mg base N_Halver_found "Halver.found" (defScope s_Halver_found) f cdv A outer s H E) rfl
      exact (pss_cons (ps_for po rfl (pi_range2 rfl T.b_range (pa_cons pe_int (pa_cons (pe_callB (cr_len rfl) (by rfl) T.b_len PySem.boot_len (pa_cons (pv 1) pa_nil)) pa_nil))) (pg_name (i := 3) sc_Halver_found.nd rfl (Or.inl rfl)) (pss_cons (ps_set (i := 4) sc_Halver_found.nd rfl (Or.inl rfl) (pe_callF h_asked_at rfl rfl (hr.mono (by omega)) tk (by rfl) (pa_cons (pv 1) (pa_cons (pe_fldD rfl T.cl_halver T.n_halver_most (pv 0)) (pa_cons (pv 3) (pa_cons pe_bl pa_nil))))))
    (pss_cons (ps_set (i := 5) sc_Halver_found.nd rfl (Or.inl rfl) (pe_callF h_asked_at rfl rfl (hr.mono (by omega)) tk (by rfl) (pa_cons (pv 1) (pa_cons (pe_fldD rfl T.cl_halver T.n_halver_most (pv 0)) (pa_cons (pv 3) (pa_cons pe_bl pa_nil))))))
    (pss_one (ps_if (PW.pt (pw_and (pt_cmpR (or_isnot) (pe_methD h_Halver_can rfl rfl T.cl_halver (hr.mono (by omega)) tk (pv 0) (pa_cons (pv 4) (pa_cons (pe_op (or_sub) (pv 2) pe_int) pa_nil))) pe_non (nomark _)) (pw_and1 (pt_cmpR (or_isnot) (pe_methD h_Halver_can rfl rfl T.cl_halver (hr.mono (by omega)) tk (pv 0) (pa_cons (pv 5) (pa_cons (pe_op (or_sub) (pv 2) pe_int) pa_nil))) pe_non (nomark _))))) (pss_one (ps_ret (pv 3))) pss_nil)))))
    (pss_one (ps_ret pe_non)))
    rw [show 1 + 2 * (n + 1) = 1 + 2 * n + 1 + 1 by omega]
    refine fnM_mk (k := 1 + 2 * n + 1) F sc_Halver_can (len_Halver_can (n + 1)) (sem_Halver_can G (n + 1)) (fun f cdv A outer s H E hr => ?_)
    have tk := takes_of (X := cxOf (L2.CX P G.w) P G.w G.K mg base N_Halver_can "Halver.can" (defScope s_Halver_can) f cdv A outer s H E) (E := E) rfl rfl rfl rfl
    have po := passes_of (X := cxOf (L2.CX P G.w) P G.w G.K mg base N_Halver_can "Halver.can" (defScope s_Halver_can) f cdv A outer s H E) rfl
    exact (pss_cons (ps_if (pt_cmpR (or_le) (pe_methD h_Halver_left rfl rfl T.cl_halver (hr.mono (by omega)) tk (pv 0) (pa_cons (pv 1) pa_nil)) pe_int (nomark _)) (pss_one (ps_ret (pe_un ur_neg pe_int))) pss_nil)
    (pss_cons (ps_if (pt_cmpR (or_eq hr.units) (pv 2) pe_int (nomark _)) (pss_one (ps_ret pe_non)) pss_nil)
    (pss_cons (ps_set (i := 3) sc_Halver_can.nd rfl (Or.inl rfl) (pe_tup (pa_cons (pv 1) (pa_cons (pv 2) pa_nil))))
    (pss_cons (ps_if (pt_cmpR (or_notinD rfl (Room.u65 hr)) (pv 3) (pe_fldD rfl T.cl_halver T.n_halver_known (pv 0)) (by rfl)) (pss_one (ps_dset rfl (Room.u65 hr) (pe_fldD rfl T.cl_halver T.n_halver_known (pv 0)) (pv 3) (pe_methD h_Halver_found rfl rfl T.cl_halver (hr.mono (by omega)) tk (pv 0) (pa_cons (pv 1) (pa_cons (pv 2) pa_nil))))) pss_nil)
    (pss_one (ps_ret (pe_ix (ix_DD rfl (Room.u65 hr)) (pe_fldD rfl T.cl_halver T.n_halver_known (pv 0)) (pv 3) (fun _ _ => rfl))))))))
theorem fk_Halver_can {P : Program} {mg : Str → Option Value} {base : Heap} {G : Ctx} (T : Tx G mg) (F : MethAt G .halver "can" "Halver.can" s_Halver_can ["self", "told", "many"]) (F2 : MethAt G .halver "found" "Halver.found" s_Halver_found ["self", "told", "many"]) (h_Halver_left : FnM P G mg base 1 .halver "left" ["self", "told"] S_Halver_left) (h_asked_at : FnF P G mg base 1 "asked_at" ["told", "lies", "place", "answer"] S_asked_at) : FnM P G mg base 65 .halver "can" ["self", "told", "many"] S_Halver_can := fa_Halver_can T F F2 h_Halver_left h_asked_at 32
abbrev s_least_halves : Stmt := topS 19
abbrev N_least_halves : List Str := ["told", "lies", "halver", "many"]
theorem sc_least_halves : FnScope N_least_halves ["told", "lies"] (defScope s_least_halves) := ⟨rfl, rfl, rfl, by decide +kernel, rfl, by decide +kernel, by decide +kernel⟩
theorem fk_least_halves {P : Program} {mg : Str → Option Value} {base : Heap} {G : Ctx} (T : Tx G mg) (F : DefAt G mg "least_halves" "least_halves" s_least_halves ["told", "lies"]) (h_look_told : FnF P G mg base 2 "look_told" ["told", "lies"] S_look_told) (h_Halver___init__ : FnM P G mg base 1 .halver "__init__" ["self", "lies"] S_Halver___init__) (h_Halver_can : FnM P G mg base 65 .halver "can" ["self", "told", "many"] S_Halver_can) : FnF P G mg base 66 "least_halves" ["told", "lies"] S_least_halves := by
    refine fnF_mk (k := 65) F sc_least_halves len_least_halves (sem_least_halves G) (fun f cdv A outer s H E hr => ?_)
    have tk := takes_of (X := cxOf (L2.CX P G.w) P G.w G.K mg base N_least_halves "least_halves" (defScope s_least_halves) f cdv A outer s H E) (E := E) rfl rfl rfl rfl
    have po := passes_of (X := cxOf (L2.CX P G.w) P G.w G.K mg base N_least_halves "least_halves" (defScope s_least_halves) f cdv A outer s H E) rfl
    exact (pss_cons (ps_expr (pe_callF h_look_told rfl rfl (hr.mono (by decide)) tk (by rfl) (pa_cons (pv 0) (pa_cons (pv 1) pa_nil))))
    (pss_cons (ps_set (i := 2) sc_least_halves.nd rfl (Or.inl rfl) (pe_makeS h_Halver___init__ rfl rfl T.mk_halver (hr.mono (by decide)) tk (by rfl) (pa_cons (pv 1) pa_nil)))
    (pss_cons (ps_set (i := 3) sc_least_halves.nd rfl (Or.inl rfl) pe_int)
    (pss_cons (ps_while po (pt_cmpR (or_is) (pe_methD h_Halver_can rfl rfl T.cl_halver (hr.mono (by decide)) tk (pv 2) (pa_cons (pe_callTy (cr_tupleD) (by rfl) T.b_tuple bt_tuple (pa_cons (pv 0) pa_nil)) (pa_cons (pv 3) pa_nil))) pe_non (nomark _)) (pss_one (ps_set (i := 3) sc_least_halves.nd rfl (Or.inl rfl) (pe_op (or_add rfl) (pv 3) pe_int))))
    (pss_one (ps_ret (pe_tup (pa_cons (pv 3) (pa_cons (pe_methD h_Halver_can rfl rfl T.cl_halver (hr.mono (by decide)) tk (pv 2) (pa_cons (pe_callTy (cr_tupleD) (by rfl) T.b_tuple bt_tuple (pa_cons (pv 0) pa_nil)) (pa_cons (pv 3) pa_nil))) pa_nil)))))))))
abbrev s_fits_halves : Stmt := topS 20
abbrev N_fits_halves : List Str := ["places", "answers", "thing", "k"]
theorem sc_fits_halves : FnScope N_fits_halves ["places", "answers", "thing"] (defScope s_fits_halves) := ⟨rfl, rfl, rfl, by decide +kernel, rfl, by decide +kernel, by decide +kernel⟩
theorem fk_fits_halves {P : Program} {mg : Str → Option Value} {base : Heap} {G : Ctx} (T : Tx G mg) (F : DefAt G mg "fits_halves" "fits_halves" s_fits_halves ["places", "answers", "thing"]) : FnF P G mg base 1 "fits_halves" ["places", "answers", "thing"] S_fits_halves := by
    refine fnF_mk (k := 0) F sc_fits_halves len_fits_halves (sem_fits_halves G) (fun f cdv A outer s H E hr => ?_)
    have tk := takes_of (X := cxOf (L2.CX P G.w) P G.w G.K mg base N_fits_halves "fits_halves" (defScope s_fits_halves) f cdv A outer s H E) (E := E) rfl rfl rfl rfl
    have po := passes_of (X := cxOf (L2.CX P G.w) P G.w G.K mg base N_fits_halves "fits_halves" (defScope s_fits_halves) f cdv A outer s H E) rfl
    exact (pss_one (ps_ret (pe_callB (cr_len rfl) (by rfl) T.b_len PySem.boot_len (pa_cons (pe_lc (own := [("k", 3)]) (by rfl) sc_fits_halves.nd (pi_range1 rfl T.b_range (pa_cons (pe_callB (cr_len rfl) (by rfl) T.b_len PySem.boot_len (pa_cons (pv 0) pa_nil)) pa_nil)) (blkOk_by (own := [("k", 3)]) (N := N_fits_halves) (sc := defScope s_fits_halves) (by decide +kernel)) (fun _ _ _ _ _ => (pg_name (i := 3) sc_fits_halves.nd rfl (Or.inl rfl))) (fun _ _ _ _ _ => (pts_one (pt_cmpR (or_ne hr.units) (pe_cmpR (or_lt hr.units0) (pv 2) (pe_ix (ix_D rfl) (pv 0) (pv 3) (fun _ _ => rfl)) (nomark _)) (pe_ix (ix_D rfl) (pv 1) (pv 3) (fun _ _ => rfl)) (nomark _)))) (fun _ _ _ _ _ => (pv 3))) pa_nil))))
abbrev s_searched : Stmt := topS 21
abbrev N_searched : List Str := ["things", "lies", "answers", "told", "halver", "found", "answer", "many", "place", "left", "thing"]
theorem sc_searched : FnScope N_searched ["things", "lies", "answers"] (defScope s_searched) := ⟨rfl, rfl, rfl, by decide +kernel, rfl, by decide +kernel, by decide +kernel⟩
theorem fk_searched {P : Program} {mg : Str → Option Value} {base : Heap} {G : Ctx} (T : Tx G mg) (F : DefAt G mg "searched" "searched" s_searched ["things", "lies", "answers"]) (h_look_game : FnF P G mg base 1 "look_game" ["things", "lies"] S_look_game) (h_look_told : FnF P G mg base 2 "look_told" ["told", "lies"] S_look_told) (h_Halver___init__ : FnM P G mg base 1 .halver "__init__" ["self", "lies"] S_Halver___init__) (h_Halver_can : FnM P G mg base 65 .halver "can" ["self", "told", "many"] S_Halver_can) (h_asked_at : FnF P G mg base 1 "asked_at" ["told", "lies", "place", "answer"] S_asked_at) : FnF P G mg base 66 "searched" ["things", "lies", "answers"] S_searched := by
    refine fnF_mk (k := 65) F sc_searched len_searched (sem_searched G) (fun f cdv A outer s H E hr => ?_)
    have tk := takes_of (X := cxOf (L2.CX P G.w) P G.w G.K mg base N_searched "searched" (defScope s_searched) f cdv A outer s H E) (E := E) rfl rfl rfl rfl
    have po := passes_of (X := cxOf (L2.CX P G.w) P G.w G.K mg base N_searched "searched" (defScope s_searched) f cdv A outer s H E) rfl
    exact (pss_cons (ps_expr (pe_callF h_look_game rfl rfl (hr.mono (by decide)) tk (by rfl) (pa_cons (pv 0) (pa_cons (pv 1) pa_nil))))
    (pss_cons (ps_set (i := 3) sc_searched.nd rfl (Or.inr rfl) (pe_op (or_mul) (pe_tup (pa_cons pe_int pa_nil)) (pv 0)))
    (pss_cons (ps_expr (pe_callF h_look_told rfl rfl (hr.mono (by decide)) tk (by rfl) (pa_cons (pv 3) (pa_cons (pv 1) pa_nil))))
    (pss_cons (ps_set (i := 4) sc_searched.nd rfl (Or.inl rfl) (pe_makeS h_Halver___init__ rfl rfl T.mk_halver (hr.mono (by decide)) tk (by rfl) (pa_cons (pv 1) pa_nil)))
    (pss_cons (ps_set (i := 5) sc_searched.nd rfl (Or.inl rfl) (pe_lstO pa_nil))
    (pss_cons (ps_for po rfl (pi_list (pv 2)) (pg_name (i := 6) sc_searched.nd rfl (Or.inl rfl)) (pss_cons (ps_set (i := 7) sc_searched.nd rfl (Or.inl rfl) pe_int)
    (pss_cons (ps_while po (pt_cmpR (or_is) (pe_methD h_Halver_can rfl rfl T.cl_halver (hr.mono (by decide)) tk (pv 4) (pa_cons (pv 3) (pa_cons (pv 7) pa_nil))) pe_non (nomark _)) (pss_one (ps_set (i := 7) sc_searched.nd rfl (Or.inl rfl) (pe_op (or_add rfl) (pv 7) pe_int))))
    (pss_cons (ps_set (i := 8) sc_searched.nd rfl (Or.inl rfl) (pe_methD h_Halver_can rfl rfl T.cl_halver (hr.mono (by decide)) tk (pv 4) (pa_cons (pv 3) (pa_cons (pv 7) pa_nil))))
    (pss_cons (ps_if (pt_cmpR (or_lt hr.units0) (pv 8) pe_int (nomark _)) (pss_one (ps_raiseE rfl tk rfl T.e_question rfl)) pss_nil)
    (pss_cons (ps_expr (pe_bm PySem.F.plainAttrs_list PySem.F.slot_list_append PySem.F.type_list_append (mt_appendD) (pv 5) (pa_cons (pv 8) pa_nil)))
    (pss_one (ps_set (i := 3) sc_searched.nd rfl (Or.inr rfl) (pe_callF h_asked_at rfl rfl (hr.mono (by decide)) tk (by rfl) (pa_cons (pv 3) (pa_cons (pv 1) (pa_cons (pv 8) (pa_cons (pv 6) pa_nil)))))))))))))
    (pss_cons (ps_setLc (i := 9) (own := [("thing", 10)]) (by rfl) sc_searched.nd rfl rfl (sw_true rfl rfl rfl (by decide +kernel)) (pi_range1 rfl T.b_range (pa_cons (pv 0) pa_nil)) (blkOk_by (own := [("thing", 10)]) (N := N_searched) (sc := defScope s_searched) (by decide +kernel)) (fun _ _ _ _ _ => (pg_name (i := 10) sc_searched.nd rfl (Or.inl rfl))) (fun _ _ _ _ _ => (pts_one (pt_cmpR (or_isnot) (pe_ix (ix_D rfl) (pv 3) (pv 10) (fun _ _ => rfl)) pe_non (nomark _)))) (fun _ _ _ _ _ => (pv 10)))
    (pss_one (ps_ret (pe_tup (pa_cons (pv 5) (pa_cons (pe_ifExp (pt_cmpR (or_eq hr.units) (pe_callB (cr_len rfl) (by rfl) T.b_len PySem.boot_len (pa_cons (pv 9) pa_nil)) pe_int (nomark _)) (pe_ix (ix_D rfl) (pv 9) pe_int (fun _ _ => rfl)) pe_non) pa_nil))))))))))))
abbrev s_law_cell : Stmt := topS 23
abbrev N_law_cell : List Str := ["script", "k"]
theorem sc_law_cell : FnScope N_law_cell ["script", "k"] (defScope s_law_cell) := ⟨rfl, rfl, rfl, by decide +kernel, rfl, by decide +kernel, by decide +kernel⟩
theorem fk_law_cell {P : Program} {mg : Str → Option Value} {base : Heap} {G : Ctx} (T : Tx G mg) (F : DefAt G mg "_law_cell" "_law_cell" s_law_cell ["script", "k"]) : FnF P G mg base 1 "_law_cell" ["script", "k"] S_law_cell := by
    refine fnF_mk (k := 0) F sc_law_cell len_law_cell (sem_law_cell G) (fun f cdv A outer s H E hr => ?_)
    have tk := takes_of (X := cxOf (L2.CX P G.w) P G.w G.K mg base N_law_cell "_law_cell" (defScope s_law_cell) f cdv A outer s H E) (E := E) rfl rfl rfl rfl
    have po := passes_of (X := cxOf (L2.CX P G.w) P G.w G.K mg base N_law_cell "_law_cell" (defScope s_law_cell) f cdv A outer s H E) rfl
    exact (pss_cons (ps_if (pt_truD (pv 0)) (pss_one (ps_ret (pe_ix (ix_D rfl) (pv 0) (pe_op (or_mod) (pv 1) (pe_callB (cr_len rfl) (by rfl) T.b_len PySem.boot_len (pa_cons (pv 0) pa_nil))) (fun _ _ => rfl)))) pss_nil)
    (pss_one (ps_ret pe_int)))
abbrev s_law_mix : Stmt := topS 24
abbrev N_law_mix : List Str := ["script", "k", "number"]
theorem sc_law_mix : FnScope N_law_mix ["script", "k"] (defScope s_law_mix) := ⟨rfl, rfl, rfl, by decide +kernel, rfl, by decide +kernel, by decide +kernel⟩
theorem fk_law_mix {P : Program} {mg : Str → Option Value} {base : Heap} {G : Ctx} (T : Tx G mg) (F : DefAt G mg "_law_mix" "_law_mix" s_law_mix ["script", "k"]) (h_law_cell : FnF P G mg base 1 "_law_cell" ["script", "k"] S_law_cell) : FnF P G mg base 2 "_law_mix" ["script", "k"] S_law_mix := by
    refine fnF_mk (k := 1) F sc_law_mix len_law_mix (sem_law_mix G) (fun f cdv A outer s H E hr => ?_)
    have tk := takes_of (X := cxOf (L2.CX P G.w) P G.w G.K mg base N_law_mix "_law_mix" (defScope s_law_mix) f cdv A outer s H E) (E := E) rfl rfl rfl rfl
    have po := passes_of (X := cxOf (L2.CX P G.w) P G.w G.K mg base N_law_mix "_law_mix" (defScope s_law_mix) f cdv A outer s H E) rfl
    exact (pss_cons (ps_set (i := 2) sc_law_mix.nd rfl (Or.inl rfl) (pe_op (or_mod) (pe_op (or_add rfl) (pe_callF h_law_cell rfl rfl (hr.mono (by decide)) tk (by rfl) (pa_cons (pv 0) (pa_cons (pv 1) pa_nil))) (pe_op (or_mul) pe_int (pe_op (or_add rfl) (pv 1) pe_int))) pe_int))
    (pss_cons (ps_set (i := 2) sc_law_mix.nd rfl (Or.inl rfl) (pe_op (or_mod) (pe_op (or_pow) (pv 2) pe_int) pe_int))
    (pss_one (ps_ret (pe_op (or_mod) (pe_op (or_add rfl) (pe_op (or_mul) (pe_op (or_div) (pv 2) pe_int) pe_int) (pv 2)) pe_int)))))
abbrev s_law_whole : Stmt := topS 25
abbrev N_law_whole : List Str := ["found"]
theorem sc_law_whole : FnScope N_law_whole ["found"] (defScope s_law_whole) := ⟨rfl, rfl, rfl, by decide +kernel, rfl, by decide +kernel, by decide +kernel⟩
theorem fk_law_whole {P : Program} {mg : Str → Option Value} {base : Heap} {G : Ctx} (T : Tx G mg) (F : DefAt G mg "_law_whole" "_law_whole" s_law_whole ["found"]) : FnF P G mg base 1 "_law_whole" ["found"] S_law_whole := by
    refine fnF_mk (k := 0) F sc_law_whole len_law_whole (sem_law_whole G) (fun f cdv A outer s H E hr => ?_)
    have tk := takes_of (X := cxOf (L2.CX P G.w) P G.w G.K mg base N_law_whole "_law_whole" (defScope s_law_whole) f cdv A outer s H E) (E := E) rfl rfl rfl rfl
    have po := passes_of (X := cxOf (L2.CX P G.w) P G.w G.K mg base N_law_whole "_law_whole" (defScope s_law_whole) f cdv A outer s H E) rfl
    exact (pss_one (ps_ret (pe_and (pe_callB (cr_isB rfl) (by rfl) T.b_isinstance bt_isinstance (pa_cons (pv 0) (pa_cons (pe_bltn (by rfl) T.b_int bt_int rfl) pa_nil))) (pe_one (pe_not (pe_callB (cr_isB rfl) (by rfl) T.b_isinstance bt_isinstance (pa_cons (pv 0) (pa_cons (pe_bltn (by rfl) T.b_bool bt_bool rfl) pa_nil))))))))
abbrev s_law_refusal : Stmt := topS 26
abbrev N_law_refusal : List Str := ["kept", "kinds"]
theorem sc_law_refusal : FnScope N_law_refusal ["kept"] (defScope s_law_refusal) := ⟨rfl, rfl, rfl, by decide +kernel, rfl, by decide +kernel, by decide +kernel⟩
theorem fk_law_refusal {P : Program} {mg : Str → Option Value} {base : Heap} {G : Ctx} (T : Tx G mg) (F : DefAt G mg "_law_refusal" "_law_refusal" s_law_refusal ["kept"]) : FnF P G mg base 1 "_law_refusal" ["kept"] S_law_refusal := by
    refine fnF_mk (k := 0) F sc_law_refusal len_law_refusal (sem_law_refusal G) (fun f cdv A outer s H E hr => ?_)
    have tk := takes_of (X := cxOf (L2.CX P G.w) P G.w G.K mg base N_law_refusal "_law_refusal" (defScope s_law_refusal) f cdv A outer s H E) (E := E) rfl rfl rfl rfl
    have po := passes_of (X := cxOf (L2.CX P G.w) P G.w G.K mg base N_law_refusal "_law_refusal" (defScope s_law_refusal) f cdv A outer s H E) rfl
    exact (pss_cons (ps_if (pt_cmpR (or_is) (pv 0) pe_non (nomark _)) (pss_one (ps_ret pe_str)) pss_nil)
    (pss_cons (ps_set (i := 1) sc_law_refusal.nd rfl (Or.inl rfl) (pe_lst (pa_cons (pe_callB (cr_isE rfl T.exc .counts T.e_counts.h) (by rfl) T.b_isinstance bt_isinstance (pa_cons (pv 0) (pa_cons (pe_glob rfl T.e_counts.g rfl) pa_nil))) (pa_cons (pe_callB (cr_isE rfl T.exc .game T.e_game.h) (by rfl) T.b_isinstance bt_isinstance (pa_cons (pv 0) (pa_cons (pe_glob rfl T.e_game.g rfl) pa_nil))) (pa_cons (pe_callB (cr_isE rfl T.exc .plan T.e_plan.h) (by rfl) T.b_isinstance bt_isinstance (pa_cons (pv 0) (pa_cons (pe_glob rfl T.e_plan.g rfl) pa_nil))) pa_nil)))))
    (pss_cons (ps_set (i := 1) sc_law_refusal.nd rfl (Or.inl rfl) (pe_op (or_add rfl) (pv 1) (pe_lst (pa_cons (pe_callB (cr_isE rfl T.exc .question T.e_question.h) (by rfl) T.b_isinstance bt_isinstance (pa_cons (pv 0) (pa_cons (pe_glob rfl T.e_question.g rfl) pa_nil))) (pa_cons (pe_callB (cr_isE rfl T.exc .text T.e_text.h) (by rfl) T.b_isinstance bt_isinstance (pa_cons (pv 0) (pa_cons (pe_glob rfl T.e_text.g rfl) pa_nil))) (pa_cons (pe_callB (cr_isE rfl T.exc .liar T.e_liar.h) (by rfl) T.b_isinstance bt_isinstance (pa_cons (pv 0) (pa_cons (pe_glob rfl T.e_liar.g rfl) pa_nil))) pa_nil))))))
    (pss_cons (ps_if (PW.pt (pw_or (pt_cmpR (or_ne hr.units) (pe_bm PySem.F.plainAttrs_list PySem.F.slot_list_count PySem.F.type_list_count (mt_countD (Room.u65 hr)) (pv 1) (pa_cons pe_bl pa_nil)) pe_int (nomark _)) (pw_or1 (pt_not (pt_truD (pe_callB (cr_isV rfl T.exc) (by rfl) T.b_isinstance bt_isinstance (pa_cons (pv 0) (pa_cons (pe_bltn (by rfl) T.b_ValueError bt_ValueError rfl) pa_nil)))))))) (pss_one (ps_ret pe_str)) pss_nil)
    (pss_one (ps_ret (pe_ix (ix_D rfl) (pe_lst (pa_cons pe_str (pa_cons pe_str (pa_cons pe_str (pa_cons pe_str (pa_cons pe_str (pa_cons pe_str pa_nil))))))) (pe_bm PySem.F.plainAttrs_list PySem.F.slot_list_index PySem.F.type_list_index (mt_indexF (Room.u65 hr)) (pv 1) (pa_cons pe_bl pa_nil)) (fun _ _ => rfl))))))))
abbrev s_law_told : Stmt := topS 27
abbrev N_law_told : List Str := ["things", "lies", "answers", "kept", "found", "e"]
theorem sc_law_told : FnScope N_law_told ["things", "lies", "answers"] (defScope s_law_told) := ⟨rfl, rfl, rfl, by decide +kernel, rfl, by decide +kernel, by decide +kernel⟩
theorem fk_law_told {P : Program} {mg : Str → Option Value} {base : Heap} {G : Ctx} (T : Tx G mg) (F : DefAt G mg "_law_told" "_law_told" s_law_told ["things", "lies", "answers"]) (h_searched : FnF P G mg base 66 "searched" ["things", "lies", "answers"] S_searched) (h_law_refusal : FnF P G mg base 1 "_law_refusal" ["kept"] S_law_refusal) : FnF P G mg base 67 "_law_told" ["things", "lies", "answers"] S_law_told := by
    refine fnF_mk (k := 66) F sc_law_told len_law_told (sem_law_told G T.xall) (fun f cdv A outer s H E hr => ?_)
    have tk := takes_of (X := cxOf (L2.CX P G.w) P G.w G.K mg base N_law_told "_law_told" (defScope s_law_told) f cdv A outer s H E) (E := E) rfl rfl rfl rfl
    have po := passes_of (X := cxOf (L2.CX P G.w) P G.w G.K mg base N_law_told "_law_told" (defScope s_law_told) f cdv A outer s H E) rfl
    exact (pss_cons (ps_set (i := 3) sc_law_told.nd rfl (Or.inl rfl) pe_non)
    (pss_cons (ps_set (i := 4) sc_law_told.nd rfl (Or.inl rfl) pe_non)
    (pss_cons (ps_tryK rfl rfl rfl sc_law_told.nd rfl rfl ⟨by rfl, by decide, .inl T.le⟩ (fun W1 pn1 xe1 tk1 po1 => (pss_one (ps_set (i := 4) sc_law_told.nd rfl (Or.inl rfl) (pe_callF h_searched rfl rfl (hr.mono (by decide)) tk1 (by rfl) (pa_cons (pv 0) (pa_cons (pv 1) (pa_cons (pv 2) pa_nil))))))) (fun a1 o1 pn1 => pss_one (ps_set (i := 3) sc_law_told.nd rfl (Or.inl rfl) (pv 5))))
    (pss_one (ps_ret (pe_ifExp (pt_cmpR (or_is) (pv 3) pe_non (nomark _)) (pv 4) (pe_callF h_law_refusal rfl rfl (hr.mono (by decide)) tk (by rfl) (pa_cons (pv 3) pa_nil))))))))
abbrev s_law_played : Stmt := topS 28
abbrev N_law_played : List Str := ["script", "things", "lies", "hidden", "true", "lied", "known", "answers", "places", "number", "answer"]
theorem sc_law_played : FnScope N_law_played ["script", "things", "lies", "hidden", "true"] (defScope s_law_played) := ⟨rfl, rfl, rfl, by decide +kernel, rfl, by decide +kernel, by decide +kernel⟩
theorem fk_law_played {P : Program} {mg : Str → Option Value} {base : Heap} {G : Ctx} (T : Tx G mg) (F : DefAt G mg "_law_played" "_law_played" s_law_played ["script", "things", "lies", "hidden", "true"]) (h_least_halves : FnF P G mg base 66 "least_halves" ["told", "lies"] S_least_halves) (h_law_mix : FnF P G mg base 2 "_law_mix" ["script", "k"] S_law_mix) (h_behind_place : FnF P G mg base 3 "behind_place" ["told", "lies", "place", "answer"] S_behind_place) : FnF P G mg base 67 "_law_played" ["script", "things", "lies", "hidden", "true"] S_law_played := by
    refine fnF_mk (k := 66) F sc_law_played len_law_played (sem_law_played G) (fun f cdv A outer s H E hr => ?_)
    have tk := takes_of (X := cxOf (L2.CX P G.w) P G.w G.K mg base N_law_played "_law_played" (defScope s_law_played) f cdv A outer s H E) (E := E) rfl rfl rfl rfl
    have po := passes_of (X := cxOf (L2.CX P G.w) P G.w G.K mg base N_law_played "_law_played" (defScope s_law_played) f cdv A outer s H E) rfl
    exact (pss_cons (ps_set (i := 5) sc_law_played.nd rfl (Or.inl rfl) pe_int)
    (pss_cons (ps_set (i := 6) sc_law_played.nd rfl (Or.inl rfl) (pe_op (or_mul) (pe_tup (pa_cons pe_int pa_nil)) (pv 1)))
    (pss_cons (ps_set (i := 7) sc_law_played.nd rfl (Or.inl rfl) (pe_lstO pa_nil))
    (pss_cons (ps_set (i := 8) sc_law_played.nd rfl (Or.inl rfl) (pe_lstO pa_nil))
    (pss_cons (ps_while po (pt_cmpR (or_gt) (pe_ix (ix_D rfl) (pe_callF h_least_halves rfl rfl (hr.mono (by decide)) tk (by rfl) (pa_cons (pv 6) (pa_cons (pv 2) pa_nil))) pe_int (fun _ _ => rfl)) pe_int (nomark _)) (pss_cons (ps_expr (pe_bm PySem.F.plainAttrs_list PySem.F.slot_list_append PySem.F.type_list_append (mt_appendD) (pv 8) (pa_cons (pe_ix (ix_D rfl) (pe_callF h_least_halves rfl rfl (hr.mono (by decide)) tk (by rfl) (pa_cons (pv 6) (pa_cons (pv 2) pa_nil))) pe_int (fun _ _ => rfl)) pa_nil)))
    (pss_cons (ps_set (i := 9) sc_law_played.nd rfl (Or.inl rfl) (pe_op (or_div) (pe_callF h_law_mix rfl rfl (hr.mono (by decide)) tk (by rfl) (pa_cons (pv 0) (pa_cons (pe_op (or_add rfl) pe_int (pe_callB (cr_len rfl) (by rfl) T.b_len PySem.boot_len (pa_cons (pv 8) pa_nil))) pa_nil))) pe_int))
    (pss_cons (ps_set (i := 10) sc_law_played.nd rfl (Or.inl rfl) (pe_cmpR (or_lt hr.units0) (pv 3) (pe_ix (ix_D rfl) (pv 8) (pe_un ur_neg pe_int) (fun _ _ => rfl)) (nomark _)))
    (pss_cons (ps_if (PW.pt (pw_and (pt_cmpR (or_lt hr.units0) (pv 5) (pv 2) (nomark _)) (pw_and1 (pt_cmpR (or_eq hr.units) (pe_op (or_mod) (pv 9) pe_int) pe_int (nomark _))))) (pss_cons (ps_set (i := 10) sc_law_played.nd rfl (Or.inl rfl) (pe_not (pv 10)))
    (pss_one (ps_set (i := 5) sc_law_played.nd rfl (Or.inl rfl) (pe_op (or_add rfl) (pv 5) pe_int)))) pss_nil)
    (pss_cons (ps_expr (pe_bm PySem.F.plainAttrs_list PySem.F.slot_list_append PySem.F.type_list_append (mt_appendD) (pv 7) (pa_cons (pe_ifExp (pt_truD (pv 4)) (pv 10) (pe_cmpR (or_eq hr.units) (pe_op (or_mod) (pv 9) pe_int) pe_int (nomark _))) pa_nil)))
    (pss_one (ps_set (i := 6) sc_law_played.nd rfl (Or.inl rfl) (pe_callF h_behind_place rfl rfl (hr.mono (by decide)) tk (by rfl) (pa_cons (pv 6) (pa_cons (pv 2) (pa_cons (pe_ix (ix_D rfl) (pv 8) (pe_un ur_neg pe_int) (fun _ _ => rfl)) (pa_cons (pe_ix (ix_D rfl) (pv 7) (pe_un ur_neg pe_int) (fun _ _ => rfl)) pa_nil)))))))))))))
    (pss_one (ps_ret (pe_tup (pa_cons (pv 7) (pa_cons (pv 8) (pa_cons (pv 6) pa_nil)))))))))))
abbrev s_law_fits : Stmt := topS 29
abbrev N_law_fits : List Str := ["places", "answers", "lies", "left", "things", "thing", "many", "found", "k"]
theorem sc_law_fits : FnScope N_law_fits ["places", "answers", "lies", "left", "things"] (defScope s_law_fits) := ⟨rfl, rfl, rfl, by decide +kernel, rfl, by decide +kernel, by decide +kernel⟩
theorem fk_law_fits {P : Program} {mg : Str → Option Value} {base : Heap} {G : Ctx} (T : Tx G mg) (F : DefAt G mg "_law_fits" "_law_fits" s_law_fits ["places", "answers", "lies", "left", "things"]) (h_fits_halves : FnF P G mg base 1 "fits_halves" ["places", "answers", "thing"] S_fits_halves) (h_law_whole : FnF P G mg base 1 "_law_whole" ["found"] S_law_whole) : FnF P G mg base 2 "_law_fits" ["places", "answers", "lies", "left", "things"] S_law_fits := by
    refine fnF_mk (k := 1) F sc_law_fits len_law_fits (sem_law_fits G) (fun f cdv A outer s H E hr => ?_)
    have tk := takes_of (X := cxOf (L2.CX P G.w) P G.w G.K mg base N_law_fits "_law_fits" (defScope s_law_fits) f cdv A outer s H E) (E := E) rfl rfl rfl rfl
    have po := passes_of (X := cxOf (L2.CX P G.w) P G.w G.K mg base N_law_fits "_law_fits" (defScope s_law_fits) f cdv A outer s H E) rfl
    exact (pss_cons (ps_for po rfl (pi_range1 rfl T.b_range (pa_cons (pv 4) pa_nil)) (pg_name (i := 5) sc_law_fits.nd rfl (Or.inr rfl)) (pss_cons (ps_set (i := 6) sc_law_fits.nd rfl (Or.inl rfl) (pe_callB (cr_len rfl) (by rfl) T.b_len PySem.boot_len (pa_cons (pe_lc (own := [("k", 8)]) (by rfl) sc_law_fits.nd (pi_range1 rfl T.b_range (pa_cons (pe_callB (cr_len rfl) (by rfl) T.b_len PySem.boot_len (pa_cons (pv 0) pa_nil)) pa_nil)) (blkOk_by (own := [("k", 8)]) (N := N_law_fits) (sc := defScope s_law_fits) (by decide +kernel)) (fun _ _ _ _ _ => (pg_name (i := 8) sc_law_fits.nd rfl (Or.inl rfl))) (fun _ _ _ _ _ => (pts_one (pt_cmpR (or_ne hr.units) (pe_cmpR (or_lt hr.units0) (pv 5) (pe_ix (ix_D rfl) (pv 0) (pv 8) (fun _ _ => rfl)) (nomark _)) (pe_ix (ix_D rfl) (pv 1) (pv 8) (fun _ _ => rfl)) (nomark _)))) (fun _ _ _ _ _ => (pv 8))) pa_nil)))
    (pss_cons (ps_set (i := 7) sc_law_fits.nd rfl (Or.inl rfl) (pe_callF h_fits_halves rfl rfl (hr.mono (by decide)) tk (by rfl) (pa_cons (pv 0) (pa_cons (pv 1) (pa_cons (pv 5) pa_nil)))))
    (pss_one (ps_if (PW.pt (pw_or (pt_cmpR (or_ne hr.units) (pv 7) (pv 6) (nomark _)) (pw_or (pt_not (pt_truD (pe_callF h_law_whole rfl rfl (hr.mono (by decide)) tk (by rfl) (pa_cons (pv 7) pa_nil)))) (pw_or1 (pt_cmpR (or_ne hr.units) (pe_cmpR (or_le) (pv 6) (pv 2) (nomark _)) (pe_cmpR (or_in (Room.u65 hr)) (pv 5) (pv 3) (by rfl)) (nomark _)))))) (pss_one (ps_ret pe_bl)) pss_nil)))))
    (pss_one (ps_ret pe_bl)))
abbrev s_law : Stmt := topS 30
abbrev N_law : List Str := ["script", "lies", "things", "hidden", "true", "answers", "places", "known", "left", "many", "found", "due", "thing"]
theorem sc_law : FnScope N_law ["script"] (defScope s_law) := ⟨rfl, rfl, rfl, by decide +kernel, rfl, by decide +kernel, by decide +kernel⟩
theorem fl_law {P : Program} {mg : Str → Option Value} {base : Heap} {G : Ctx} {f : Addr} {fd : FuncData} (T : Tx G mg) (F : Fun G.K "law" "law" s_law f fd) (h_law_mix : FnF P G mg base 2 "_law_mix" ["script", "k"] S_law_mix) (h_law_played : FnF P G mg base 67 "_law_played" ["script", "things", "lies", "hidden", "true"] S_law_played) (h_law_told : FnF P G mg base 67 "_law_told" ["things", "lies", "answers"] S_law_told) (h_least_halves : FnF P G mg base 66 "least_halves" ["told", "lies"] S_least_halves) (h_law_fits : FnF P G mg base 2 "_law_fits" ["places", "answers", "lies", "left", "things"] S_law_fits) : FnOk P G.w G.K mg base (L2.CX P G.w) 68 f fd ["script"] (spL G S_law) := by
    refine fn_D (k := 67) F sc_law len_law (sem_law G) (fun cdv A outer s H E hr => ?_)
    have tk := takes_of (X := cxOf (L2.CX P G.w) P G.w G.K mg base N_law "law" (defScope s_law) f cdv A outer s H E) (E := E) rfl rfl rfl rfl
    have po := passes_of (X := cxOf (L2.CX P G.w) P G.w G.K mg base N_law "law" (defScope s_law) f cdv A outer s H E) rfl
    exact (pss_cons (ps_set (i := 1) sc_law.nd rfl (Or.inl rfl) (pe_op (or_mod) (pe_callF h_law_mix rfl rfl (hr.mono (by decide)) tk (by rfl) (pa_cons (pv 0) (pa_cons pe_int pa_nil))) pe_int))
    (pss_cons (ps_set (i := 2) sc_law.nd rfl (Or.inl rfl) (pe_op (or_add rfl) pe_int (pe_op (or_mod) (pe_callF h_law_mix rfl rfl (hr.mono (by decide)) tk (by rfl) (pa_cons (pv 0) (pa_cons pe_int pa_nil))) (pe_ix (ix_D rfl) (pe_lst (pa_cons pe_int (pa_cons pe_int (pa_cons pe_int pa_nil)))) (pv 1) (fun _ _ => rfl)))))
    (pss_cons (ps_set (i := 3) sc_law.nd rfl (Or.inl rfl) (pe_op (or_mod) (pe_callF h_law_mix rfl rfl (hr.mono (by decide)) tk (by rfl) (pa_cons (pv 0) (pa_cons pe_int pa_nil))) (pv 2)))
    (pss_cons (ps_set (i := 4) sc_law.nd rfl (Or.inl rfl) (pe_cmpR (or_gt) (pe_op (or_mod) (pe_callF h_law_mix rfl rfl (hr.mono (by decide)) tk (by rfl) (pa_cons (pv 0) (pa_cons pe_int pa_nil))) pe_int) pe_int (nomark _)))
    (pss_cons (ps_asg (pe_callF h_law_played rfl rfl (hr.mono (by decide)) tk (by rfl) (pa_cons (pv 0) (pa_cons (pv 2) (pa_cons (pv 1) (pa_cons (pv 3) (pa_cons (pv 4) pa_nil)))))) (pg_tup rfl (pgs_cons (pg_name (i := 5) sc_law.nd rfl (Or.inl rfl)) (pgs_cons (pg_name (i := 6) sc_law.nd rfl (Or.inl rfl)) (pgs_cons (pg_name (i := 7) sc_law.nd rfl (Or.inr rfl)) pgs_nil)))))
    (pss_cons (ps_setLc (i := 8) (own := [("thing", 12)]) (by rfl) sc_law.nd rfl rfl (sw_true rfl rfl rfl (by decide +kernel)) (pi_range1 rfl T.b_range (pa_cons (pv 2) pa_nil)) (blkOk_by (own := [("thing", 12)]) (N := N_law) (sc := defScope s_law) (by decide +kernel)) (fun _ _ _ _ _ => (pg_name (i := 12) sc_law.nd rfl (Or.inl rfl))) (fun _ _ _ _ _ => (pts_one (pt_cmpR (or_isnot) (pe_ix (ix_D rfl) (pv 7) (pv 12) (fun _ _ => rfl)) pe_non (nomark _)))) (fun _ _ _ _ _ => (pv 12)))
    (pss_cons (ps_for po rfl (pi_range1 rfl T.b_range (pa_cons (pe_op (or_add rfl) (pe_callB (cr_len rfl) (by rfl) T.b_len PySem.boot_len (pa_cons (pv 5) pa_nil)) pe_int) pa_nil)) (pg_name (i := 9) sc_law.nd rfl (Or.inl rfl)) (pss_cons (ps_set (i := 10) sc_law.nd rfl (Or.inl rfl) (pe_callF h_law_told rfl rfl (hr.mono (by decide)) tk (by rfl) (pa_cons (pv 2) (pa_cons (pv 1) (pa_cons (pe_slice sl_D (pv 5) po_none (po_some (pv 9))) pa_nil)))))
    (pss_cons (ps_set (i := 11) sc_law.nd rfl (Or.inl rfl) (pe_ifExp (PW.pt (pw_and (pt_cmpR (or_eq hr.units) (pv 9) (pe_callB (cr_len rfl) (by rfl) T.b_len PySem.boot_len (pa_cons (pv 5) pa_nil)) (nomark _)) (pw_and1 (pt_cmpR (or_ne hr.units) (pv 8) (pe_lst pa_nil) (nomark _))))) (pe_ix (ix_D rfl) (pv 8) pe_int (fun _ _ => rfl)) pe_non))
    (pss_one (ps_if (PW.pt (pw_or (pt_not (pt_truD (pe_callB (cr_isB rfl) (by rfl) T.b_isinstance bt_isinstance (pa_cons (pv 10) (pa_cons (pe_bltn (by rfl) T.b_tuple bt_tuple rfl) pa_nil))))) (pw_or1 (pt_cmpR (or_ne hr.units) (pv 10) (pe_tup (pa_cons (pe_slice sl_D (pv 6) po_none (po_some (pv 9))) (pa_cons (pv 11) pa_nil))) (nomark _))))) (pss_one (ps_ret pe_bl)) pss_nil)))))
    (pss_cons (ps_if (PW.pt (pw_or (pt_cmpR (or_gt) (pe_callB (cr_len rfl) (by rfl) T.b_len PySem.boot_len (pa_cons (pv 6) pa_nil)) (pe_ix (ix_D rfl) (pe_callF h_least_halves rfl rfl (hr.mono (by decide)) tk (by rfl) (pa_cons (pe_op (or_mul) (pe_tup (pa_cons pe_int pa_nil)) (pv 2)) (pa_cons (pv 1) pa_nil))) pe_int (fun _ _ => rfl)) (nomark _)) (pw_or1 (PW.pt (pw_and (pt_truD (pv 4)) (pw_and1 (pt_cmpR (or_ne hr.units) (pv 8) (pe_lst (pa_cons (pv 3) pa_nil)) (nomark _)))))))) (pss_one (ps_ret pe_bl)) pss_nil)
    (pss_cons (ps_if (PW.pt (pw_or (pt_not (pt_truD (pe_callF h_law_fits rfl rfl (hr.mono (by decide)) tk (by rfl) (pa_cons (pv 6) (pa_cons (pv 5) (pa_cons (pv 1) (pa_cons (pv 8) (pa_cons (pv 2) pa_nil)))))))) (pw_or1 (pt_cmpR (or_ne hr.units) (pe_callF h_law_told rfl rfl (hr.mono (by decide)) tk (by rfl) (pa_cons (pv 2) (pa_cons (pv 1) (pa_cons (pe_op (or_add rfl) (pv 5) (pe_lst (pa_cons pe_bl pa_nil))) pa_nil)))) pe_str (nomark _))))) (pss_one (ps_ret pe_bl)) pss_nil)
    (pss_one (ps_ret (pe_cmpR (or_eq hr.units) (pe_lst (pa_cons (pe_callF h_law_told rfl rfl (hr.mono (by decide)) tk (by rfl) (pa_cons pe_int (pa_cons pe_int (pa_cons (pe_lst pa_nil) pa_nil)))) (pa_cons (pe_callF h_law_told rfl rfl (hr.mono (by decide)) tk (by rfl) (pa_cons pe_int (pa_cons pe_int (pa_cons (pe_lst pa_nil) pa_nil)))) (pa_cons (pe_callF h_law_told rfl rfl (hr.mono (by decide)) tk (by rfl) (pa_cons pe_int (pa_cons pe_int (pa_cons (pe_lst pa_nil) pa_nil)))) pa_nil)))) (pe_lst (pa_cons pe_str (pa_cons pe_str (pa_cons pe_str pa_nil)))) (nomark _)))))))))))))
def exMap (C_game C_counts C_question C_liar C_plan C_text : Addr) : Tag → Addr
  | .game => C_game
  | .counts => C_counts
  | .question => C_question
  | .liar => C_liar
  | .plan => C_plan
  | .text => C_text
  | _ => C_game
def hasMap : Tag → Bool
  | .game => true
  | .counts => true
  | .question => true
  | .liar => true
  | .plan => true
  | .text => true
  | _ => false
def clMap (CC_halver : Addr) : CT → Addr
  | .halver => CC_halver
  | _ => CC_halver
theorem all_mk {P : Program} {w : World} {K : PySem.W.Frag} {h : Heap} {mg : Str → Option Value} {fa : Addr} {f_look_game f_look_told f_asked_at f_behind_place f_Halver___init__ CC_halver f_Halver_left f_Halver_found f_Halver_can f_least_halves f_fits_halves f_searched f_law_cell f_law_mix f_law_whole f_law_refusal f_law_told f_law_played f_law_fits f_law CL C_game C_counts C_question C_liar C_plan C_text : Addr} {od_look_game an_look_game od_look_told an_look_told od_asked_at an_asked_at od_behind_place an_behind_place od_Halver___init__ an_Halver___init__ od_Halver_left an_Halver_left od_Halver_found an_Halver_found od_Halver_can an_Halver_can od_least_halves an_least_halves od_fits_halves an_fits_halves od_searched an_searched od_law_cell an_law_cell od_law_mix an_law_mix od_law_whole an_law_whole od_law_refusal an_law_refusal od_law_told an_law_told od_law_played an_law_played od_law_fits an_law_fits od_law an_law : Option Addr} {sl_look_game sl_look_told sl_asked_at sl_behind_place sl_Halver___init__ sl_Halver_left sl_Halver_found sl_Halver_can sl_least_halves sl_fits_halves sl_searched sl_law_cell sl_law_mix sl_law_whole sl_law_refusal sl_law_told sl_law_played sl_law_fits sl_law : Array (Option Value)} {oc_look_game kV_look_game dc_look_game pm_look_game cd_look_game ct_look_game oc_look_told kV_look_told dc_look_told pm_look_told cd_look_told ct_look_told oc_asked_at kV_asked_at dc_asked_at pm_asked_at cd_asked_at ct_asked_at oc_behind_place kV_behind_place dc_behind_place pm_behind_place cd_behind_place ct_behind_place oc_Halver___init__ kV_Halver___init__ dc_Halver___init__ pm_Halver___init__ cd_Halver___init__ ct_Halver___init__ oc_Halver_left kV_Halver_left dc_Halver_left pm_Halver_left cd_Halver_left ct_Halver_left oc_Halver_found kV_Halver_found dc_Halver_found pm_Halver_found cd_Halver_found ct_Halver_found oc_Halver_can kV_Halver_can dc_Halver_can pm_Halver_can cd_Halver_can ct_Halver_can oc_least_halves kV_least_halves dc_least_halves pm_least_halves cd_least_halves ct_least_halves oc_fits_halves kV_fits_halves dc_fits_halves pm_fits_halves cd_fits_halves ct_fits_halves oc_searched kV_searched dc_searched pm_searched cd_searched ct_searched oc_law_cell kV_law_cell dc_law_cell pm_law_cell cd_law_cell ct_law_cell oc_law_mix kV_law_mix dc_law_mix pm_law_mix cd_law_mix ct_law_mix oc_law_whole kV_law_whole dc_law_whole pm_law_whole cd_law_whole ct_law_whole oc_law_refusal kV_law_refusal dc_law_refusal pm_law_refusal cd_law_refusal ct_law_refusal oc_law_told kV_law_told dc_law_told pm_law_told cd_law_told ct_law_told oc_law_played kV_law_played dc_law_played pm_law_played cd_law_played ct_law_played oc_law_fits kV_law_fits dc_law_fits pm_law_fits cd_law_fits ct_law_fits oc_law kV_law dc_law pm_law cd_law ct_law : Value} {tk_MOST_LIES_games tk_MOST_LIES_halves tk_MOST_THINGS_games tk_MOST_THINGS_halves : Tok} (X : K.In h) (Gn : h.Ns mainGlobals mg) (hfa : mg "law" = some (.ref fa))
    (a_look_game : PySem.W.nsIn K mainGlobals "look_game" = some (some (.ref f_look_game)))
    (l_look_game : K.lookup f_look_game = some ⟨oc_look_game, od_look_game, .func (PySem.W.fnOf "look_game" "look_game" (defArgs s_look_game) (defBody s_look_game) (defScope s_look_game) .none kV_look_game dc_look_game pm_look_game an_look_game cd_look_game ct_look_game), sl_look_game⟩)
    (c_look_game : PySem.W.codeIn K cd_look_game "look_game" = true)
    (k_look_game : PySem.W.keepIn K (.ref f_look_game) = true)
    (a_look_told : PySem.W.nsIn K mainGlobals "look_told" = some (some (.ref f_look_told)))
    (l_look_told : K.lookup f_look_told = some ⟨oc_look_told, od_look_told, .func (PySem.W.fnOf "look_told" "look_told" (defArgs s_look_told) (defBody s_look_told) (defScope s_look_told) .none kV_look_told dc_look_told pm_look_told an_look_told cd_look_told ct_look_told), sl_look_told⟩)
    (c_look_told : PySem.W.codeIn K cd_look_told "look_told" = true)
    (k_look_told : PySem.W.keepIn K (.ref f_look_told) = true)
    (a_asked_at : PySem.W.nsIn K mainGlobals "asked_at" = some (some (.ref f_asked_at)))
    (l_asked_at : K.lookup f_asked_at = some ⟨oc_asked_at, od_asked_at, .func (PySem.W.fnOf "asked_at" "asked_at" (defArgs s_asked_at) (defBody s_asked_at) (defScope s_asked_at) .none kV_asked_at dc_asked_at pm_asked_at an_asked_at cd_asked_at ct_asked_at), sl_asked_at⟩)
    (c_asked_at : PySem.W.codeIn K cd_asked_at "asked_at" = true)
    (k_asked_at : PySem.W.keepIn K (.ref f_asked_at) = true)
    (a_behind_place : PySem.W.nsIn K mainGlobals "behind_place" = some (some (.ref f_behind_place)))
    (l_behind_place : K.lookup f_behind_place = some ⟨oc_behind_place, od_behind_place, .func (PySem.W.fnOf "behind_place" "behind_place" (defArgs s_behind_place) (defBody s_behind_place) (defScope s_behind_place) .none kV_behind_place dc_behind_place pm_behind_place an_behind_place cd_behind_place ct_behind_place), sl_behind_place⟩)
    (c_behind_place : PySem.W.codeIn K cd_behind_place "behind_place" = true)
    (k_behind_place : PySem.W.keepIn K (.ref f_behind_place) = true)
    (cg_halver : PySem.W.nsIn K mainGlobals "Halver" = some (some (.ref CC_halver)))
    (cp_halver : PySem.W.plainGet K CC_halver Str.empty = true)
    (ch_halver : PySem.W.hasDictIn K CC_halver = true)
    (co_halver : PySem.W.plainOver K CC_halver = true)
    (cs_halver : PySem.W.findIn K (.ref CC_halver) "__setattr__" = some (some (.builtin "object.__setattr__")))
    (cm_halver : PySem.W.makesIn K CC_halver = true)
    (ck_halver : PySem.W.keepIn K (.ref CC_halver) = true)
    (cn_halver_known : PySem.W.findIn K (.ref CC_halver) "known" = some none)
    (cn_halver_most : PySem.W.findIn K (.ref CC_halver) "most" = some none)
    (a_Halver___init__ : PySem.W.findIn K (.ref CC_halver) "__init__" = some (some (.ref f_Halver___init__)))
    (i_Halver___init__ : PySem.W.isFn K (.ref f_Halver___init__) = true)
    (l_Halver___init__ : K.lookup f_Halver___init__ = some ⟨oc_Halver___init__, od_Halver___init__, .func (PySem.W.fnOf "__init__" "Halver.__init__" (defArgs s_Halver___init__) (defBody s_Halver___init__) (defScope s_Halver___init__) .none kV_Halver___init__ dc_Halver___init__ pm_Halver___init__ an_Halver___init__ cd_Halver___init__ ct_Halver___init__), sl_Halver___init__⟩)
    (c_Halver___init__ : PySem.W.codeIn K cd_Halver___init__ "Halver.__init__" = true)
    (k_Halver___init__ : PySem.W.keepIn K (.ref f_Halver___init__) = true)
    (a_Halver_left : PySem.W.findIn K (.ref CC_halver) "left" = some (some (.ref f_Halver_left)))
    (i_Halver_left : PySem.W.isFn K (.ref f_Halver_left) = true)
    (l_Halver_left : K.lookup f_Halver_left = some ⟨oc_Halver_left, od_Halver_left, .func (PySem.W.fnOf "left" "Halver.left" (defArgs s_Halver_left) (defBody s_Halver_left) (defScope s_Halver_left) .none kV_Halver_left dc_Halver_left pm_Halver_left an_Halver_left cd_Halver_left ct_Halver_left), sl_Halver_left⟩)
    (c_Halver_left : PySem.W.codeIn K cd_Halver_left "Halver.left" = true)
    (k_Halver_left : PySem.W.keepIn K (.ref f_Halver_left) = true)
    (a_Halver_found : PySem.W.findIn K (.ref CC_halver) "found" = some (some (.ref f_Halver_found)))
    (i_Halver_found : PySem.W.isFn K (.ref f_Halver_found) = true)
    (l_Halver_found : K.lookup f_Halver_found = some ⟨oc_Halver_found, od_Halver_found, .func (PySem.W.fnOf "found" "Halver.found" (defArgs s_Halver_found) (defBody s_Halver_found) (defScope s_Halver_found) .none kV_Halver_found dc_Halver_found pm_Halver_found an_Halver_found cd_Halver_found ct_Halver_found), sl_Halver_found⟩)
    (c_Halver_found : PySem.W.codeIn K cd_Halver_found "Halver.found" = true)
    (k_Halver_found : PySem.W.keepIn K (.ref f_Halver_found) = true)
    (a_Halver_can : PySem.W.findIn K (.ref CC_halver) "can" = some (some (.ref f_Halver_can)))
    (i_Halver_can : PySem.W.isFn K (.ref f_Halver_can) = true)
    (l_Halver_can : K.lookup f_Halver_can = some ⟨oc_Halver_can, od_Halver_can, .func (PySem.W.fnOf "can" "Halver.can" (defArgs s_Halver_can) (defBody s_Halver_can) (defScope s_Halver_can) .none kV_Halver_can dc_Halver_can pm_Halver_can an_Halver_can cd_Halver_can ct_Halver_can), sl_Halver_can⟩)
    (c_Halver_can : PySem.W.codeIn K cd_Halver_can "Halver.can" = true)
    (k_Halver_can : PySem.W.keepIn K (.ref f_Halver_can) = true)
    (a_least_halves : PySem.W.nsIn K mainGlobals "least_halves" = some (some (.ref f_least_halves)))
    (l_least_halves : K.lookup f_least_halves = some ⟨oc_least_halves, od_least_halves, .func (PySem.W.fnOf "least_halves" "least_halves" (defArgs s_least_halves) (defBody s_least_halves) (defScope s_least_halves) .none kV_least_halves dc_least_halves pm_least_halves an_least_halves cd_least_halves ct_least_halves), sl_least_halves⟩)
    (c_least_halves : PySem.W.codeIn K cd_least_halves "least_halves" = true)
    (k_least_halves : PySem.W.keepIn K (.ref f_least_halves) = true)
    (a_fits_halves : PySem.W.nsIn K mainGlobals "fits_halves" = some (some (.ref f_fits_halves)))
    (l_fits_halves : K.lookup f_fits_halves = some ⟨oc_fits_halves, od_fits_halves, .func (PySem.W.fnOf "fits_halves" "fits_halves" (defArgs s_fits_halves) (defBody s_fits_halves) (defScope s_fits_halves) .none kV_fits_halves dc_fits_halves pm_fits_halves an_fits_halves cd_fits_halves ct_fits_halves), sl_fits_halves⟩)
    (c_fits_halves : PySem.W.codeIn K cd_fits_halves "fits_halves" = true)
    (k_fits_halves : PySem.W.keepIn K (.ref f_fits_halves) = true)
    (a_searched : PySem.W.nsIn K mainGlobals "searched" = some (some (.ref f_searched)))
    (l_searched : K.lookup f_searched = some ⟨oc_searched, od_searched, .func (PySem.W.fnOf "searched" "searched" (defArgs s_searched) (defBody s_searched) (defScope s_searched) .none kV_searched dc_searched pm_searched an_searched cd_searched ct_searched), sl_searched⟩)
    (c_searched : PySem.W.codeIn K cd_searched "searched" = true)
    (k_searched : PySem.W.keepIn K (.ref f_searched) = true)
    (a_law_cell : PySem.W.nsIn K mainGlobals "_law_cell" = some (some (.ref f_law_cell)))
    (l_law_cell : K.lookup f_law_cell = some ⟨oc_law_cell, od_law_cell, .func (PySem.W.fnOf "_law_cell" "_law_cell" (defArgs s_law_cell) (defBody s_law_cell) (defScope s_law_cell) .none kV_law_cell dc_law_cell pm_law_cell an_law_cell cd_law_cell ct_law_cell), sl_law_cell⟩)
    (c_law_cell : PySem.W.codeIn K cd_law_cell "_law_cell" = true)
    (k_law_cell : PySem.W.keepIn K (.ref f_law_cell) = true)
    (a_law_mix : PySem.W.nsIn K mainGlobals "_law_mix" = some (some (.ref f_law_mix)))
    (l_law_mix : K.lookup f_law_mix = some ⟨oc_law_mix, od_law_mix, .func (PySem.W.fnOf "_law_mix" "_law_mix" (defArgs s_law_mix) (defBody s_law_mix) (defScope s_law_mix) .none kV_law_mix dc_law_mix pm_law_mix an_law_mix cd_law_mix ct_law_mix), sl_law_mix⟩)
    (c_law_mix : PySem.W.codeIn K cd_law_mix "_law_mix" = true)
    (k_law_mix : PySem.W.keepIn K (.ref f_law_mix) = true)
    (a_law_whole : PySem.W.nsIn K mainGlobals "_law_whole" = some (some (.ref f_law_whole)))
    (l_law_whole : K.lookup f_law_whole = some ⟨oc_law_whole, od_law_whole, .func (PySem.W.fnOf "_law_whole" "_law_whole" (defArgs s_law_whole) (defBody s_law_whole) (defScope s_law_whole) .none kV_law_whole dc_law_whole pm_law_whole an_law_whole cd_law_whole ct_law_whole), sl_law_whole⟩)
    (c_law_whole : PySem.W.codeIn K cd_law_whole "_law_whole" = true)
    (k_law_whole : PySem.W.keepIn K (.ref f_law_whole) = true)
    (a_law_refusal : PySem.W.nsIn K mainGlobals "_law_refusal" = some (some (.ref f_law_refusal)))
    (l_law_refusal : K.lookup f_law_refusal = some ⟨oc_law_refusal, od_law_refusal, .func (PySem.W.fnOf "_law_refusal" "_law_refusal" (defArgs s_law_refusal) (defBody s_law_refusal) (defScope s_law_refusal) .none kV_law_refusal dc_law_refusal pm_law_refusal an_law_refusal cd_law_refusal ct_law_refusal), sl_law_refusal⟩)
    (c_law_refusal : PySem.W.codeIn K cd_law_refusal "_law_refusal" = true)
    (k_law_refusal : PySem.W.keepIn K (.ref f_law_refusal) = true)
    (a_law_told : PySem.W.nsIn K mainGlobals "_law_told" = some (some (.ref f_law_told)))
    (l_law_told : K.lookup f_law_told = some ⟨oc_law_told, od_law_told, .func (PySem.W.fnOf "_law_told" "_law_told" (defArgs s_law_told) (defBody s_law_told) (defScope s_law_told) .none kV_law_told dc_law_told pm_law_told an_law_told cd_law_told ct_law_told), sl_law_told⟩)
    (c_law_told : PySem.W.codeIn K cd_law_told "_law_told" = true)
    (k_law_told : PySem.W.keepIn K (.ref f_law_told) = true)
    (a_law_played : PySem.W.nsIn K mainGlobals "_law_played" = some (some (.ref f_law_played)))
    (l_law_played : K.lookup f_law_played = some ⟨oc_law_played, od_law_played, .func (PySem.W.fnOf "_law_played" "_law_played" (defArgs s_law_played) (defBody s_law_played) (defScope s_law_played) .none kV_law_played dc_law_played pm_law_played an_law_played cd_law_played ct_law_played), sl_law_played⟩)
    (c_law_played : PySem.W.codeIn K cd_law_played "_law_played" = true)
    (k_law_played : PySem.W.keepIn K (.ref f_law_played) = true)
    (a_law_fits : PySem.W.nsIn K mainGlobals "_law_fits" = some (some (.ref f_law_fits)))
    (l_law_fits : K.lookup f_law_fits = some ⟨oc_law_fits, od_law_fits, .func (PySem.W.fnOf "_law_fits" "_law_fits" (defArgs s_law_fits) (defBody s_law_fits) (defScope s_law_fits) .none kV_law_fits dc_law_fits pm_law_fits an_law_fits cd_law_fits ct_law_fits), sl_law_fits⟩)
    (c_law_fits : PySem.W.codeIn K cd_law_fits "_law_fits" = true)
    (k_law_fits : PySem.W.keepIn K (.ref f_law_fits) = true)
    (a_law : PySem.W.nsIn K mainGlobals "law" = some (some (.ref f_law)))
    (l_law : K.lookup f_law = some ⟨oc_law, od_law, .func (PySem.W.fnOf "law" "law" (defArgs s_law) (defBody s_law) (defScope s_law) .none kV_law dc_law pm_law an_law cd_law ct_law), sl_law⟩)
    (c_law : PySem.W.codeIn K cd_law "law" = true)
    (k_law : PySem.W.keepIn K (.ref f_law) = true)
    (aL : PySem.W.nsIn K mainGlobals "LiarError" = some (some (.ref CL)))
    (oN : PySem.W.specialIn K (.builtin "object.__class__") "__get__" = some (some (.builtin "getset_descriptor.__get__")))
    (oT : PySem.W.takesIn K (.builtin "object.__class__") = some true)
    (eg_game : PySem.W.nsIn K mainGlobals "BadGame" = some (some (.ref C_game)))
    (eq_game : PySem.W.excIn K C_game [.type "ValueError", .type "Exception", .type "BaseException", .type "object"] "ValueError.__new__" = true)
    (ek_game : PySem.W.keepIn K (.ref C_game) = true)
    (eb_game : PySem.W.subIn K (.ref C_game) (.type "BaseException") = some true)
    (et_game : PySem.W.typeIn K (.ref C_game) = some (.type "type"))
    (xg_game : PySem.W.findIn K (.ref C_game) "__getattribute__" = some (some (.builtin "BaseException.__getattribute__")))
    (xk_game : PySem.W.findIn K (.ref C_game) "__getattr__" = some none)
    (xd_game : PySem.W.hasDictIn K C_game = true)
    (xa_game : PySem.W.findIn K (.ref C_game) "__class__" = some (some (.builtin "object.__class__")))
    (xm_game : PySem.W.mroIn K C_game (.type "object") = some true)
    (xv_game : PySem.W.kitOne K (.ref C_game) (.type "ValueError") = some true)
    (xl_game : PySem.W.exmOne K (.ref C_game) (.ref CL) = some true)
    (eg_counts : PySem.W.nsIn K mainGlobals "BadCounts" = some (some (.ref C_counts)))
    (eq_counts : PySem.W.excIn K C_counts [.type "ValueError", .type "Exception", .type "BaseException", .type "object"] "ValueError.__new__" = true)
    (ek_counts : PySem.W.keepIn K (.ref C_counts) = true)
    (eb_counts : PySem.W.subIn K (.ref C_counts) (.type "BaseException") = some true)
    (et_counts : PySem.W.typeIn K (.ref C_counts) = some (.type "type"))
    (xg_counts : PySem.W.findIn K (.ref C_counts) "__getattribute__" = some (some (.builtin "BaseException.__getattribute__")))
    (xk_counts : PySem.W.findIn K (.ref C_counts) "__getattr__" = some none)
    (xd_counts : PySem.W.hasDictIn K C_counts = true)
    (xa_counts : PySem.W.findIn K (.ref C_counts) "__class__" = some (some (.builtin "object.__class__")))
    (xm_counts : PySem.W.mroIn K C_counts (.type "object") = some true)
    (xv_counts : PySem.W.kitOne K (.ref C_counts) (.type "ValueError") = some true)
    (xl_counts : PySem.W.exmOne K (.ref C_counts) (.ref CL) = some true)
    (eg_question : PySem.W.nsIn K mainGlobals "BadQuestion" = some (some (.ref C_question)))
    (eq_question : PySem.W.excIn K C_question [.type "ValueError", .type "Exception", .type "BaseException", .type "object"] "ValueError.__new__" = true)
    (ek_question : PySem.W.keepIn K (.ref C_question) = true)
    (eb_question : PySem.W.subIn K (.ref C_question) (.type "BaseException") = some true)
    (et_question : PySem.W.typeIn K (.ref C_question) = some (.type "type"))
    (xg_question : PySem.W.findIn K (.ref C_question) "__getattribute__" = some (some (.builtin "BaseException.__getattribute__")))
    (xk_question : PySem.W.findIn K (.ref C_question) "__getattr__" = some none)
    (xd_question : PySem.W.hasDictIn K C_question = true)
    (xa_question : PySem.W.findIn K (.ref C_question) "__class__" = some (some (.builtin "object.__class__")))
    (xm_question : PySem.W.mroIn K C_question (.type "object") = some true)
    (xv_question : PySem.W.kitOne K (.ref C_question) (.type "ValueError") = some true)
    (xl_question : PySem.W.exmOne K (.ref C_question) (.ref CL) = some true)
    (eg_liar : PySem.W.nsIn K mainGlobals "Liar" = some (some (.ref C_liar)))
    (eq_liar : PySem.W.excIn K C_liar [.type "ValueError", .type "Exception", .type "BaseException", .type "object"] "ValueError.__new__" = true)
    (ek_liar : PySem.W.keepIn K (.ref C_liar) = true)
    (eb_liar : PySem.W.subIn K (.ref C_liar) (.type "BaseException") = some true)
    (et_liar : PySem.W.typeIn K (.ref C_liar) = some (.type "type"))
    (xg_liar : PySem.W.findIn K (.ref C_liar) "__getattribute__" = some (some (.builtin "BaseException.__getattribute__")))
    (xk_liar : PySem.W.findIn K (.ref C_liar) "__getattr__" = some none)
    (xd_liar : PySem.W.hasDictIn K C_liar = true)
    (xa_liar : PySem.W.findIn K (.ref C_liar) "__class__" = some (some (.builtin "object.__class__")))
    (xm_liar : PySem.W.mroIn K C_liar (.type "object") = some true)
    (xv_liar : PySem.W.kitOne K (.ref C_liar) (.type "ValueError") = some true)
    (xl_liar : PySem.W.exmOne K (.ref C_liar) (.ref CL) = some true)
    (eg_plan : PySem.W.nsIn K mainGlobals "BadPlan" = some (some (.ref C_plan)))
    (eq_plan : PySem.W.excIn K C_plan [.type "ValueError", .type "Exception", .type "BaseException", .type "object"] "ValueError.__new__" = true)
    (ek_plan : PySem.W.keepIn K (.ref C_plan) = true)
    (eb_plan : PySem.W.subIn K (.ref C_plan) (.type "BaseException") = some true)
    (et_plan : PySem.W.typeIn K (.ref C_plan) = some (.type "type"))
    (xg_plan : PySem.W.findIn K (.ref C_plan) "__getattribute__" = some (some (.builtin "BaseException.__getattribute__")))
    (xk_plan : PySem.W.findIn K (.ref C_plan) "__getattr__" = some none)
    (xd_plan : PySem.W.hasDictIn K C_plan = true)
    (xa_plan : PySem.W.findIn K (.ref C_plan) "__class__" = some (some (.builtin "object.__class__")))
    (xm_plan : PySem.W.mroIn K C_plan (.type "object") = some true)
    (xv_plan : PySem.W.kitOne K (.ref C_plan) (.type "ValueError") = some true)
    (xl_plan : PySem.W.exmOne K (.ref C_plan) (.ref CL) = some true)
    (eg_text : PySem.W.nsIn K mainGlobals "BadText" = some (some (.ref C_text)))
    (eq_text : PySem.W.excIn K C_text [.type "ValueError", .type "Exception", .type "BaseException", .type "object"] "ValueError.__new__" = true)
    (ek_text : PySem.W.keepIn K (.ref C_text) = true)
    (eb_text : PySem.W.subIn K (.ref C_text) (.type "BaseException") = some true)
    (et_text : PySem.W.typeIn K (.ref C_text) = some (.type "type"))
    (xg_text : PySem.W.findIn K (.ref C_text) "__getattribute__" = some (some (.builtin "BaseException.__getattribute__")))
    (xk_text : PySem.W.findIn K (.ref C_text) "__getattr__" = some none)
    (xd_text : PySem.W.hasDictIn K C_text = true)
    (xa_text : PySem.W.findIn K (.ref C_text) "__class__" = some (some (.builtin "object.__class__")))
    (xm_text : PySem.W.mroIn K C_text (.type "object") = some true)
    (xv_text : PySem.W.kitOne K (.ref C_text) (.type "ValueError") = some true)
    (xl_text : PySem.W.exmOne K (.ref C_text) (.ref CL) = some true)
    (kt_game_game : PySem.W.kitOne K (.ref C_game) (.ref C_game) = some true)
    (kt_game_counts : PySem.W.kitOne K (.ref C_game) (.ref C_counts) = some false)
    (kt_game_question : PySem.W.kitOne K (.ref C_game) (.ref C_question) = some false)
    (kt_game_liar : PySem.W.kitOne K (.ref C_game) (.ref C_liar) = some false)
    (kt_game_plan : PySem.W.kitOne K (.ref C_game) (.ref C_plan) = some false)
    (kt_game_text : PySem.W.kitOne K (.ref C_game) (.ref C_text) = some false)
    (kt_counts_game : PySem.W.kitOne K (.ref C_counts) (.ref C_game) = some false)
    (kt_counts_counts : PySem.W.kitOne K (.ref C_counts) (.ref C_counts) = some true)
    (kt_counts_question : PySem.W.kitOne K (.ref C_counts) (.ref C_question) = some false)
    (kt_counts_liar : PySem.W.kitOne K (.ref C_counts) (.ref C_liar) = some false)
    (kt_counts_plan : PySem.W.kitOne K (.ref C_counts) (.ref C_plan) = some false)
    (kt_counts_text : PySem.W.kitOne K (.ref C_counts) (.ref C_text) = some false)
    (kt_question_game : PySem.W.kitOne K (.ref C_question) (.ref C_game) = some false)
    (kt_question_counts : PySem.W.kitOne K (.ref C_question) (.ref C_counts) = some false)
    (kt_question_question : PySem.W.kitOne K (.ref C_question) (.ref C_question) = some true)
    (kt_question_liar : PySem.W.kitOne K (.ref C_question) (.ref C_liar) = some false)
    (kt_question_plan : PySem.W.kitOne K (.ref C_question) (.ref C_plan) = some false)
    (kt_question_text : PySem.W.kitOne K (.ref C_question) (.ref C_text) = some false)
    (kt_liar_game : PySem.W.kitOne K (.ref C_liar) (.ref C_game) = some false)
    (kt_liar_counts : PySem.W.kitOne K (.ref C_liar) (.ref C_counts) = some false)
    (kt_liar_question : PySem.W.kitOne K (.ref C_liar) (.ref C_question) = some false)
    (kt_liar_liar : PySem.W.kitOne K (.ref C_liar) (.ref C_liar) = some true)
    (kt_liar_plan : PySem.W.kitOne K (.ref C_liar) (.ref C_plan) = some false)
    (kt_liar_text : PySem.W.kitOne K (.ref C_liar) (.ref C_text) = some false)
    (kt_plan_game : PySem.W.kitOne K (.ref C_plan) (.ref C_game) = some false)
    (kt_plan_counts : PySem.W.kitOne K (.ref C_plan) (.ref C_counts) = some false)
    (kt_plan_question : PySem.W.kitOne K (.ref C_plan) (.ref C_question) = some false)
    (kt_plan_liar : PySem.W.kitOne K (.ref C_plan) (.ref C_liar) = some false)
    (kt_plan_plan : PySem.W.kitOne K (.ref C_plan) (.ref C_plan) = some true)
    (kt_plan_text : PySem.W.kitOne K (.ref C_plan) (.ref C_text) = some false)
    (kt_text_game : PySem.W.kitOne K (.ref C_text) (.ref C_game) = some false)
    (kt_text_counts : PySem.W.kitOne K (.ref C_text) (.ref C_counts) = some false)
    (kt_text_question : PySem.W.kitOne K (.ref C_text) (.ref C_question) = some false)
    (kt_text_liar : PySem.W.kitOne K (.ref C_text) (.ref C_liar) = some false)
    (kt_text_plan : PySem.W.kitOne K (.ref C_text) (.ref C_plan) = some false)
    (kt_text_text : PySem.W.kitOne K (.ref C_text) (.ref C_text) = some true)
    (b_ValueError : PySem.W.nsIn K mainGlobals "ValueError" = some none)
    (b_all : PySem.W.nsIn K mainGlobals "all" = some none)
    (b_bool : PySem.W.nsIn K mainGlobals "bool" = some none)
    (b_int : PySem.W.nsIn K mainGlobals "int" = some none)
    (b_isinstance : PySem.W.nsIn K mainGlobals "isinstance" = some none)
    (b_len : PySem.W.nsIn K mainGlobals "len" = some none)
    (b_max : PySem.W.nsIn K mainGlobals "max" = some none)
    (b_range : PySem.W.nsIn K mainGlobals "range" = some none)
    (b_tuple : PySem.W.nsIn K mainGlobals "tuple" = some none)
    (v_MOST_LIES_games : PySem.W.nsIn K mainGlobals "MOST_LIES_games" = some (some (.int 4 tk_MOST_LIES_games)))
    (v_MOST_LIES_halves : PySem.W.nsIn K mainGlobals "MOST_LIES_halves" = some (some (.int 2 tk_MOST_LIES_halves)))
    (v_MOST_THINGS_games : PySem.W.nsIn K mainGlobals "MOST_THINGS_games" = some (some (.int 64 tk_MOST_THINGS_games)))
    (v_MOST_THINGS_halves : PySem.W.nsIn K mainGlobals "MOST_THINGS_halves" = some (some (.int 7 tk_MOST_THINGS_halves))) :
    ∃ fd : FuncData, (∀ (s : Shared) (v : Value), BindsTo s fd ⟨[v], []⟩ [("script", v)]) ∧ ∀ base : Heap, K.In base → base.Ns mainGlobals mg → FnOk P w K mg base (L2.CX P w) 68 fa fd ["script"] (sp_law K) := by
  have e := hfa.symm.trans (PySem.W.mg_of X Gn a_law)
  cases e
  let G : Ctx := { K := K, w := w, le := CL, ex := exMap C_game C_counts C_question C_liar C_plan C_text, has := hasMap, cl := clMap CC_halver }
  have exc : ExcT G := by
    refine ⟨fun t ht => ?_, fun t u ht hu => ?_, fun t ht => ?_⟩
    · cases t with
      | game => exact ⟨xg_game, xk_game, eb_game, xd_game, xa_game, oN, oT, xm_game⟩
      | counts => exact ⟨xg_counts, xk_counts, eb_counts, xd_counts, xa_counts, oN, oT, xm_counts⟩
      | question => exact ⟨xg_question, xk_question, eb_question, xd_question, xa_question, oN, oT, xm_question⟩
      | liar => exact ⟨xg_liar, xk_liar, eb_liar, xd_liar, xa_liar, oN, oT, xm_liar⟩
      | plan => exact ⟨xg_plan, xk_plan, eb_plan, xd_plan, xa_plan, oN, oT, xm_plan⟩
      | text => exact ⟨xg_text, xk_text, eb_text, xd_text, xa_text, oN, oT, xm_text⟩
      | row => cases ht
    · cases t with
      | game =>
        cases u with
        | game => exact kt_game_game
        | counts => exact kt_game_counts
        | question => exact kt_game_question
        | liar => exact kt_game_liar
        | plan => exact kt_game_plan
        | text => exact kt_game_text
        | row => cases hu
      | counts =>
        cases u with
        | game => exact kt_counts_game
        | counts => exact kt_counts_counts
        | question => exact kt_counts_question
        | liar => exact kt_counts_liar
        | plan => exact kt_counts_plan
        | text => exact kt_counts_text
        | row => cases hu
      | question =>
        cases u with
        | game => exact kt_question_game
        | counts => exact kt_question_counts
        | question => exact kt_question_question
        | liar => exact kt_question_liar
        | plan => exact kt_question_plan
        | text => exact kt_question_text
        | row => cases hu
      | liar =>
        cases u with
        | game => exact kt_liar_game
        | counts => exact kt_liar_counts
        | question => exact kt_liar_question
        | liar => exact kt_liar_liar
        | plan => exact kt_liar_plan
        | text => exact kt_liar_text
        | row => cases hu
      | plan =>
        cases u with
        | game => exact kt_plan_game
        | counts => exact kt_plan_counts
        | question => exact kt_plan_question
        | liar => exact kt_plan_liar
        | plan => exact kt_plan_plan
        | text => exact kt_plan_text
        | row => cases hu
      | text =>
        cases u with
        | game => exact kt_text_game
        | counts => exact kt_text_counts
        | question => exact kt_text_question
        | liar => exact kt_text_liar
        | plan => exact kt_text_plan
        | text => exact kt_text_text
        | row => cases hu
      | row => cases ht
    · cases t with
      | game => exact xv_game
      | counts => exact xv_counts
      | question => exact xv_question
      | liar => exact xv_liar
      | plan => exact xv_plan
      | text => exact xv_text
      | row => cases ht
  have xall : XAll G := by
    intro t ht
    cases t with
    | game => exact xl_game
    | counts => exact xl_counts
    | question => exact xl_question
    | liar => exact xl_liar
    | plan => exact xl_plan
    | text => exact xl_text
    | row => cases ht
  have T : Tx G mg := ⟨PySem.W.mg_none_of X Gn b_ValueError, PySem.W.mg_none_of X Gn b_all, PySem.W.mg_none_of X Gn b_bool, PySem.W.mg_none_of X Gn b_int, PySem.W.mg_none_of X Gn b_isinstance, PySem.W.mg_none_of X Gn b_len, PySem.W.mg_none_of X Gn b_max, PySem.W.mg_none_of X Gn b_range, PySem.W.mg_none_of X Gn b_tuple, ⟨_, PySem.W.mg_of X Gn v_MOST_LIES_games⟩, ⟨_, PySem.W.mg_of X Gn v_MOST_LIES_halves⟩, ⟨_, PySem.W.mg_of X Gn v_MOST_THINGS_games⟩, ⟨_, PySem.W.mg_of X Gn v_MOST_THINGS_halves⟩, ⟨rfl, PySem.W.mg_of X Gn eg_game, eq_game, ek_game, eb_game, et_game⟩, ⟨rfl, PySem.W.mg_of X Gn eg_counts, eq_counts, ek_counts, eb_counts, et_counts⟩, ⟨rfl, PySem.W.mg_of X Gn eg_question, eq_question, ek_question, eb_question, et_question⟩, ⟨rfl, PySem.W.mg_of X Gn eg_liar, eq_liar, ek_liar, eb_liar, et_liar⟩, ⟨rfl, PySem.W.mg_of X Gn eg_plan, eq_plan, ek_plan, eb_plan, et_plan⟩, ⟨rfl, PySem.W.mg_of X Gn eg_text, eq_text, ek_text, eb_text, et_text⟩, ⟨⟨cp_halver, ch_halver, co_halver, cs_halver⟩⟩, ⟨PySem.W.mg_of X Gn cg_halver, cm_halver, ck_halver⟩, cn_halver_known, cn_halver_most, PySem.W.mg_of X Gn aL, exc, xall⟩
  have F_look_game : DefAt G mg "look_game" "look_game" s_look_game ["things", "lies"] := ⟨_, _, fun_mk l_look_game c_look_game k_look_game, (fun_mk (st := s_look_game) l_look_game c_look_game k_look_game).binds (fun _ _ _ _ _ _ us hl => match us, hl with | [_, _], _ => rfl), PySem.W.mg_of X Gn a_look_game⟩
  have F_look_told : DefAt G mg "look_told" "look_told" s_look_told ["told", "lies"] := ⟨_, _, fun_mk l_look_told c_look_told k_look_told, (fun_mk (st := s_look_told) l_look_told c_look_told k_look_told).binds (fun _ _ _ _ _ _ us hl => match us, hl with | [_, _], _ => rfl), PySem.W.mg_of X Gn a_look_told⟩
  have F_asked_at : DefAt G mg "asked_at" "asked_at" s_asked_at ["told", "lies", "place", "answer"] := ⟨_, _, fun_mk l_asked_at c_asked_at k_asked_at, (fun_mk (st := s_asked_at) l_asked_at c_asked_at k_asked_at).binds (fun _ _ _ _ _ _ us hl => match us, hl with | [_, _, _, _], _ => rfl), PySem.W.mg_of X Gn a_asked_at⟩
  have F_behind_place : DefAt G mg "behind_place" "behind_place" s_behind_place ["told", "lies", "place", "answer"] := ⟨_, _, fun_mk l_behind_place c_behind_place k_behind_place, (fun_mk (st := s_behind_place) l_behind_place c_behind_place k_behind_place).binds (fun _ _ _ _ _ _ us hl => match us, hl with | [_, _, _, _], _ => rfl), PySem.W.mg_of X Gn a_behind_place⟩
  have F_Halver___init__ : MethAt G .halver "__init__" "Halver.__init__" s_Halver___init__ ["self", "lies"] := ⟨_, _, fun_mk l_Halver___init__ c_Halver___init__ k_Halver___init__, (fun_mk (st := s_Halver___init__) l_Halver___init__ c_Halver___init__ k_Halver___init__).binds (fun _ _ _ _ _ _ us hl => match us, hl with | [_, _], _ => rfl), ⟨a_Halver___init__, i_Halver___init__, k_Halver___init__⟩⟩
  have F_Halver_left : MethAt G .halver "left" "Halver.left" s_Halver_left ["self", "told"] := ⟨_, _, fun_mk l_Halver_left c_Halver_left k_Halver_left, (fun_mk (st := s_Halver_left) l_Halver_left c_Halver_left k_Halver_left).binds (fun _ _ _ _ _ _ us hl => match us, hl with | [_, _], _ => rfl), ⟨a_Halver_left, i_Halver_left, k_Halver_left⟩⟩
  have F_Halver_found : MethAt G .halver "found" "Halver.found" s_Halver_found ["self", "told", "many"] := ⟨_, _, fun_mk l_Halver_found c_Halver_found k_Halver_found, (fun_mk (st := s_Halver_found) l_Halver_found c_Halver_found k_Halver_found).binds (fun _ _ _ _ _ _ us hl => match us, hl with | [_, _, _], _ => rfl), ⟨a_Halver_found, i_Halver_found, k_Halver_found⟩⟩
  have F_Halver_can : MethAt G .halver "can" "Halver.can" s_Halver_can ["self", "told", "many"] := ⟨_, _, fun_mk l_Halver_can c_Halver_can k_Halver_can, (fun_mk (st := s_Halver_can) l_Halver_can c_Halver_can k_Halver_can).binds (fun _ _ _ _ _ _ us hl => match us, hl with | [_, _, _], _ => rfl), ⟨a_Halver_can, i_Halver_can, k_Halver_can⟩⟩
  have F_least_halves : DefAt G mg "least_halves" "least_halves" s_least_halves ["told", "lies"] := ⟨_, _, fun_mk l_least_halves c_least_halves k_least_halves, (fun_mk (st := s_least_halves) l_least_halves c_least_halves k_least_halves).binds (fun _ _ _ _ _ _ us hl => match us, hl with | [_, _], _ => rfl), PySem.W.mg_of X Gn a_least_halves⟩
  have F_fits_halves : DefAt G mg "fits_halves" "fits_halves" s_fits_halves ["places", "answers", "thing"] := ⟨_, _, fun_mk l_fits_halves c_fits_halves k_fits_halves, (fun_mk (st := s_fits_halves) l_fits_halves c_fits_halves k_fits_halves).binds (fun _ _ _ _ _ _ us hl => match us, hl with | [_, _, _], _ => rfl), PySem.W.mg_of X Gn a_fits_halves⟩
  have F_searched : DefAt G mg "searched" "searched" s_searched ["things", "lies", "answers"] := ⟨_, _, fun_mk l_searched c_searched k_searched, (fun_mk (st := s_searched) l_searched c_searched k_searched).binds (fun _ _ _ _ _ _ us hl => match us, hl with | [_, _, _], _ => rfl), PySem.W.mg_of X Gn a_searched⟩
  have F_law_cell : DefAt G mg "_law_cell" "_law_cell" s_law_cell ["script", "k"] := ⟨_, _, fun_mk l_law_cell c_law_cell k_law_cell, (fun_mk (st := s_law_cell) l_law_cell c_law_cell k_law_cell).binds (fun _ _ _ _ _ _ us hl => match us, hl with | [_, _], _ => rfl), PySem.W.mg_of X Gn a_law_cell⟩
  have F_law_mix : DefAt G mg "_law_mix" "_law_mix" s_law_mix ["script", "k"] := ⟨_, _, fun_mk l_law_mix c_law_mix k_law_mix, (fun_mk (st := s_law_mix) l_law_mix c_law_mix k_law_mix).binds (fun _ _ _ _ _ _ us hl => match us, hl with | [_, _], _ => rfl), PySem.W.mg_of X Gn a_law_mix⟩
  have F_law_whole : DefAt G mg "_law_whole" "_law_whole" s_law_whole ["found"] := ⟨_, _, fun_mk l_law_whole c_law_whole k_law_whole, (fun_mk (st := s_law_whole) l_law_whole c_law_whole k_law_whole).binds (fun _ _ _ _ _ _ us hl => match us, hl with | [_], _ => rfl), PySem.W.mg_of X Gn a_law_whole⟩
  have F_law_refusal : DefAt G mg "_law_refusal" "_law_refusal" s_law_refusal ["kept"] := ⟨_, _, fun_mk l_law_refusal c_law_refusal k_law_refusal, (fun_mk (st := s_law_refusal) l_law_refusal c_law_refusal k_law_refusal).binds (fun _ _ _ _ _ _ us hl => match us, hl with | [_], _ => rfl), PySem.W.mg_of X Gn a_law_refusal⟩
  have F_law_told : DefAt G mg "_law_told" "_law_told" s_law_told ["things", "lies", "answers"] := ⟨_, _, fun_mk l_law_told c_law_told k_law_told, (fun_mk (st := s_law_told) l_law_told c_law_told k_law_told).binds (fun _ _ _ _ _ _ us hl => match us, hl with | [_, _, _], _ => rfl), PySem.W.mg_of X Gn a_law_told⟩
  have F_law_played : DefAt G mg "_law_played" "_law_played" s_law_played ["script", "things", "lies", "hidden", "true"] := ⟨_, _, fun_mk l_law_played c_law_played k_law_played, (fun_mk (st := s_law_played) l_law_played c_law_played k_law_played).binds (fun _ _ _ _ _ _ us hl => match us, hl with | [_, _, _, _, _], _ => rfl), PySem.W.mg_of X Gn a_law_played⟩
  have F_law_fits : DefAt G mg "_law_fits" "_law_fits" s_law_fits ["places", "answers", "lies", "left", "things"] := ⟨_, _, fun_mk l_law_fits c_law_fits k_law_fits, (fun_mk (st := s_law_fits) l_law_fits c_law_fits k_law_fits).binds (fun _ _ _ _ _ _ us hl => match us, hl with | [_, _, _, _, _], _ => rfl), PySem.W.mg_of X Gn a_law_fits⟩
  refine ⟨PySem.W.fnOf "law" "law" (defArgs s_law) (defBody s_law) (defScope s_law) .none kV_law dc_law pm_law an_law cd_law ct_law, fun s v => .of_eq rfl, fun base _ _ => ?_⟩
  have h_look_game := fk_look_game (P := P) (base := base) T F_look_game
  have h_look_told := fk_look_told (P := P) (base := base) T F_look_told h_look_game
  have h_asked_at := fk_asked_at (P := P) (base := base) T F_asked_at
  have h_behind_place := fk_behind_place (P := P) (base := base) T F_behind_place h_look_told h_asked_at
  have h_Halver___init__ := fk_Halver___init__ (P := P) (base := base) T F_Halver___init__
  have h_Halver_left := fk_Halver_left (P := P) (base := base) T F_Halver_left
  have h_Halver_can := fk_Halver_can (P := P) (base := base) T F_Halver_can F_Halver_found h_Halver_left h_asked_at
  have h_least_halves := fk_least_halves (P := P) (base := base) T F_least_halves h_look_told h_Halver___init__ h_Halver_can
  have h_fits_halves := fk_fits_halves (P := P) (base := base) T F_fits_halves
  have h_searched := fk_searched (P := P) (base := base) T F_searched h_look_game h_look_told h_Halver___init__ h_Halver_can h_asked_at
  have h_law_cell := fk_law_cell (P := P) (base := base) T F_law_cell
  have h_law_mix := fk_law_mix (P := P) (base := base) T F_law_mix h_law_cell
  have h_law_whole := fk_law_whole (P := P) (base := base) T F_law_whole
  have h_law_refusal := fk_law_refusal (P := P) (base := base) T F_law_refusal
  have h_law_told := fk_law_told (P := P) (base := base) T F_law_told h_searched h_law_refusal
  have h_law_played := fk_law_played (P := P) (base := base) T F_law_played h_least_halves h_law_mix h_behind_place
  have h_law_fits := fk_law_fits (P := P) (base := base) T F_law_fits h_fits_halves h_law_whole
  exact law_end (G := G) (S := S_law) (fun ns hl => ask_law ns hl) (fl_law T (fun_mk (st := s_law) l_law c_law k_law) h_law_mix h_law_played h_law_told h_least_halves h_law_fits)
end Lb

open PySem PySem.W PyProof.Rows
set_option maxRecDepth 100000 in
set_option maxHeartbeats 0 in
theorem PySem.Challenge.cw_liarbook_k52_whole_searched_holds : PySem.Challenge.rw_liarbook_k52_whole_searched.Holds := by
  w_on; o_law; k_head; (case hw => w_witness2)
  k_fill
  refine L2.walk_of (l := PySem.Challenge.rw_liarbook_k52_whole_searched) (n := 63) (k := 68) (x := "script") (CX := fun w => L2.CX PySem.Challenge.rw_liarbook_k52_whole_searched.prog w) (sp := fun w => Lb.sp_law _) rfl (by decide) rfl ⟨rfl, by decide, by decide⟩ (fun w h Y => PySem.W.kIn_of Y) ?F (fun _ _ a ns hl _ hS => ⟨a, ns, rfl, hS, hl, fun _ => rfl⟩) (fun _ _ _ _ _ z => Lb.no_cx z)
  case F =>
    intro w mg fa h KX G hmg
    refine' Lb.all_mk KX G hmg ?a_look_game ?l_look_game ?c_look_game ?k_look_game ?a_look_told ?l_look_told ?c_look_told ?k_look_told ?a_asked_at ?l_asked_at ?c_asked_at ?k_asked_at ?a_behind_place ?l_behind_place ?c_behind_place ?k_behind_place ?cg_halver ?cp_halver ?ch_halver ?co_halver ?cs_halver ?cm_halver ?ck_halver ?cn_halver_known ?cn_halver_most ?a_Halver___init__ ?i_Halver___init__ ?l_Halver___init__ ?c_Halver___init__ ?k_Halver___init__ ?a_Halver_left ?i_Halver_left ?l_Halver_left ?c_Halver_left ?k_Halver_left ?a_Halver_found ?i_Halver_found ?l_Halver_found ?c_Halver_found ?k_Halver_found ?a_Halver_can ?i_Halver_can ?l_Halver_can ?c_Halver_can ?k_Halver_can ?a_least_halves ?l_least_halves ?c_least_halves ?k_least_halves ?a_fits_halves ?l_fits_halves ?c_fits_halves ?k_fits_halves ?a_searched ?l_searched ?c_searched ?k_searched ?a_law_cell ?l_law_cell ?c_law_cell ?k_law_cell ?a_law_mix ?l_law_mix ?c_law_mix ?k_law_mix ?a_law_whole ?l_law_whole ?c_law_whole ?k_law_whole ?a_law_refusal ?l_law_refusal ?c_law_refusal ?k_law_refusal ?a_law_told ?l_law_told ?c_law_told ?k_law_told ?a_law_played ?l_law_played ?c_law_played ?k_law_played ?a_law_fits ?l_law_fits ?c_law_fits ?k_law_fits ?a_law ?l_law ?c_law ?k_law ?aL ?oN ?oT ?eg_game ?eq_game ?ek_game ?eb_game ?et_game ?xg_game ?xk_game ?xd_game ?xa_game ?xm_game ?xv_game ?xl_game ?eg_counts ?eq_counts ?ek_counts ?eb_counts ?et_counts ?xg_counts ?xk_counts ?xd_counts ?xa_counts ?xm_counts ?xv_counts ?xl_counts ?eg_question ?eq_question ?ek_question ?eb_question ?et_question ?xg_question ?xk_question ?xd_question ?xa_question ?xm_question ?xv_question ?xl_question ?eg_liar ?eq_liar ?ek_liar ?eb_liar ?et_liar ?xg_liar ?xk_liar ?xd_liar ?xa_liar ?xm_liar ?xv_liar ?xl_liar ?eg_plan ?eq_plan ?ek_plan ?eb_plan ?et_plan ?xg_plan ?xk_plan ?xd_plan ?xa_plan ?xm_plan ?xv_plan ?xl_plan ?eg_text ?eq_text ?ek_text ?eb_text ?et_text ?xg_text ?xk_text ?xd_text ?xa_text ?xm_text ?xv_text ?xl_text ?kt_game_game ?kt_game_counts ?kt_game_question ?kt_game_liar ?kt_game_plan ?kt_game_text ?kt_counts_game ?kt_counts_counts ?kt_counts_question ?kt_counts_liar ?kt_counts_plan ?kt_counts_text ?kt_question_game ?kt_question_counts ?kt_question_question ?kt_question_liar ?kt_question_plan ?kt_question_text ?kt_liar_game ?kt_liar_counts ?kt_liar_question ?kt_liar_liar ?kt_liar_plan ?kt_liar_text ?kt_plan_game ?kt_plan_counts ?kt_plan_question ?kt_plan_liar ?kt_plan_plan ?kt_plan_text ?kt_text_game ?kt_text_counts ?kt_text_question ?kt_text_liar ?kt_text_plan ?kt_text_text ?b_ValueError ?b_all ?b_bool ?b_int ?b_isinstance ?b_len ?b_max ?b_range ?b_tuple ?v_MOST_LIES_games ?v_MOST_LIES_halves ?v_MOST_THINGS_games ?v_MOST_THINGS_halves
    (case a_look_game => k_is)
    (case l_look_game => k_is)
    (case c_look_game => k_is)
    (case k_look_game => k_is)
    (case a_look_told => k_is)
    (case l_look_told => k_is)
    (case c_look_told => k_is)
    (case k_look_told => k_is)
    (case a_asked_at => k_is)
    (case l_asked_at => k_is)
    (case c_asked_at => k_is)
    (case k_asked_at => k_is)
    (case a_behind_place => k_is)
    (case l_behind_place => k_is)
    (case c_behind_place => k_is)
    (case k_behind_place => k_is)
    (case cg_halver => k_is)
    (case cp_halver => k_is)
    (case ch_halver => k_is)
    (case co_halver => k_is)
    (case cs_halver => k_is)
    (case cm_halver => k_is)
    (case ck_halver => k_is)
    (case cn_halver_known => k_is)
    (case cn_halver_most => k_is)
    (case a_Halver___init__ => k_is)
    (case i_Halver___init__ => k_is)
    (case l_Halver___init__ => k_is)
    (case c_Halver___init__ => k_is)
    (case k_Halver___init__ => k_is)
    (case a_Halver_left => k_is)
    (case i_Halver_left => k_is)
    (case l_Halver_left => k_is)
    (case c_Halver_left => k_is)
    (case k_Halver_left => k_is)
    (case a_Halver_found => k_is)
    (case i_Halver_found => k_is)
    (case l_Halver_found => k_is)
    (case c_Halver_found => k_is)
    (case k_Halver_found => k_is)
    (case a_Halver_can => k_is)
    (case i_Halver_can => k_is)
    (case l_Halver_can => k_is)
    (case c_Halver_can => k_is)
    (case k_Halver_can => k_is)
    (case a_least_halves => k_is)
    (case l_least_halves => k_is)
    (case c_least_halves => k_is)
    (case k_least_halves => k_is)
    (case a_fits_halves => k_is)
    (case l_fits_halves => k_is)
    (case c_fits_halves => k_is)
    (case k_fits_halves => k_is)
    (case a_searched => k_is)
    (case l_searched => k_is)
    (case c_searched => k_is)
    (case k_searched => k_is)
    (case a_law_cell => k_is)
    (case l_law_cell => k_is)
    (case c_law_cell => k_is)
    (case k_law_cell => k_is)
    (case a_law_mix => k_is)
    (case l_law_mix => k_is)
    (case c_law_mix => k_is)
    (case k_law_mix => k_is)
    (case a_law_whole => k_is)
    (case l_law_whole => k_is)
    (case c_law_whole => k_is)
    (case k_law_whole => k_is)
    (case a_law_refusal => k_is)
    (case l_law_refusal => k_is)
    (case c_law_refusal => k_is)
    (case k_law_refusal => k_is)
    (case a_law_told => k_is)
    (case l_law_told => k_is)
    (case c_law_told => k_is)
    (case k_law_told => k_is)
    (case a_law_played => k_is)
    (case l_law_played => k_is)
    (case c_law_played => k_is)
    (case k_law_played => k_is)
    (case a_law_fits => k_is)
    (case l_law_fits => k_is)
    (case c_law_fits => k_is)
    (case k_law_fits => k_is)
    (case a_law => k_is)
    (case l_law => k_is)
    (case c_law => k_is)
    (case k_law => k_is)
    (case aL => k_is)
    (case oN => k_is)
    (case oT => k_is)
    (case eg_game => k_is)
    (case eq_game => k_exc)
    (case ek_game => k_is)
    (case eb_game => k_is)
    (case et_game => k_is)
    (case xg_game => k_is)
    (case xk_game => k_is)
    (case xd_game => k_is)
    (case xa_game => k_is)
    (case xm_game => k_is)
    (case xv_game => kit_is)
    (case xl_game => kts_exm)
    (case eg_counts => k_is)
    (case eq_counts => k_exc)
    (case ek_counts => k_is)
    (case eb_counts => k_is)
    (case et_counts => k_is)
    (case xg_counts => k_is)
    (case xk_counts => k_is)
    (case xd_counts => k_is)
    (case xa_counts => k_is)
    (case xm_counts => k_is)
    (case xv_counts => kit_is)
    (case xl_counts => kts_exm)
    (case eg_question => k_is)
    (case eq_question => k_exc)
    (case ek_question => k_is)
    (case eb_question => k_is)
    (case et_question => k_is)
    (case xg_question => k_is)
    (case xk_question => k_is)
    (case xd_question => k_is)
    (case xa_question => k_is)
    (case xm_question => k_is)
    (case xv_question => kit_is)
    (case xl_question => kts_exm)
    (case eg_liar => k_is)
    (case eq_liar => k_exc)
    (case ek_liar => k_is)
    (case eb_liar => k_is)
    (case et_liar => k_is)
    (case xg_liar => k_is)
    (case xk_liar => k_is)
    (case xd_liar => k_is)
    (case xa_liar => k_is)
    (case xm_liar => k_is)
    (case xv_liar => kit_is)
    (case xl_liar => kts_exm)
    (case eg_plan => k_is)
    (case eq_plan => k_exc)
    (case ek_plan => k_is)
    (case eb_plan => k_is)
    (case et_plan => k_is)
    (case xg_plan => k_is)
    (case xk_plan => k_is)
    (case xd_plan => k_is)
    (case xa_plan => k_is)
    (case xm_plan => k_is)
    (case xv_plan => kit_is)
    (case xl_plan => kts_exm)
    (case eg_text => k_is)
    (case eq_text => k_exc)
    (case ek_text => k_is)
    (case eb_text => k_is)
    (case et_text => k_is)
    (case xg_text => k_is)
    (case xk_text => k_is)
    (case xd_text => k_is)
    (case xa_text => k_is)
    (case xm_text => k_is)
    (case xv_text => kit_is)
    (case xl_text => kts_exm)
    (case kt_game_game => kit_is)
    (case kt_game_counts => kit_is)
    (case kt_game_question => kit_is)
    (case kt_game_liar => kit_is)
    (case kt_game_plan => kit_is)
    (case kt_game_text => kit_is)
    (case kt_counts_game => kit_is)
    (case kt_counts_counts => kit_is)
    (case kt_counts_question => kit_is)
    (case kt_counts_liar => kit_is)
    (case kt_counts_plan => kit_is)
    (case kt_counts_text => kit_is)
    (case kt_question_game => kit_is)
    (case kt_question_counts => kit_is)
    (case kt_question_question => kit_is)
    (case kt_question_liar => kit_is)
    (case kt_question_plan => kit_is)
    (case kt_question_text => kit_is)
    (case kt_liar_game => kit_is)
    (case kt_liar_counts => kit_is)
    (case kt_liar_question => kit_is)
    (case kt_liar_liar => kit_is)
    (case kt_liar_plan => kit_is)
    (case kt_liar_text => kit_is)
    (case kt_plan_game => kit_is)
    (case kt_plan_counts => kit_is)
    (case kt_plan_question => kit_is)
    (case kt_plan_liar => kit_is)
    (case kt_plan_plan => kit_is)
    (case kt_plan_text => kit_is)
    (case kt_text_game => kit_is)
    (case kt_text_counts => kit_is)
    (case kt_text_question => kit_is)
    (case kt_text_liar => kit_is)
    (case kt_text_plan => kit_is)
    (case kt_text_text => kit_is)
    (case b_ValueError => k_is)
    (case b_all => k_is)
    (case b_bool => k_is)
    (case b_int => k_is)
    (case b_isinstance => k_is)
    (case b_len => k_is)
    (case b_max => k_is)
    (case b_range => k_is)
    (case b_tuple => k_is)
    (case v_MOST_LIES_games => k_is)
    (case v_MOST_LIES_halves => k_is)
    (case v_MOST_THINGS_games => k_is)
    (case v_MOST_THINGS_halves => k_is)
