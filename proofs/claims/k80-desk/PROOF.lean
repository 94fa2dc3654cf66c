import PyProof.Rows.All
import Wide.All
import OpenK.AllK
import Wide.FinOn
import HandS.ForMost
import HandS.ForExc
import KE.KeyNested
import HandS.Deep
import HandS.TupAny
import HandS.TupMul
import HandS.TupLe
import HandS.IsInst
import HandS.SetFor
import HandS.SortInts
import HandS.Style
import KE.KTupSum
import HandS.ExcIs
import HandS.ExcValue
import HandS.Strs
import HandS.SortRule
import HandS.NamedTupSort
import HandS.Conv
import KE.KDictSum
import HandS.Codes
import HandS.TryMany
import KE.GoesComp
import KE.KRevSl
import HandS.Flow
import PySem.Challenge.RW_liarbook_k80_whole_desk
set_option Elab.async false
set_option linter.all false
set_option autoImplicit false
set_option maxRecDepth 100000
set_option maxHeartbeats 4000000
/-! Lb0: a data layer over HandS. Values are data (D, by value, frozen) or addresses of mutable objects (MO in a store Mu). -/
namespace Lb
open PySem L2

/-! ### data -/
inductive D where
  | non
  | bl (b : Bool)
  | int (i : Int)
  | str (s : Str)
  | lst (xs : List D)
  | tup (xs : List D)

/-- the program's own exceptions -/
inductive Tag where
  | game | counts | question | liar | plan | text | row
  deriving DecidableEq
/-- the program's own classes -/
inductive CT where
  | game | worker | halver | denier | asker | foe | signs | desk
  deriving DecidableEq

inductive DV where
  | d (x : D)
  | r (a : Addr)
  | scr (ns : List Int)

inductive MO where
  | lst (xs : List D)
  | ins (c : CT) (fs : List (Str × DV))
  | exc (t : Tag)
  | tpl (es : List DV)
  | dic (kvs : List (D × D))
  | tdc (kvs : List (Str × D))

abbrev Mu := Addr → Option MO
abbrev DS := List (Option DV)

structure Ctx where
  K : PySem.W.Frag
  w : World
  le : Addr
  ex : Tag → Addr
  has : Tag → Bool
  cl : CT → Addr

def mset (m : Mu) (a : Addr) (o : MO) : Mu := fun b => if b = a then some o else m b
def mdel (m : Mu) (a : Addr) : Mu := fun b => if b = a then none else m b
theorem mset_same {m : Mu} {a : Addr} {o : MO} : mset m a o a = some o := if_pos rfl
theorem mset_ne {m : Mu} {a b : Addr} {o : MO} (h : b ≠ a) : mset m a o b = m b := if_neg h
theorem mdel_same {m : Mu} {a : Addr} : mdel m a a = none := if_pos rfl
theorem mdel_ne {m : Mu} {a b : Addr} (h : b ≠ a) : mdel m a b = m b := if_neg h
theorem mdel_mset {m : Mu} {a : Addr} {o : MO} (h : m a = none) : mdel (mset m a o) a = m := by
  funext b
  by_cases e : b = a
  · subst e; rw [mdel_same, h]
  · rw [mdel_ne e, mset_ne e]
theorem mset_mset {m : Mu} {a : Addr} {o u : MO} : mset (mset m a o) a u = mset m a u := by
  funext b; by_cases e : b = a
  · subst e; rw [mset_same, mset_same]
  · rw [mset_ne e, mset_ne e, mset_ne e]
theorem mdel_mset' {m : Mu} {a : Addr} {o : MO} : mdel (mset m a o) a = mdel m a := by
  funext b; by_cases e : b = a
  · subst e; rw [mdel_same, mdel_same]
  · rw [mdel_ne e, mdel_ne e, mset_ne e]

/-! ### heaps -/
def Ex (H H' : Hp) : Prop := ∀ a o, H a = some o → H' a = some o
theorem Ex.refl (H : Hp) : Ex H H := fun _ _ h => h
theorem Ex.trans {H H1 H2 : Hp} (a : Ex H H1) (b : Ex H1 H2) : Ex H H2 := fun x o h => b x o (a x o h)
def fz (H : Hp) (m : Mu) : Hp := fun a => match m a with
  | none => H a
  | some _ => none
theorem fz_none {H : Hp} {m : Mu} {a : Addr} (h : m a = none) : fz H m a = H a := by unfold fz; rw [h]
theorem fz_some {H : Hp} {m : Mu} {a : Addr} {x : MO} (h : m a = some x) : fz H m a = none := by unfold fz; rw [h]
theorem fz_inv {H : Hp} {m : Mu} {a : Addr} {o : HO} (h : fz H m a = some o) : H a = some o ∧ m a = none := by
  cases e : m a with
  | none => rw [fz_none e] at h; exact ⟨h, rfl⟩
  | some x => rw [fz_some e] at h; cases h
theorem fz_ex {H : Hp} {m : Mu} : Ex (fz H m) H := fun _ _ h => (fz_inv h).1

/-! ### what a value is -/
mutual
inductive Rp (F : Hp) : V → D → Prop
  | non : Rp F .non .non
  | bl (b : Bool) : Rp F (.bl b) (.bl b)
  | int (i : Int) : Rp F (.int i) (.int i)
  | str (x : Str) : Rp F (.str x) (.str x)
  | lst {a : Addr} {vs : List V} {xs : List D} : F a = some (.lst vs) → RpL F vs xs → Rp F (.ref a) (.lst xs)
  | tup {a : Addr} {vs : List V} {xs : List D} : F a = some (.tup vs) → RpL F vs xs → Rp F (.ref a) (.tup xs)
inductive RpL (F : Hp) : List V → List D → Prop
  | nil : RpL F [] []
  | cons {v : V} {vs : List V} {d : D} {ds : List D} : Rp F v d → RpL F vs ds → RpL F (v :: vs) (d :: ds)
end
mutual
theorem Rp.mono {F F' : Hp} (e : Ex F F') : ∀ (d : D) (v : V), Rp F v d → Rp F' v d
  | .non, _, h => by cases h; exact .non
  | .bl b, _, h => by cases h; exact .bl b
  | .int i, _, h => by cases h; exact .int i
  | .str x, _, h => by cases h; exact .str x
  | .lst xs, _, h => by
    cases h with
    | lst h1 h2 => exact .lst (e _ _ h1) (RpL.mono e xs _ h2)
  | .tup xs, _, h => by
    cases h with
    | tup h1 h2 => exact .tup (e _ _ h1) (RpL.mono e xs _ h2)
theorem RpL.mono {F F' : Hp} (e : Ex F F') : ∀ (ds : List D) (vs : List V), RpL F vs ds → RpL F' vs ds
  | [], _, h => by cases h; exact .nil
  | d :: ds, _, h => by
    cases h with
    | cons h1 h2 => exact .cons (Rp.mono e d _ h1) (RpL.mono e ds _ h2)
end
theorem RpL.length {F : Hp} : ∀ {vs : List V} {ds : List D}, RpL F vs ds → vs.length = ds.length
  | _, _, .nil => rfl
  | _, _, .cons _ t => by rw [List.length_cons, List.length_cons, RpL.length t]
theorem RpL.get {F : Hp} : ∀ {vs : List V} {ds : List D} {i : Nat} {d : D}, RpL F vs ds → ds[i]? = some d → ∃ v, vs[i]? = some v ∧ Rp F v d
  | _, _, _, _, .nil, e => by simp at e
  | _, _, 0, _, .cons r _, e => by simp at e; subst e; exact ⟨_, rfl, r⟩
  | _, _, i + 1, d, .cons _ t, e => by
    obtain ⟨u, h1, h2⟩ := RpL.get (i := i) (d := d) t (by simpa using e)
    exact ⟨u, by simpa using h1, h2⟩
theorem RpL.getV {F : Hp} : ∀ {vs : List V} {ds : List D} {i : Nat} {v : V}, RpL F vs ds → vs[i]? = some v → ∃ d, ds[i]? = some d ∧ Rp F v d
  | _, _, _, _, .nil, e => by simp at e
  | _, _, 0, _, .cons r _, e => by simp at e; subst e; exact ⟨_, rfl, r⟩
  | _, _, i + 1, d, .cons _ t, e => by
    obtain ⟨u, h1, h2⟩ := RpL.getV (i := i) (v := d) t (by simpa using e)
    exact ⟨u, by simpa using h1, h2⟩
theorem RpL.app {F : Hp} : ∀ {vs ws : List V} {ds es : List D}, RpL F vs ds → RpL F ws es → RpL F (vs ++ ws) (ds ++ es)
  | _, _, _, _, .nil, s => s
  | _, _, _, _, .cons r t, s => .cons r (RpL.app t s)
theorem RpL.one {F : Hp} {v : V} {d : D} (h : Rp F v d) : RpL F [v] [d] := .cons h .nil
theorem RpL.set {F : Hp} {v : V} {d : D} (r : Rp F v d) : ∀ {vs : List V} {ds : List D} (i : Nat), RpL F vs ds → RpL F (vs.set i v) (ds.set i d)
  | _, _, _, .nil => .nil
  | _, _, 0, .cons _ t => .cons r t
  | _, _, i + 1, .cons q t => .cons q (RpL.set r i t)
theorem RpL.take {F : Hp} : ∀ {vs : List V} {ds : List D} (n : Nat), RpL F vs ds → RpL F (vs.take n) (ds.take n)
  | _, _, 0, _ => .nil
  | _, _, _ + 1, .nil => .nil
  | _, _, n + 1, .cons r t => .cons r (RpL.take n t)
theorem RpL.drop {F : Hp} : ∀ {vs : List V} {ds : List D} (n : Nat), RpL F vs ds → RpL F (vs.drop n) (ds.drop n)
  | _, _, 0, r => r
  | _, _, _ + 1, .nil => .nil
  | _, _, n + 1, .cons _ t => RpL.drop n t
theorem RpL.rev {F : Hp} : ∀ {vs : List V} {ds : List D}, RpL F vs ds → RpL F vs.reverse ds.reverse
  | _, _, .nil => .nil
  | _, _, .cons r t => by rw [List.reverse_cons, List.reverse_cons]; exact RpL.app (RpL.rev t) (RpL.one r)
theorem RpL.rep {F : Hp} {vs : List V} {ds : List D} (h : RpL F vs ds) : ∀ k : Nat, RpL F (List.replicate k vs).flatten (List.replicate k ds).flatten
  | 0 => .nil
  | k + 1 => by rw [List.replicate_succ, List.replicate_succ, List.flatten_cons, List.flatten_cons]; exact RpL.app h (RpL.rep h k)

def RV (G : Ctx) (F : Hp) (v : V) : DV → Prop
  | .d x => Rp F v x
  | .r a => v = .ref a
  | .scr ns => ∃ a, v = .ref a ∧ SqL G.K F a (ns.map V.int)
theorem RV.mono {G : Ctx} {F F' : Hp} (e : Ex F F') {v : V} {d : DV} (h : RV G F v d) : RV G F' v d := by
  cases d with
  | d x => exact Rp.mono e x v h
  | r a => exact h
  | scr ns =>
    obtain ⟨a, h1, h2⟩ := h
    refine ⟨a, h1, ?_⟩
    rcases h2 with (h2 | ⟨o, h2⟩) | h2
    · exact .inl (.inl (e _ _ h2))
    · exact .inl (.inr ⟨o, e _ _ h2⟩)
    · exact .inr h2
theorem RV.dat {G : Ctx} {F : Hp} {v : V} {x : D} (h : Rp F v x) : RV G F v (.d x) := h
abbrev RVs (G : Ctx) (F : Hp) : List V → List DV → Prop := PySem.Paired (RV G F)
theorem RVs.mono {G : Ctx} {F F' : Hp} (e : Ex F F') : ∀ {vs : List V} {ds : List DV}, RVs G F vs ds → RVs G F' vs ds
  | _, _, .nil => .nil
  | _, _, .cons h t => .cons (h.mono e) (RVs.mono e t)
/-- the frame -/
structure REnv (G : Ctx) (F : Hp) (σ : L2.St) (ds : DS) : Prop where
  len : σ.length = ds.length
  at_ : ∀ (i : Nat) (d : DV), ds[i]? = some (some d) → ∃ v, σ[i]? = some (some v) ∧ RV G F v d
theorem REnv.mono {G : Ctx} {F F' : Hp} {σ : L2.St} {ds : DS} (e : Ex F F') (h : REnv G F σ ds) : REnv G F' σ ds :=
  ⟨h.len, fun i d q => let ⟨v, h1, h2⟩ := h.at_ i d q; ⟨v, h1, h2.mono e⟩⟩
theorem REnv.set {G : Ctx} {F : Hp} {σ : L2.St} {ds : DS} {v : V} {d : DV} (i : Nat) (h : REnv G F σ ds) (r : RV G F v d) : REnv G F (σ.set i (some v)) (ds.set i (some d)) := by
  refine ⟨by rw [List.length_set, List.length_set]; exact h.len, fun j e q => ?_⟩
  by_cases hj : i = j
  · subst hj
    have hi : i < ds.length := by
      cases Nat.lt_or_ge i ds.length with
      | inl z => exact z
      | inr z => rw [List.getElem?_eq_none (by rw [List.length_set]; exact z)] at q; cases q
    rw [List.getElem?_set_self hi] at q
    cases q
    exact ⟨v, List.getElem?_set_self (by rw [h.len]; exact hi), r⟩
  · rw [List.getElem?_set_ne hj] at q ⊢
    exact h.at_ j e q
theorem REnv.unset {G : Ctx} {F : Hp} {σ : L2.St} {ds : DS} (i : Nat) (h : REnv G F σ ds) : REnv G F (σ.set i none) (ds.set i none) := by
  refine ⟨by rw [List.length_set, List.length_set]; exact h.len, fun j e q => ?_⟩
  by_cases hj : i = j
  · subst hj
    have hi : i < ds.length := by
      cases Nat.lt_or_ge i ds.length with
      | inl z => exact z
      | inr z => rw [List.getElem?_eq_none (by rw [List.length_set]; exact z)] at q; cases q
    rw [List.getElem?_set_self hi] at q
    cases q
  · rw [List.getElem?_set_ne hj] at q ⊢
    exact h.at_ j e q

/-! ### mutable objects, the state -/
def RF (G : Ctx) (F : Hp) (p : Str × V) (q : Str × DV) : Prop := p.1 = q.1 ∧ RV G F p.2 q.2
/-- an exception of the class at C stands at a -/
def ExA (C a : Addr) : HO := .ext fun h => ∃ oe : Obj, h.get? a = some oe ∧ Zc (.ref C) none oe ∧ ∃ vs, oe.data = .fields vs
/-! ### keys of dicts -/
mutual
def toKey : D → NestedKey
  | .non => .none
  | .bl b => .num (if b = true then 1 else 0)
  | .int i => .num i
  | .str s => .text s
  | .lst _ => .none
  | .tup xs => .tup (toKeys xs)
def toKeys : List D → List NestedKey
  | [] => []
  | x :: xs => toKey x :: toKeys xs
end
mutual
def isKey : D → Bool
  | .non => true
  | .bl _ => true
  | .int _ => true
  | .str _ => true
  | .lst _ => false
  | .tup xs => isKeys xs
def isKeys : List D → Bool
  | [] => true
  | x :: xs => isKey x && isKeys xs
end
/-- a dict's own object: its entries -/
def NDo (w : World) (a : Addr) (xs : List (NestedKey × Addr × Value)) : HO := .ext fun h => ∃ o es ep, h.get? a = some o ∧ o.ExactDict ∧ o.data = .dict es ep ∧ es.toList = xs.map fun x => (⟨x.1.hash w, .ref x.2.1, x.2.2⟩ : DictEntry)
structure RK (F : Hp) (x : NestedKey × Addr × Value) (q : D × D) : Prop where
  k : x.1 = toKey q.1
  d : x.1.depth ≤ 8
  i : isKey q.1 = true
  a : Rp F (.ref x.2.1) q.1
  v : ∃ v, Rp F v q.2 ∧ RelV v x.2.2
abbrev RKs (F : Hp) : List (NestedKey × Addr × Value) → List (D × D) → Prop := PySem.Paired (RK F)
theorem RKs.mono {F F' : Hp} (e : Ex F F') : ∀ {xs : List (NestedKey × Addr × Value)} {kvs : List (D × D)}, RKs F xs kvs → RKs F' xs kvs
  | _, _, .nil => .nil
  | _, _, .cons h t => .cons ⟨h.k, h.d, h.i, Rp.mono e _ _ h.a, let ⟨v, h1, h2⟩ := h.v; ⟨v, Rp.mono e _ _ h1, h2⟩⟩ (RKs.mono e t)
/-- a dict with texts as keys -/
def RT (F : Hp) (p : Key × V) (q : Str × D) : Prop := p.1 = .inr q.1 ∧ Rp F p.2 q.2
theorem RT.mono {F F' : Hp} (e : Ex F F') : ∀ {vs : List (Key × V)} {kvs : List (Str × D)}, PySem.Paired (RT F) vs kvs → PySem.Paired (RT F') vs kvs
  | _, _, .nil => .nil
  | _, _, .cons h t => .cons ⟨h.1, Rp.mono e _ _ h.2⟩ (RT.mono e t)
def RO (G : Ctx) (F H : Hp) (a : Addr) : MO → Prop
  | .lst xs => ∃ vs, H a = some (.lst vs) ∧ RpL F vs xs
  | .ins c fs => ∃ dx vs, H a = some (.ins (G.cl c) dx vs) ∧ PySem.Paired (RF G F) vs fs
  | .exc t => H a = some (ExA (G.ex t) a) ∧ G.has t = true
  | .tpl es => ∃ vs, H a = some (.tup vs) ∧ RVs G F vs es
  | .dic kvs => ∃ xs, H a = some (NDo G.w a xs) ∧ (a == sysModules) = false ∧ (xs.map (·.1)).Nodup ∧ RKs F xs kvs
  | .tdc kvs => ∃ vs : List (Key × V), H a = some (.dK vs) ∧ PySem.Paired (RT F) vs kvs
theorem RF.mono {G : Ctx} {F F' : Hp} (e : Ex F F') : ∀ {vs : List (Str × V)} {fs : List (Str × DV)}, PySem.Paired (RF G F) vs fs → PySem.Paired (RF G F') vs fs
  | _, _, .nil => .nil
  | _, _, .cons h t => .cons ⟨h.1, h.2.mono e⟩ (RF.mono e t)
theorem RO.mono {G : Ctx} {F F' H H' : Hp} {a : Addr} (e : Ex F F') (q : H' a = H a) {o : MO} (h : RO G F H a o) : RO G F' H' a o := by
  cases o with
  | lst xs => obtain ⟨vs, h1, h2⟩ := h; exact ⟨vs, q.trans h1, RpL.mono e xs vs h2⟩
  | ins c fs => obtain ⟨dx, vs, h1, h2⟩ := h; exact ⟨dx, vs, q.trans h1, RF.mono e h2⟩
  | exc t => exact ⟨q.trans h.1, h.2⟩
  | tpl es => obtain ⟨vs, h1, h2⟩ := h; exact ⟨vs, q.trans h1, RVs.mono e h2⟩
  | dic kvs => obtain ⟨xs, h1, h2, h3, h4⟩ := h; exact ⟨xs, q.trans h1, h2, h3, RKs.mono e h4⟩
  | tdc kvs => obtain ⟨vs, h1, h2⟩ := h; exact ⟨vs, q.trans h1, RT.mono e h2⟩
theorem RO.there {G : Ctx} {F H : Hp} {a : Addr} {o : MO} (h : RO G F H a o) : H a ≠ none := by
  cases o with
  | lst xs => obtain ⟨vs, h1, h2⟩ := h; rw [h1]; exact fun z => nomatch z
  | ins c fs => obtain ⟨dx, vs, h1, h2⟩ := h; rw [h1]; exact fun z => nomatch z
  | exc t => rw [show H a = _ from h.1]; exact fun z => nomatch z
  | tpl es => obtain ⟨vs, h1, h2⟩ := h; rw [h1]; exact fun z => nomatch z
  | dic kvs => obtain ⟨xs, h1, h2⟩ := h; rw [h1]; exact fun z => nomatch z
  | tdc kvs => obtain ⟨vs, h1, h2⟩ := h; rw [h1]; exact fun z => nomatch z

def S0 (G : Ctx) (H : Hp) (m : Mu) : Prop := ∀ a o, m a = some o → RO G (fz H m) H a o
abbrev Tr (H : Hp) (m : Mu) (H' : Hp) (m' : Mu) : Prop := Ex (fz H m) (fz H' m')
section
variable {G : Ctx} {H H' H1 : Hp} {m m' m1 : Mu} {a p : Addr} {o : HO}
theorem S0.free (s : S0 G H m) (h : H p = none) : m p = none := by
  cases e : m p with
  | none => rfl
  | some x => exact absurd h (s p x e).there
theorem fz_upd (h : m p = none) : fz (upd H p o) m = upd (fz H m) p o := by
  funext b
  by_cases e : b = p
  · subst e; rw [fz_none h, upd_same, upd_same]
  · rw [upd_ne e]
    cases q : m b with
    | none => rw [fz_none q, fz_none q, upd_ne e]
    | some x => rw [fz_some q, fz_some q]
theorem Ex.new {F : Hp} (h : F p = none) : Ex F (upd F p o) := fun b u e => by
  rw [upd_ne (ne_of_none e h)]
  exact e
/-- a new thing, frozen -/
theorem S0.lay (s : S0 G H m) (h : H p = none) : S0 G (upd H p o) m ∧ Tr H m (upd H p o) m ∧ fz (upd H p o) m p = some o := by
  have n := s.free h
  have t : Tr H m (upd H p o) m := by
    show Ex (fz H m) (fz (upd H p o) m)
    rw [fz_upd n]
    exact Ex.new (by rw [fz_none n]; exact h)
  refine ⟨fun b x e => (s b x e).mono t (upd_ne fun z => ?_), t, by rw [fz_none n, upd_same]⟩
  rw [z, n] at e
  cases e
theorem fz_mset (h : fz H m p = none) {x : MO} : fz (upd H p o) (mset m p x) = fz H m := by
  funext b
  by_cases e : b = p
  · subst e; rw [fz_some mset_same, h]
  · cases q : m b with
    | none => rw [fz_none (by rw [mset_ne e]; exact q), fz_none q, upd_ne e]
    | some y => rw [fz_some (x := y) (by rw [mset_ne e]; exact q), fz_some q]
/-- a mutable thing is written (or laid) -/
theorem S0.put (s : S0 G H m) (h : fz H m p = none) {x : MO} (r : RO G (fz H m) (upd H p o) p x) : S0 G (upd H p o) (mset m p x) ∧ Tr H m (upd H p o) (mset m p x) := by
  have e := fz_mset (o := o) (x := x) h
  refine ⟨fun b y q => ?_, by show Ex _ _; rw [e]; exact Ex.refl _⟩
  rw [e]
  by_cases z : b = p
  · subst z
    rw [mset_same] at q
    cases q
    exact r
  · rw [mset_ne z] at q
    exact (s b y q).mono (Ex.refl _) (upd_ne z)
/-- what is no longer changed is frozen (or forgotten) -/
theorem fz_mdel : Ex (fz H m) (fz H (mdel m p)) := fun b u e => by
  obtain ⟨h1, h2⟩ := fz_inv e
  by_cases z : b = p
  · subst z; rw [fz_none mdel_same]; exact h1
  · rw [fz_none (by rw [mdel_ne z]; exact h2)]; exact h1
theorem S0.del (s : S0 G H m) : S0 G H (mdel m p) ∧ Tr H m H (mdel m p) := by
  refine ⟨fun b x e => ?_, fz_mdel⟩
  by_cases z : b = p
  · subst z; rw [mdel_same] at e; cases e
  · rw [mdel_ne z] at e
    exact (s b x e).mono fz_mdel rfl
/-- a store that holds less -/
def Sub (m' m : Mu) : Prop := ∀ a, m' a = none ∨ m' a = m a
theorem fz_sub (h : Sub m' m) : Ex (fz H m) (fz H m') := fun b u e => by
  obtain ⟨h1, h2⟩ := fz_inv e
  have z : m' b = none := by
    rcases h b with z | z
    · exact z
    · rw [z]; exact h2
  rw [fz_none z]
  exact h1
theorem S0.sub (s : S0 G H m) (h : Sub m' m) : S0 G H m' ∧ Tr H m H m' := by
  refine ⟨fun b x e => ?_, fz_sub h⟩
  rcases h b with z | z
  · rw [z] at e; cases e
  · rw [z] at e
    exact (s b x e).mono (fz_sub h) rfl
end

/-! ### what is wanted behind -/
def Post (G : Ctx) (H : Hp) (m : Mu) (R : DV → Mu → Prop) (Q : VK) : Prop := ∀ v H' d m', Tr H m H' m' → S0 G H' m' → RV G (fz H' m') v d → R d m' → Q v H'
def XPost (G : Ctx) (H : Hp) (m : Mu) (XR : Tag → Mu → Prop) (E : XK) : Prop := ∀ t, G.has t = true → ∀ H' m', Tr H m H' m' → S0 G H' m' → XR t m' → E (.ref (G.ex t)) none H'
theorem Post.tr {G : Ctx} {H H' : Hp} {m m' : Mu} {R : DV → Mu → Prop} {Q : VK} (p : Post G H m R Q) (t : Tr H m H' m') : Post G H' m' R Q := fun v H2 d m2 t2 s r q => p v H2 d m2 (t.trans t2) s r q
theorem XPost.tr {G : Ctx} {H H' : Hp} {m m' : Mu} {R : Tag → Mu → Prop} {Q : XK} (p : XPost G H m R Q) (t : Tr H m H' m') : XPost G H' m' R Q := fun c hc H2 m2 t2 s q => p c hc H2 m2 (t.trans t2) s q

/-- an expression -/
def EvD (G : Ctx) (W : WX) (te : TE) (ds : DS) (m : Mu) (R : DV → Mu → Prop) (XR : Tag → Mu → Prop) : Prop :=
  ∀ (σ : L2.St) (H : Hp) (Q : VK), S0 G H m → REnv G (fz H m) σ ds → Post G H m R Q → XPost G H m XR (fun c d H' => W c d σ H') → te σ H Q
def PostT (G : Ctx) (H : Hp) (m : Mu) (R : Bool → Mu → Prop) (Q : Bool → Hp → Prop) : Prop := ∀ b H' m', Tr H m H' m' → S0 G H' m' → R b m' → Q b H'
def EvT (G : Ctx) (W : WX) (te : TT) (ds : DS) (m : Mu) (R : Bool → Mu → Prop) (XR : Tag → Mu → Prop) : Prop :=
  ∀ (σ : L2.St) (H : Hp) (Q : Bool → Hp → Prop), S0 G H m → REnv G (fz H m) σ ds → PostT G H m R Q → XPost G H m XR (fun c d H' => W c d σ H') → te σ H Q
def PostA (G : Ctx) (H : Hp) (m : Mu) (R : List DV → Mu → Prop) (Q : List V → Hp → Prop) : Prop := ∀ vs H' ds m', Tr H m H' m' → S0 G H' m' → RVs G (fz H' m') vs ds → R ds m' → Q vs H'
def EvA (G : Ctx) (W : WX) (te : TA) (ds : DS) (m : Mu) (R : List DV → Mu → Prop) (XR : Tag → Mu → Prop) : Prop :=
  ∀ (σ : L2.St) (H : Hp) (Q : List V → Hp → Prop), S0 G H m → REnv G (fz H m) σ ds → PostA G H m R Q → XPost G H m XR (fun c d H' => W c d σ H') → te σ H Q

/-- statements -/
structure EndsD where
  nx : DS → Mu → Prop
  rt : DV → Mu → Prop
  bk : DS → Mu → Prop := fun _ _ => False
  ct : DS → Mu → Prop := fun _ _ => False
def PostS (G : Ctx) (H : Hp) (m : Mu) (R : DS → Mu → Prop) (Q : L2.St → Hp → Prop) : Prop := ∀ σ H' ds m', Tr H m H' m' → S0 G H' m' → REnv G (fz H' m') σ ds → R ds m' → Q σ H'
structure SPost (G : Ctx) (W : WX) (H : Hp) (m : Mu) (N : EndsD) (XR : Tag → DS → Mu → Prop) (E : Ends) : Prop where
  nx : PostS G H m N.nx E.nx
  rt : Post G H m N.rt E.rt
  bk : PostS G H m N.bk E.bk
  ct : PostS G H m N.ct E.ct
  xe : ∀ t, G.has t = true → ∀ σ H' ds m', Tr H m H' m' → S0 G H' m' → REnv G (fz H' m') σ ds → XR t ds m' → W (.ref (G.ex t)) none σ H'
def StD (G : Ctx) (W : WX) (t : TS) (ds : DS) (m : Mu) (N : EndsD) (XR : Tag → DS → Mu → Prop) : Prop :=
  ∀ (σ : L2.St) (H : Hp) (E : Ends), S0 G H m → REnv G (fz H m) σ ds → SPost G W H m N XR E → t E σ H
theorem PostS.tr {G : Ctx} {H H' : Hp} {m m' : Mu} {R : DS → Mu → Prop} {Q : L2.St → Hp → Prop} (p : PostS G H m R Q) (t : Tr H m H' m') : PostS G H' m' R Q := fun v H2 d m2 t2 s r q => p v H2 d m2 (t.trans t2) s r q
theorem SPost.tr {G : Ctx} {W : WX} {H H' : Hp} {m m' : Mu} {N : EndsD} {XR : Tag → DS → Mu → Prop} {E : Ends} (p : SPost G W H m N XR E) (t : Tr H m H' m') : SPost G W H' m' N XR E :=
  ⟨p.nx.tr t, p.rt.tr t, p.bk.tr t, p.ct.tr t, fun c hc σ H2 ds m2 t2 => p.xe c hc σ H2 ds m2 (t.trans t2)⟩
theorem SPost.x {G : Ctx} {W : WX} {H : Hp} {m : Mu} {N : EndsD} {XR : Tag → DS → Mu → Prop} {E : Ends} (p : SPost G W H m N XR E) {σ : L2.St} {ds : DS} (r : REnv G (fz H m) σ ds) : XPost G H m (fun t m' => XR t ds m') (fun c d H' => W c d σ H') :=
  fun t ht H' m' tr s q => p.xe t ht σ H' ds m' tr s (r.mono tr) q

/-! ### rules: expressions -/
section
variable {G : Ctx} {W : WX} {ds : DS} {m : Mu} {R : DV → Mu → Prop} {XR : Tag → Mu → Prop} {ta tb tc te : TE}
theorem ev_var {i : Nat} {d : DV} (h : ds[i]? = some (some d)) (k : R d m) : EvD G W (tVar i) ds m R XR := fun σ H Q s r p x => by
  obtain ⟨v, h1, h2⟩ := r.at_ i d h
  exact ⟨v, h1, p v H d m (Ex.refl _) s h2 k⟩
/-- a mutable list, read as a value: from now on it is data -/
theorem ev_varF {i : Nat} {a : Addr} {xs : List D} (h : ds[i]? = some (some (.r a))) (hm : m a = some (.lst xs)) (k : R (.d (.lst xs)) (mdel m a)) : EvD G W (tVar i) ds m R XR := fun σ H Q s r p x => by
  obtain ⟨v, h1, h2⟩ := r.at_ i _ h
  cases h2
  obtain ⟨vs, e1, e2⟩ := s a _ hm
  obtain ⟨s', t⟩ := s.del (p := a)
  exact ⟨_, h1, p _ H _ _ t s' (RV.dat (Rp.lst (by rw [fz_none mdel_same]; exact e1) (RpL.mono t _ _ e2))) k⟩
theorem ev_int {i : Int} (k : R (.d (.int i)) m) : EvD G W (tC (.int i)) ds m R XR := fun σ H Q s r p x => p _ H _ m (Ex.refl _) s (RV.dat (Rp.int i)) k
theorem ev_bl {b : Bool} (k : R (.d (.bl b)) m) : EvD G W (tC (.bl b)) ds m R XR := fun σ H Q s r p x => p _ H _ m (Ex.refl _) s (RV.dat (Rp.bl b)) k
theorem ev_non (k : R (.d .non) m) : EvD G W (tC .non) ds m R XR := fun σ H Q s r p x => p _ H _ m (Ex.refl _) s (RV.dat Rp.non) k
theorem ev_str {z : Str} (k : R (.d (.str z)) m) : EvD G W (tC (.str z)) ds m R XR := fun σ H Q s r p x => p _ H _ m (Ex.refl _) s (RV.dat (Rp.str z)) k
theorem EvD.imp {R' : DV → Mu → Prop} {XR' : Tag → Mu → Prop} (h : EvD G W te ds m R XR) (hR : ∀ d m', R d m' → R' d m') (hX : ∀ t m', XR t m' → XR' t m') : EvD G W te ds m R' XR' := fun σ H Q s r p x =>
  h σ H Q s r (fun v H' d m' t s' r' q => p v H' d m' t s' r' (hR d m' q)) (fun c hc H' m' t s' q => x c hc H' m' t s' (hX c m' q))

/-- an operation on two values, by data -/
abbrev F2 := DV → DV → Mu → (DV → Mu → Prop) → Prop
def rD2 (G : Ctx) (f : F2) : R2 := fun x y H Q => ∃ dx dy m R, S0 G H m ∧ RV G (fz H m) x dx ∧ RV G (fz H m) y dy ∧ f dx dy m R ∧ Post G H m R Q
theorem ev_op {f : F2} (h : EvD G W ta ds m (fun x m1 => EvD G W tb ds m1 (fun y m2 => f x y m2 R) XR) XR) : EvD G W (tOp (rD2 G f) ta tb) ds m R XR := fun σ H Q s r p x =>
  h σ H _ s r (fun v H1 d m1 t1 s1 r1 q1 => q1 σ H1 _ s1 (r.mono t1) (fun u H2 e m2 t2 s2 r2 q2 => ⟨d, e, m2, R, s2, r1.mono t2, r2, q2, p.tr (t1.trans t2)⟩) (x.tr t1)) x
abbrev F1 := DV → Mu → (DV → Mu → Prop) → Prop
def rD1 (G : Ctx) (f : F1) : V → Hp → VK → Prop := fun x H Q => ∃ dx m R, S0 G H m ∧ RV G (fz H m) x dx ∧ f dx m R ∧ Post G H m R Q
theorem ev_un {f : F1} (h : EvD G W ta ds m (fun x m1 => f x m1 R) XR) : EvD G W (tUn (rD1 G f) ta) ds m R XR := fun σ H Q s r p x =>
  h σ H _ s r (fun v H1 d m1 t1 s1 r1 q1 => ⟨d, m1, R, s1, r1, q1, p.tr t1⟩) x
abbrev FN := List DV → Mu → (DV → Mu → Prop) → Prop
def rDn (G : Ctx) (f : FN) : List V → Hp → VK → Prop := fun xs H Q => ∃ dx m R, S0 G H m ∧ RVs G (fz H m) xs dx ∧ f dx m R ∧ Post G H m R Q
theorem ev_cb {f : FN} {t : TA} (h : EvA G W t ds m (fun xs m1 => f xs m1 R) XR) : EvD G W (tCB (rDn G f) t) ds m R XR := fun σ H Q s r p x =>
  h σ H _ s r (fun vs H1 xs m1 t1 s1 r1 q1 => ⟨xs, m1, R, s1, r1, q1, p.tr t1⟩) x
theorem ea_nil {RA : List DV → Mu → Prop} (k : RA [] m) : EvA G W tNil ds m RA XR := fun σ H Q s r p x => p [] H [] m (Ex.refl _) s .nil k
theorem ea_cons {RA : List DV → Mu → Prop} {t : TA} (h : EvD G W te ds m (fun x m1 => EvA G W t ds m1 (fun xs m2 => RA (x :: xs) m2) XR) XR) : EvA G W (tCons te t) ds m RA XR := fun σ H Q s r p x =>
  h σ H _ s r (fun v H1 d m1 t1 s1 r1 q1 => q1 σ H1 _ s1 (r.mono t1) (fun vs H2 es m2 t2 s2 r2 q2 => p (v :: vs) H2 (d :: es) m2 (t1.trans t2) s2 (.cons (r1.mono t2) r2) q2) (x.tr t1)) x
theorem ev_if {t : TT} (h : EvT G W t ds m (fun b m1 => if b = true then EvD G W ta ds m1 R XR else EvD G W tb ds m1 R XR) XR) : EvD G W (tIf t ta tb) ds m R XR := fun σ H Q s r p x =>
  h σ H _ s r (fun b H1 m1 t1 s1 q1 => by
    cases b with
    | true => exact q1 σ H1 Q s1 (r.mono t1) (p.tr t1) (x.tr t1)
    | false => exact q1 σ H1 Q s1 (r.mono t1) (p.tr t1) (x.tr t1)) x
/-- a tuple, a list display -/
theorem RVs.data {F : Hp} : ∀ {vs : List V} {xs : List D}, RVs G F vs (xs.map DV.d) → RpL F vs xs
  | _, [], .nil => .nil
  | _, _ :: _, .cons h t => .cons h (RVs.data t)
theorem RVs.undata {F : Hp} : ∀ {vs : List V} {xs : List D}, RpL F vs xs → RVs G F vs (xs.map DV.d)
  | _, [], .nil => .nil
  | _, _ :: _, .cons h t => .cons h (RVs.undata t)
theorem sz_of {n : Nat} (h : n ≤ 100000) : n ≤ sizeLine := Nat.le_trans h (by decide)
theorem sz_lt {n : Nat} (h : n < 100000) : n < sizeLine := Nat.lt_of_lt_of_le h (by decide)
theorem ev_tup {t : TA} (h : EvA G W t ds m (fun es m1 => ∃ xs : List D, es = xs.map DV.d ∧ xs.length ≤ 100000 ∧ R (.d (.tup xs)) m1) XR) : EvD G W (tTup t) ds m R XR := fun σ H Q s r p x =>
  h σ H _ s r (fun vs H1 es m1 t1 s1 r1 ⟨xs, e, l, q⟩ => by
    subst e
    have r2 := RVs.data r1
    refine ⟨sz_of (by rw [r2.length]; exact l), fun a ha => ?_⟩
    obtain ⟨s2, t2, e2⟩ := s1.lay (o := .tup vs) ha
    exact p _ _ _ _ (t1.trans t2) s2 (RV.dat (Rp.tup e2 (RpL.mono t2 _ _ r2))) q) x
theorem ev_lst {t : TA} (h : EvA G W t ds m (fun es m1 => ∃ xs : List D, es = xs.map DV.d ∧ xs.length ≤ 100000 ∧ R (.d (.lst xs)) m1) XR) : EvD G W (tLst t) ds m R XR := fun σ H Q s r p x =>
  h σ H _ s r (fun vs H1 es m1 t1 s1 r1 ⟨xs, e, l, q⟩ => by
    subst e
    have r2 := RVs.data r1
    refine ⟨sz_of (by rw [r2.length]; exact l), fun a ha => ?_⟩
    obtain ⟨s2, t2, e2⟩ := s1.lay (o := .lst vs) ha
    exact p _ _ _ _ (t1.trans t2) s2 (RV.dat (Rp.lst e2 (RpL.mono t2 _ _ r2))) q) x
end

/-! ### rules: tests -/
section
variable {G : Ctx} {W : WX} {ds : DS} {m : Mu} {R : Bool → Mu → Prop} {XR : Tag → Mu → Prop} {te : TE} {t u : TT}
theorem et_B (h : EvD G W te ds m (fun d m1 => ∃ b, d = .d (.bl b) ∧ R b m1) XR) : EvT G W (tB te) ds m R XR := fun σ H Q s r p x =>
  h σ H _ s r (fun v H1 d m1 t1 s1 r1 ⟨b, e, q⟩ => by
    subst e
    cases r1
    exact ⟨b, rfl, p b H1 m1 t1 s1 q⟩) x
theorem et_test (h : EvD G W te ds m (fun d m1 => ∃ b, d = .d (.bl b) ∧ R b m1) XR) : EvT G W (tTest te) ds m R XR := fun σ H Q s r p x =>
  h σ H _ s r (fun v H1 d m1 t1 s1 r1 ⟨b, e, q⟩ => by
    subst e
    cases r1
    exact ⟨b, rfl, p b H1 m1 t1 s1 q⟩) x
theorem et_and (h : EvT G W t ds m (fun b m1 => if b = true then EvT G W u ds m1 R XR else R false m1) XR) : EvT G W (tAnd t u) ds m R XR := fun σ H Q s r p x =>
  h σ H _ s r (fun b H1 m1 t1 s1 q1 => by
    cases b with
    | true => exact q1 σ H1 Q s1 (r.mono t1) (fun c H2 m2 t2 s2 q2 => p c H2 m2 (t1.trans t2) s2 q2) (x.tr t1)
    | false => exact p false H1 m1 t1 s1 q1) x
theorem et_or (h : EvT G W t ds m (fun b m1 => if b = true then R true m1 else EvT G W u ds m1 R XR) XR) : EvT G W (tOr t u) ds m R XR := fun σ H Q s r p x =>
  h σ H _ s r (fun b H1 m1 t1 s1 q1 => by
    cases b with
    | false => exact q1 σ H1 Q s1 (r.mono t1) (fun c H2 m2 t2 s2 q2 => p c H2 m2 (t1.trans t2) s2 q2) (x.tr t1)
    | true => exact p true H1 m1 t1 s1 q1) x
theorem et_not (h : EvT G W t ds m (fun b m1 => R (!b) m1) XR) : EvT G W (tNot t) ds m R XR := fun σ H Q s r p x =>
  h σ H _ s r (fun b H1 m1 t1 s1 q1 => p (!b) H1 m1 t1 s1 q1) x
theorem et_yes (k : R true m) : EvT G W tYes ds m R XR := fun σ H Q s r p x => p true H m (Ex.refl _) s k
end

/-! ### rules: statements -/
section
variable {G : Ctx} {W : WX} {ds : DS} {m : Mu} {N : EndsD} {XR : Tag → DS → Mu → Prop} {te : TE} {t u : TS} {c : TT}
theorem st_next (k : N.nx ds m) : StD G W tNext ds m N XR := fun σ H E s r p => p.nx σ H ds m (Ex.refl _) s r k
theorem st_seq (h : StD G W t ds m { N with nx := fun ds' m' => StD G W u ds' m' N XR } XR) : StD G W (tSeq t u) ds m N XR := fun σ H E s r p =>
  h σ H { E with nx := u E } s r ⟨fun σ1 H1 ds1 m1 t1 s1 r1 q1 => q1 σ1 H1 E s1 r1 (p.tr t1), p.rt, p.bk, p.ct, p.xe⟩
theorem st_asg {i : Nat} (h : EvD G W te ds m (fun d m1 => N.nx (ds.set i (some d)) m1) (fun t m1 => XR t ds m1)) : StD G W (tAsg te (gName i)) ds m N XR := fun σ H E s r p =>
  h σ H _ s r (fun v H1 d m1 t1 s1 r1 q1 => p.nx _ H1 _ m1 t1 s1 ((r.mono t1).set i r1) q1) (p.x r)
theorem st_drop (h : EvD G W te ds m (fun _ m1 => N.nx ds m1) (fun t m1 => XR t ds m1)) : StD G W (tDrop te) ds m N XR := fun σ H E s r p =>
  h σ H _ s r (fun v H1 d m1 t1 s1 r1 q1 => p.nx _ H1 _ m1 t1 s1 (r.mono t1) q1) (p.x r)
theorem st_ret (h : EvD G W te ds m N.rt (fun t m1 => XR t ds m1)) : StD G W (tRet te) ds m N XR := fun σ H E s r p => h σ H _ s r p.rt (p.x r)
theorem st_if (h : EvT G W c ds m (fun b m1 => if b = true then StD G W t ds m1 N XR else StD G W u ds m1 N XR) (fun t m1 => XR t ds m1)) : StD G W (tIfS c t u) ds m N XR := fun σ H E s r p =>
  h σ H _ s r (fun b H1 m1 t1 s1 q1 => by
    cases b with
    | true => exact q1 σ H1 E s1 (r.mono t1) (p.tr t1)
    | false => exact q1 σ H1 E s1 (r.mono t1) (p.tr t1)) (p.x r)
theorem st_break (k : N.bk ds m) : StD G W tBreak ds m N XR := fun σ H E s r p => p.bk σ H ds m (Ex.refl _) s r k
theorem st_cont (k : N.ct ds m) : StD G W tCont ds m N XR := fun σ H E s r p => p.ct σ H ds m (Ex.refl _) s r k
theorem StD.imp {N' : EndsD} {XR' : Tag → DS → Mu → Prop} (h : StD G W t ds m N XR) (h1 : ∀ d m', N.nx d m' → N'.nx d m') (h2 : ∀ d m', N.rt d m' → N'.rt d m') (h3 : ∀ d m', N.bk d m' → N'.bk d m') (h4 : ∀ d m', N.ct d m' → N'.ct d m') (h5 : ∀ t d m', XR t d m' → XR' t d m') : StD G W t ds m N' XR' := fun σ H E s r p =>
  h σ H E s r ⟨fun a b c d e f g q => p.nx a b c d e f g (h1 _ _ q), fun a b c d e f g q => p.rt a b c d e f g (h2 _ _ q), fun a b c d e f g q => p.bk a b c d e f g (h3 _ _ q), fun a b c d e f g q => p.ct a b c d e f g (h4 _ _ q), fun a ha b c d e f g k q => p.xe a ha b c d e f g k (h5 _ _ _ q)⟩
/-- less in the store -/
theorem StD.sub {m' : Mu} (h : StD G W t ds m' N XR) (b : Sub m' m) : StD G W t ds m N XR := fun σ H E s r p => by
  obtain ⟨s', tr⟩ := s.sub b
  exact h σ H E s' (r.mono tr) (p.tr tr)
theorem EvD.sub {R : DV → Mu → Prop} {YR : Tag → Mu → Prop} {m' : Mu} (h : EvD G W te ds m' R YR) (b : Sub m' m) : EvD G W te ds m R YR := fun σ H E s r p x => by
  obtain ⟨s', tr⟩ := s.sub b
  exact h σ H E s' (r.mono tr) (p.tr tr) (x.tr tr)
end
end Lb

/-! Lb1: operators and built-ins by data. -/
namespace Lb
open PySem L2

/-! ### data as the library reads it -/
mutual
def toPy : D → PyData
  | .non => .none
  | .bl b => .bool b
  | .int i => .int i
  | .str s => .str s
  | .lst xs => .list (toPys xs)
  | .tup xs => .tuple (toPys xs)
def toPys : List D → List PyData
  | [] => []
  | x :: xs => toPy x :: toPys xs
end
theorem toPys_map : ∀ xs : List D, toPys xs = xs.map toPy
  | [] => rfl
  | x :: xs => by rw [toPys, toPys_map xs, List.map_cons]
def eqD (a b : D) : Bool := PyData.eqv (toPy a) (toPy b)
def eqDs (a b : List D) : Bool := PyData.eqvAll (toPys a) (toPys b)
/-- a text whose signs are signs -/
abbrev okS (s : Str) : Prop := PyData.strOk s = true
/-- data of at most so many things within one another -/
def Sh : Nat → D → Prop
  | _, .non => True
  | _, .bl _ => True
  | _, .int _ => True
  | _, .str s => okS s
  | 0, .lst xs => xs = []
  | 0, .tup xs => xs = []
  | n + 1, .lst xs => ∀ x ∈ xs, Sh n x
  | n + 1, .tup xs => ∀ x ∈ xs, Sh n x
theorem Sh.lays {f : D → Prop} : ∀ (xs : List D), (∀ x ∈ xs, PyData.canLay0 (toPy x) = true) → PyData.canLayAll0 (toPys xs) = true
  | [], _ => rfl
  | x :: xs, h => by
    rw [toPys, PyData.canLayAll0, h x List.mem_cons_self, Sh.lays (f := f) xs fun y hy => h y (List.mem_cons_of_mem _ hy)]
    rfl
theorem Sh.deps {n : Nat} : ∀ (xs : List D), (∀ x ∈ xs, PyData.depth (toPy x) ≤ n) → PyData.depthAll (toPys xs) ≤ n
  | [], _ => by rw [toPys, PyData.depthAll]; exact Nat.zero_le _
  | x :: xs, h => by
    rw [toPys, PyData.depthAll]
    exact Nat.max_le.mpr ⟨h x List.mem_cons_self, Sh.deps xs fun y hy => h y (List.mem_cons_of_mem _ hy)⟩
theorem Sh.both : ∀ (n : Nat) (d : D), Sh n d → PyData.canLay0 (toPy d) = true ∧ PyData.depth (toPy d) ≤ n + 1
  | n, .non, _ => ⟨by rw [toPy, PyData.canLay0], by rw [toPy, PyData.depth]; omega⟩
  | n, .bl _, _ => ⟨by rw [toPy, PyData.canLay0], by rw [toPy, PyData.depth]; omega⟩
  | n, .int _, _ => ⟨by rw [toPy, PyData.canLay0], by rw [toPy, PyData.depth]; omega⟩
  | n, .str s, h => ⟨by rw [toPy, PyData.canLay0]; unfold Sh at h; exact h, by rw [toPy, PyData.depth]; omega⟩
  | 0, .lst xs, h => by unfold Sh at h; subst h; exact ⟨by rw [toPy, toPys, PyData.canLay0, PyData.canLayAll0], by rw [toPy, toPys, PyData.depth, PyData.depthAll]; omega⟩
  | 0, .tup xs, h => by unfold Sh at h; subst h; exact ⟨by rw [toPy, toPys, PyData.canLay0, PyData.canLayAll0], by rw [toPy, toPys, PyData.depth, PyData.depthAll]; omega⟩
  | n + 1, .lst xs, h => by
    unfold Sh at h
    refine ⟨?_, ?_⟩
    · rw [toPy, PyData.canLay0]; exact Sh.lays (f := Sh n) xs fun x hx => (Sh.both n x (h x hx)).1
    · rw [toPy, PyData.depth]; have := Sh.deps xs fun x hx => (Sh.both n x (h x hx)).2; omega
  | n + 1, .tup xs, h => by
    unfold Sh at h
    refine ⟨?_, ?_⟩
    · rw [toPy, PyData.canLay0]; exact Sh.lays (f := Sh n) xs fun x hx => (Sh.both n x (h x hx)).1
    · rw [toPy, PyData.depth]; have := Sh.deps xs fun x hx => (Sh.both n x (h x hx)).2; omega
theorem Sh.shaped {d : D} (h : Sh 63 d) : SeqAt.shaped (toPy d) = true := by
  obtain ⟨h1, h2⟩ := Sh.both 63 d h
  unfold SeqAt.shaped
  rw [h1, decide_eq_true h2]
  rfl
theorem Sh.up : ∀ {n k : Nat} {d : D}, Sh n d → n ≤ k → Sh k d
  | _, _, .non, _, _ => by unfold Sh; trivial
  | _, _, .bl _, _, _ => by unfold Sh; trivial
  | _, _, .int _, _, _ => by unfold Sh; trivial
  | _, _, .str _, h, _ => by unfold Sh at h ⊢; exact h
  | 0, k, .lst xs, h, _ => by
    unfold Sh at h; subst h
    cases k with
    | zero => rfl
    | succ k => intro x hx; cases hx
  | 0, k, .tup xs, h, _ => by
    unfold Sh at h; subst h
    cases k with
    | zero => rfl
    | succ k => intro x hx; cases hx
  | n + 1, 0, .lst xs, _, hk => absurd hk (by omega)
  | n + 1, 0, .tup xs, _, hk => absurd hk (by omega)
  | n + 1, k + 1, .lst xs, h, hk => by
    unfold Sh at h ⊢
    exact fun x hx => (h x hx).up (Nat.le_of_succ_le_succ hk)
  | n + 1, k + 1, .tup xs, h, hk => by
    unfold Sh at h ⊢
    exact fun x hx => (h x hx).up (Nat.le_of_succ_le_succ hk)
mutual
theorem Rp.dp {K : PySem.W.Frag} {F : Hp} : ∀ (d : D) (v : V), Rp F v d → Dp K F v (toPy d)
  | .non, _, h => by cases h; rw [toPy]; exact .non
  | .bl b, _, h => by cases h; rw [toPy]; exact .bl b
  | .int i, _, h => by cases h; rw [toPy]; exact .int i
  | .str x, _, h => by cases h; rw [toPy]; exact .str x
  | .lst xs, _, h => by
    cases h with
    | lst h1 h2 => rw [toPy]; exact .lst (SqL.of h1) (RpL.dp xs _ h2)
  | .tup xs, _, h => by
    cases h with
    | tup h1 h2 => rw [toPy]; exact .tup (SqT.of h1) (RpL.dp xs _ h2)
theorem RpL.dp {K : PySem.W.Frag} {F : Hp} : ∀ (ds : List D) (vs : List V), RpL F vs ds → DpAll K F vs (toPys ds)
  | [], _, h => by cases h; rw [toPys]; exact .nil
  | d :: ds, _, h => by
    cases h with
    | cons h1 h2 => rw [toPys]; exact .cons (Rp.dp d _ h1) (RpL.dp ds _ h2)
end

/-! ### the view of a value: data, or a mutable list as it stands -/
def moL : Option MO → Option D
  | some (.lst xs) => some (.lst xs)
  | _ => none
def vw (m : Mu) : DV → Option D
  | .d x => some x
  | .r a => moL (m a)
  | .scr _ => none
theorem vw_d {m : Mu} {x : D} : vw m (.d x) = some x := rfl
theorem vw_r {m : Mu} {a : Addr} {xs : List D} (h : m a = some (.lst xs)) : vw m (.r a) = some (.lst xs) := by show moL (m a) = _; rw [h]; rfl
theorem vw_rp {G : Ctx} {H : Hp} {m : Mu} {v : V} {dv : DV} {x : D} (s : S0 G H m) (r : RV G (fz H m) v dv) (h : vw m dv = some x) : Rp H v x := by
  cases dv with
  | d y => cases h; exact Rp.mono fz_ex _ _ r
  | r a =>
    cases r
    have h : moL (m a) = some x := h
    cases e : m a with
    | none => rw [e] at h; cases h
    | some o =>
      rw [e] at h
      cases o with
      | lst xs =>
        cases h
        obtain ⟨vs, h1, h2⟩ := s a _ e
        exact .lst h1 (RpL.mono fz_ex _ _ h2)
      | ins c fs => cases h
      | exc t => cases h
      | tpl es => cases h
      | dic kvs => cases h
      | tdc kvs => cases h
  | scr ns => cases h
theorem Post.here {G : Ctx} {H : Hp} {m : Mu} {R : DV → Mu → Prop} {Q : VK} (p : Post G H m R Q) (s : S0 G H m) {v : V} {d : DV} (r : RV G (fz H m) v d) (k : R d m) : Q v H := p v H d m (Ex.refl _) s r k
theorem Post.lay {G : Ctx} {H : Hp} {m : Mu} {R : DV → Mu → Prop} {Q : VK} (p : Post G H m R Q) (s : S0 G H m) {a : Addr} (ha : H a = none) {vs : List V} {xs : List D} (r : RpL (fz H m) vs xs) (k : R (.d (.lst xs)) m) : Q (.ref a) (upd H a (.lst vs)) := by
  obtain ⟨s2, t2, e2⟩ := s.lay (o := .lst vs) ha
  exact p _ _ _ _ t2 s2 (RV.dat (Rp.lst e2 (RpL.mono t2 _ _ r))) k
theorem Post.layT {G : Ctx} {H : Hp} {m : Mu} {R : DV → Mu → Prop} {Q : VK} (p : Post G H m R Q) (s : S0 G H m) {a : Addr} (ha : H a = none) {vs : List V} {xs : List D} (r : RpL (fz H m) vs xs) (k : R (.d (.tup xs)) m) : Q (.ref a) (upd H a (.tup vs)) := by
  obtain ⟨s2, t2, e2⟩ := s.lay (o := .tup vs) ha
  exact p _ _ _ _ t2 s2 (RV.dat (Rp.tup e2 (RpL.mono t2 _ _ r))) k
theorem RpL.ints {F : Hp} : ∀ {ns : List Int} {vs : List V}, RpL F vs (ns.map D.int) → vs = ns.map V.int
  | [], _, .nil => rfl
  | n :: ns, _, .cons h t => by
    cases h
    rw [List.map_cons, RpL.ints t]
theorem RpL.ofInts {F : Hp} : ∀ (ns : List Int), RpL F (ns.map V.int) (ns.map D.int)
  | [] => .nil
  | n :: ns => .cons (.int n) (RpL.ofInts ns)
theorem RpL.bls {F : Hp} : ∀ {ns : List Bool} {vs : List V}, RpL F vs (ns.map D.bl) → vs = ns.map V.bl
  | [], _, .nil => rfl
  | n :: ns, _, .cons h t => by
    cases h
    rw [List.map_cons, RpL.bls t]
theorem atI_rp {F : Hp} {vs : List V} {xs : List D} {i : Int} {x : D} (r : RpL F vs xs) (h : atI xs i = some x) : ∃ v, atI vs i = some v ∧ Rp F v x := by
  unfold atI at h ⊢
  rw [r.length]
  cases e : ixN xs.length i with
  | none => rw [e] at h; cases h
  | some j =>
    rw [e] at h
    exact r.get h

/-! ### the operators -/
def addF : F2
  | .d (.int i), .d (.int j), m, R => R (.d (.int (i + j))) m
  | .d (.str s), .d (.str t), m, R => s.length + t.length ≤ 100000 ∧ R (.d (.str (s ++ t))) m
  | .d (.lst xs), .d (.lst ys), m, R => xs.length + ys.length ≤ 100000 ∧ R (.d (.lst (xs ++ ys))) m
  | .d (.tup xs), .d (.tup ys), m, R => xs.length + ys.length ≤ 100000 ∧ R (.d (.tup (xs ++ ys))) m
  | _, _, _, _ => False
def subF : F2
  | .d (.int i), .d (.int j), m, R => R (.d (.int (i - j))) m
  | _, _, _, _ => False
def mulF : F2
  | .d (.int i), .d (.int j), m, R => CMul i j ∧ R (.d (.int (i * j))) m
  | .d (.lst xs), .d (.int k), m, R => 0 ≤ k ∧ k ≤ 100000 ∧ xs.length * k.toNat ≤ 100000 ∧ R (.d (.lst (List.replicate k.toNat xs).flatten)) m
  | .d (.tup xs), .d (.int k), m, R => xs ≠ [] ∧ 1 ≤ k ∧ k ≤ 1000 ∧ xs.length ≤ 1000 ∧ R (.d (.tup (List.replicate k.toNat xs).flatten)) m
  | _, _, _, _ => False
def divF : F2
  | .d (.int i), .d (.int j), m, R => CDiv i j ∧ R (.d (.int (i / j))) m
  | _, _, _, _ => False
def modF : F2
  | .d (.int i), .d (.int j), m, R => 0 < j ∧ R (.d (.int (i % j))) m
  | _, _, _, _ => False
def powF : F2
  | .d (.int i), .d (.int j), m, R => CPow i j ∧ R (.d (.int (i ^ j.toNat))) m
  | _, _, _, _ => False
def ltF : F2
  | .d (.int i), .d (.int j), m, R => R (.d (.bl (decide (i < j)))) m
  | .d (.tup xs), .d (.tup ys), m, R => ∃ ns ms : List Int, xs = ns.map D.int ∧ ys = ms.map D.int ∧ R (.d (.bl (HT.lexLt ns ms))) m
  | _, _, _, _ => False
def leF : F2
  | .d (.int i), .d (.int j), m, R => R (.d (.bl (decide (i ≤ j)))) m
  | .d (.tup xs), .d (.tup ys), m, R => ∃ ns ms : List Int, xs = ns.map D.int ∧ ys = ms.map D.int ∧ R (.d (.bl (lexLeI ns ms))) m
  | _, _, _, _ => False
def gtF : F2
  | .d (.int i), .d (.int j), m, R => R (.d (.bl (decide (j < i)))) m
  | _, _, _, _ => False
def geF : F2
  | .d (.int i), .d (.int j), m, R => R (.d (.bl (decide (j ≤ i)))) m
  | _, _, _, _ => False
def eqF : F2
  | .d x, .d y, m, R => Sh 63 x ∧ Sh 63 y ∧ R (.d (.bl (eqD x y))) m
  | x, y, m, R => ∃ a b, vw m x = some a ∧ vw m y = some b ∧ Sh 63 a ∧ Sh 63 b ∧ R (.d (.bl (eqD a b))) m
def neF : F2
  | .d x, .d y, m, R => Sh 63 x ∧ Sh 63 y ∧ R (.d (.bl (!eqD x y))) m
  | x, y, m, R => ∃ a b, vw m x = some a ∧ vw m y = some b ∧ Sh 63 a ∧ Sh 63 b ∧ R (.d (.bl (!eqD a b))) m
def isNon : DV → Bool
  | .d .non => true
  | _ => false
def isF : F2
  | x, .d .non, m, R => R (.d (.bl (isNon x))) m
  | _, _, _, _ => False
def isnotF : F2
  | x, .d .non, m, R => R (.d (.bl (!isNon x))) m
  | _, _, _, _ => False
def inF : F2
  | .d x, .d (.lst ys), m, R => Sh 63 x ∧ (∀ y ∈ ys, Sh 62 y) ∧ R (.d (.bl (ys.any fun y => eqD y x))) m
  | .d x, .d (.tup ys), m, R => Sh 63 x ∧ (∀ y ∈ ys, Sh 62 y) ∧ R (.d (.bl (ys.any fun y => eqD y x))) m
  | .d (.str s), .d (.str t), m, R => R (.d (.bl (!(Builtin.Str.occurrences t s 0 t.length 1).isEmpty))) m
  | .d x, .r a, m, R => ∃ ys, m a = some (.lst ys) ∧ Sh 63 x ∧ (∀ y ∈ ys, Sh 62 y) ∧ R (.d (.bl (ys.any fun y => eqD y x))) m
  | _, _, _, _ => False
def notinF : F2
  | .d x, .d (.lst ys), m, R => Sh 63 x ∧ (∀ y ∈ ys, Sh 62 y) ∧ R (.d (.bl (!ys.any fun y => eqD y x))) m
  | .d x, .d (.tup ys), m, R => Sh 63 x ∧ (∀ y ∈ ys, Sh 62 y) ∧ R (.d (.bl (!ys.any fun y => eqD y x))) m
  | .d (.str s), .d (.str t), m, R => R (.d (.bl (!(!(Builtin.Str.occurrences t s 0 t.length 1).isEmpty)))) m
  | .d x, .r a, m, R => ∃ ys, m a = some (.lst ys) ∧ Sh 63 x ∧ (∀ y ∈ ys, Sh 62 y) ∧ R (.d (.bl (!ys.any fun y => eqD y x))) m
  | _, _, _, _ => False
def negF : F1
  | .d (.int i), m, R => R (.d (.int (-i))) m
  | _, _, _ => False

open PySem.Spec PyProof.Rows in
theorem tuple_mul1 (l : Addr) (items : Array Value) (n : Nat) (dd : Option Addr) (sl : Array (Option Value)) (u : Tok) :
    Meets (Builtin.«tuple.__mul__» ⟨[.ref l, .int 1 u], []⟩) (fun _ R s => s.heap.get? l = some { cls := .type "tuple", dict := dd, data := .seq items n, slots := sl } ∧
      R (.ok (.ret (Value.ref l))) s) :=
  .of_wp fun prog w A R s h => by
    obtain ⟨hp, g, d, tk, os⟩ := s
    obtain ⟨hl, h⟩ := h
    have f1 := AutoSeq1.idx_int
    have c1 : (items.isEmpty || (1 : Int) == 1) = true := by rw [show ((1 : Int) == 1) = true from rfl, Bool.or_true]
    wp_walk using wpAny_loadPart' hl
    repeat (first
      | (refine wpAny_ite_true (decide_eq_true c1) ?_; wp_walk using wpAny_loadPart' hl)
      | (refine wpAny_ite_true c1 ?_; wp_walk using wpAny_loadPart' hl))
    exact ⟨_, rfl, h⟩
open PySem.Spec PyProof.Rows in
theorem rep1_ok {X : Cx} {pins : List (Addr × Obj)} {s : Shared} {σ : L2.St} {H : Hp} {l : Addr} {xs : List V} {t : Tok} {Q : VK} (I : L2.Inv X pins σ H s) (hT : SqT X.K H l xs) (q : Q (.ref l) H) : wpAny (model X.prog X.w) X.A (binaryOp .Mult (.ref l) (.int 1 t)) (EP X pins σ Q) X.xe s := by
  obtain ⟨its, r, ⟨⟨cls, dd, data, sl⟩, ho, hc, n, hd⟩, hs⟩ := I.tuple hT
  simp only at hc hd
  subst hc hd
  exact wpAny_binaryOp_repeat_ref (T := "tuple") (U := "int") (by decide) ⟨_, ho, rfl⟩ (fun s' => typeIs_int s' 1 t) noFill_tuple_mul F.fills_int_mul F.slot_int_rmul repeat_tuple F.slot_int_index.lookup
    (call_meets F.slot_int_rmul (typeIs_int s 1 t) F.entry_int_rmul (F.args_int_rmul_2 _ _) (int_rmul_tuple 1 t l its.toArray n dd sl)
      ⟨ho, rfl, ⟨_, ho, rfl⟩, call_meets F.slot_tuple_mul ⟨_, ho, rfl⟩ F.entry_tuple_mul (F.args_tuple_mul_2 _ _) (tuple_mul1 l its.toArray n dd sl t) ⟨ho, ⟨.ref l, H, I, rfl, q⟩⟩⟩)
theorem getD_pre {ps ns : List Int} {x : Int} {i : Nat} (h : ps.length = i) : (ps ++ x :: ns).getD i 0 = x := by
  rw [List.getD_eq_getElem?_getD, List.getElem?_append_right (by omega), show i - ps.length = 0 by omega]
  rfl
theorem lexAt_le : ∀ (ns ms ps qs : List Int) (i : Nat), ps.length = i → qs.length = i → Ob.lexAt (fun j => decide ((ps ++ ns).getD j 0 = (qs ++ ms).getD j 0)) (fun j => decide ((ps ++ ns).getD j 0 ≤ (qs ++ ms).getD j 0)) (decide ((ps ++ ns).length ≤ (qs ++ ms).length)) i (min ns.length ms.length) = lexLeI ns ms
  | [], ms, ps, qs, i, h1, h2 => by
    rw [List.length_nil, Nat.zero_min, Ob.lexAt_zero, lexLeI]
    exact decide_eq_true (by rw [List.length_append, List.length_append, List.length_nil]; omega)
  | x :: ns, [], ps, qs, i, h1, h2 => by
    rw [List.length_nil, Nat.min_zero, Ob.lexAt_zero, lexLeI]
    exact decide_eq_false (by rw [List.length_append, List.length_append, List.length_nil, List.length_cons]; omega)
  | x :: ns, y :: ms, ps, qs, i, h1, h2 => by
    rw [List.length_cons, List.length_cons, show min (ns.length + 1) (ms.length + 1) = min ns.length ms.length + 1 by omega, Ob.lexAt_succ, getD_pre h1, getD_pre h2, lexLeI]
    by_cases e : x = y
    · rw [if_pos (decide_eq_true e), if_pos e]
      have := lexAt_le ns ms (ps ++ [x]) (qs ++ [y]) (i + 1) (by rw [List.length_append, h1]; rfl) (by rw [List.length_append, h2]; rfl)
      rw [List.append_assoc, List.append_assoc] at this
      exact this
    · rw [if_neg (by rw [decide_eq_true_eq]; exact e), if_neg e]
section
variable {X : Cx} {G : Ctx}
theorem or_add (hK : X.K = G.K) : OpR X (binaryOp .Add) (rD2 G addF) := by
  intro pins s σ H x y v u Q I rx ry h
  obtain ⟨dx, dy, m, R, s0, r1, r2, h, p⟩ := h
  unfold addF at h
  split at h
  · cases r1; cases r2
    exact op_add pins s σ H _ _ v u Q I rx ry ⟨_, _, rfl, rfl, p.here s0 (RV.dat (Rp.int _)) h⟩
  · cases r1; cases r2
    exact op_add_str pins s σ H _ _ v u Q I rx ry ⟨_, _, rfl, rfl, sz_of h.1, p.here s0 (RV.dat (Rp.str _)) h.2⟩
  · cases r1 with
    | lst h1 h2 =>
      cases r2 with
      | lst h3 h4 =>
        exact op_cat pins s σ H _ _ v u Q I rx ry ⟨_, _, _, _, rfl, rfl, fz_ex _ _ h1, fz_ex _ _ h3, sz_of (by rw [h2.length, h4.length]; exact h.1), fun a ha => p.lay s0 ha (h2.app h4) h.2⟩
  · cases r1 with
    | tup h1 h2 =>
      cases r2 with
      | tup h3 h4 =>
        refine op_catA pins s σ H _ _ v u Q I rx ry ⟨_, _, _, _, rfl, rfl, SqT.of (fz_ex _ _ h1), SqT.of (fz_ex _ _ h3), sz_of (by rw [h2.length, h4.length]; exact h.1), fun e => ?_, fun _ e => ?_, fun _ _ a ha => p.layT s0 ha (h2.app h4) h.2⟩
        · subst e
          cases h2
          exact p.here s0 (RV.dat (Rp.tup h3 h4)) h.2
        · subst e
          cases h4
          exact p.here s0 (RV.dat (Rp.tup h1 h2)) (by have z := h.2; rw [List.append_nil] at z; exact z)
  · exact h.elim
theorem or_sub : OpR X (binaryOp .Sub) (rD2 G subF) := by
  intro pins s σ H x y v u Q I rx ry h
  obtain ⟨dx, dy, m, R, s0, r1, r2, h, p⟩ := h
  unfold subF at h
  split at h
  · cases r1; cases r2
    exact op_sub pins s σ H _ _ v u Q I rx ry ⟨_, _, rfl, rfl, p.here s0 (RV.dat (Rp.int _)) h⟩
  · exact h.elim
theorem or_mul : OpR X (binaryOp .Mult) (rD2 G mulF) := by
  intro pins s σ H x y v u Q I rx ry h
  obtain ⟨dx, dy, m, R, s0, r1, r2, h, p⟩ := h
  unfold mulF at h
  split at h
  · cases r1; cases r2
    exact op_mul pins s σ H _ _ v u Q I rx ry ⟨_, _, rfl, rfl, h.1, p.here s0 (RV.dat (Rp.int _)) h.2⟩
  · cases r2
    cases r1 with
    | lst h1 h2 =>
      exact op_rep pins s σ H _ _ v u Q I rx ry ⟨_, _, _, rfl, rfl, fz_ex _ _ h1, by omega, by omega, sz_of (by rw [h2.length]; exact h.2.2.1), fun a ha => p.lay s0 ha (h2.rep _) h.2.2.2⟩
  · cases r2
    cases r1 with
    | tup h1 h2 =>
      rename_i k _ _
      by_cases hk1 : k = 1
      · subst hk1
        cases (show v = Value.ref _ from rx)
        obtain ⟨t, rfl⟩ := (show ∃ t, u = Value.int 1 t from ry)
        refine rep1_ok I (SqT.of (fz_ex _ _ h1)) (p.here s0 (RV.dat (Rp.tup h1 h2)) ?_)
        have z := h.2.2.2.2
        rw [show (1 : Int).toNat = 1 from rfl, List.replicate_one, List.flatten_cons, List.flatten_nil, List.append_nil] at z
        exact z
      have h : _ ≠ [] ∧ 2 ≤ k ∧ _ := ⟨h.1, by have := h.2.1; omega, h.2.2⟩
      exact op_repT pins s σ H _ _ v u Q I rx ry ⟨_, _, _, rfl, rfl, .inl (.inl (fz_ex _ _ h1)), fun e => h.1 (List.eq_nil_of_length_eq_zero (by rw [← h2.length, e]; rfl)), h.2.1, h.2.2.1, by rw [h2.length]; exact h.2.2.2.1, fun a ha => p.layT s0 ha (h2.rep _) h.2.2.2.2⟩
  · exact h.elim
theorem or_div : OpR X (binaryOp .FloorDiv) (rD2 G divF) := by
  intro pins s σ H x y v u Q I rx ry h
  obtain ⟨dx, dy, m, R, s0, r1, r2, h, p⟩ := h
  unfold divF at h
  split at h
  · cases r1; cases r2
    exact op_fdiv pins s σ H _ _ v u Q I rx ry ⟨_, _, rfl, rfl, h.1, p.here s0 (RV.dat (Rp.int _)) h.2⟩
  · exact h.elim
theorem or_mod : OpR X (binaryOp .Mod) (rD2 G modF) := by
  intro pins s σ H x y v u Q I rx ry h
  obtain ⟨dx, dy, m, R, s0, r1, r2, h, p⟩ := h
  unfold modF at h
  split at h
  · cases r1; cases r2
    exact op_mod pins s σ H _ _ v u Q I rx ry ⟨_, _, rfl, rfl, h.1, p.here s0 (RV.dat (Rp.int _)) h.2⟩
  · exact h.elim
theorem or_pow : OpR X (binaryOp .Pow) (rD2 G powF) := by
  intro pins s σ H x y v u Q I rx ry h
  obtain ⟨dx, dy, m, R, s0, r1, r2, h, p⟩ := h
  unfold powF at h
  split at h
  · cases r1; cases r2
    exact op_pow pins s σ H _ _ v u Q I rx ry ⟨_, _, rfl, rfl, h.1, p.here s0 (RV.dat (Rp.int _)) h.2⟩
  · exact h.elim
theorem or_lt (hu : X.A.units < cLine) : OpR X (compareOp .Lt) (rD2 G ltF) := by
  intro pins s σ H x y v u Q I rx ry h
  obtain ⟨dx, dy, m, R, s0, r1, r2, h, p⟩ := h
  unfold ltF at h
  split at h
  · cases r1; cases r2
    exact op_lt pins s σ H _ _ v u Q I rx ry ⟨_, _, rfl, rfl, p.here s0 (RV.dat (Rp.bl _)) h⟩
  · obtain ⟨ns, ms, rfl, rfl, h⟩ := h
    cases r1 with
    | tup h1 h2 =>
      cases r2 with
      | tup h3 h4 =>
        have e1 := h2.ints
        have e2 := h4.ints
        subst e1 e2
        exact op_ltT hu pins s σ H _ _ v u Q I rx ry ⟨_, _, ns, ms, rfl, rfl, SqT.of (fz_ex _ _ h1), SqT.of (fz_ex _ _ h3), p.here s0 (RV.dat (Rp.bl _)) h⟩
  · exact h.elim
theorem or_le (hu : X.A.units < cLine) : OpR X (compareOp .LtE) (rD2 G leF) := by
  intro pins s σ H x y v u Q I rx ry h
  obtain ⟨dx, dy, m, R, s0, r1, r2, h, p⟩ := h
  unfold leF at h
  split at h
  · cases r1; cases r2
    exact op_le pins s σ H _ _ v u Q I rx ry ⟨_, _, rfl, rfl, p.here s0 (RV.dat (Rp.bl _)) h⟩
  · obtain ⟨ns, ms, rfl, rfl, h⟩ := h
    cases r1 with
    | tup h1 h2 =>
      cases r2 with
      | tup h3 h4 =>
        have e1 := h2.ints
        have e2 := h4.ints
        subst e1 e2
        exact op_leT hu pins s σ H _ _ v u Q I rx ry ⟨_, _, ns, ms, rfl, rfl, SqT.of (fz_ex _ _ h1), SqT.of (fz_ex _ _ h3), by
          have z := lexAt_le ns ms [] [] 0 rfl rfl
          rw [List.nil_append, List.nil_append] at z
          rw [z]
          exact p.here s0 (RV.dat (Rp.bl _)) h⟩
  · exact h.elim
theorem or_gt : OpR X (compareOp .Gt) (rD2 G gtF) := by
  intro pins s σ H x y v u Q I rx ry h
  obtain ⟨dx, dy, m, R, s0, r1, r2, h, p⟩ := h
  unfold gtF at h
  split at h
  · cases r1; cases r2
    exact op_gt pins s σ H _ _ v u Q I rx ry ⟨_, _, rfl, rfl, p.here s0 (RV.dat (Rp.bl _)) h⟩
  · exact h.elim
theorem or_ge : OpR X (compareOp .GtE) (rD2 G geF) := by
  intro pins s σ H x y v u Q I rx ry h
  obtain ⟨dx, dy, m, R, s0, r1, r2, h, p⟩ := h
  unfold geF at h
  split at h
  · cases r1; cases r2
    exact op_ge pins s σ H _ _ v u Q I rx ry ⟨_, _, rfl, rfl, p.here s0 (RV.dat (Rp.bl _)) h⟩
  · exact h.elim
theorem eqF_out {dx dy : DV} {m : Mu} {R : DV → Mu → Prop} (h : eqF dx dy m R) : ∃ a b, vw m dx = some a ∧ vw m dy = some b ∧ Sh 63 a ∧ Sh 63 b ∧ R (.d (.bl (eqD a b))) m := by
  unfold eqF at h
  split at h
  · exact ⟨_, _, rfl, rfl, h⟩
  · exact h
theorem neF_out {dx dy : DV} {m : Mu} {R : DV → Mu → Prop} (h : neF dx dy m R) : ∃ a b, vw m dx = some a ∧ vw m dy = some b ∧ Sh 63 a ∧ Sh 63 b ∧ R (.d (.bl (!eqD a b))) m := by
  unfold neF at h
  split at h
  · exact ⟨_, _, rfl, rfl, h⟩
  · exact h
theorem or_eq (hu : X.A.units + 64 < cLine) : OpR X (compareOp .Eq) (rD2 G eqF) := by
  intro pins s σ H x y v u Q I rx ry h
  obtain ⟨dx, dy, m, R, s0, r1, r2, h, p⟩ := h
  obtain ⟨a, b, e1, e2, h1, h2, h⟩ := eqF_out h
  exact op_eqD hu pins s σ H x y v u Q I rx ry ⟨_, _, Rp.dp _ _ (vw_rp s0 r1 e1), Rp.dp _ _ (vw_rp s0 r2 e2), h1.shaped, h2.shaped, p.here s0 (RV.dat (Rp.bl _)) h⟩
theorem or_ne (hu : X.A.units + 64 < cLine) : OpR X (compareOp .NotEq) (rD2 G neF) := by
  intro pins s σ H x y v u Q I rx ry h
  obtain ⟨dx, dy, m, R, s0, r1, r2, h, p⟩ := h
  obtain ⟨a, b, e1, e2, h1, h2, h⟩ := neF_out h
  exact op_neD hu pins s σ H x y v u Q I rx ry ⟨_, _, Rp.dp _ _ (vw_rp s0 r1 e1), Rp.dp _ _ (vw_rp s0 r2 e2), h1.shaped, h2.shaped, p.here s0 (RV.dat (Rp.bl _)) h⟩
theorem isNon_of {F : Hp} {v : V} {d : DV} (r : RV G F v d) : decide (v = .non) = isNon d := by
  cases d with
  | d x => cases r <;> rfl
  | r a => cases r; rfl
  | scr ns => obtain ⟨a, rfl, _⟩ := r; rfl
theorem or_is : OpR X (compareOp .Is) (rD2 G isF) := by
  intro pins s σ H x y v u Q I rx ry h
  obtain ⟨dx, dy, m, R, s0, r1, r2, h, p⟩ := h
  unfold isF at h
  split at h
  · cases r2
    exact op_isN pins s σ H _ _ v u Q I rx ry ⟨rfl, by rw [isNon_of r1]; exact p.here s0 (RV.dat (Rp.bl _)) h⟩
  · exact h.elim
theorem or_isnot : OpR X (compareOp .IsNot) (rD2 G isnotF) := by
  intro pins s σ H x y v u Q I rx ry h
  obtain ⟨dx, dy, m, R, s0, r1, r2, h, p⟩ := h
  unfold isnotF at h
  split at h
  · cases r2
    exact op_notN pins s σ H _ _ v u Q I rx ry ⟨rfl, by rw [isNon_of r1]; exact p.here s0 (RV.dat (Rp.bl _)) h⟩
  · exact h.elim
theorem any_toPy (x : D) : ∀ ys : List D, ((toPys ys).any fun z => PyData.eqv z (toPy x)) = ys.any fun y => eqD y x
  | [] => rfl
  | y :: ys => by rw [toPys, List.any_cons, List.any_cons, any_toPy x ys]; rfl
theorem Sh.lst {ys : List D} (h : ∀ y ∈ ys, Sh 62 y) : Sh 63 (.lst ys) := by unfold Sh; exact h
theorem Sh.tup {ys : List D} (h : ∀ y ∈ ys, Sh 62 y) : Sh 63 (.tup ys) := by unfold Sh; exact h
theorem inL {hu : X.A.units + 65 < cLine} {pins : List (Addr × Obj)} {s : Shared} {σ : L2.St} {H : Hp} {x y : V} {v u : Value} {Q : VK} (I : Inv X pins σ H s) (rx : RelV x v) (ry : RelV y u) {a : D} {ys : List D} (r1 : Rp H x a) (r2 : Rp H y (.lst ys)) (h1 : Sh 63 a) (h2 : ∀ y ∈ ys, Sh 62 y) (q : Q (.bl (ys.any fun y => eqD y a)) H) : wpAny (model X.prog X.w) X.A (compareOp .In v u) (EP X pins σ Q) X.xe s :=
  op_inD hu pins s σ H x y v u Q I rx ry ⟨toPy a, toPys ys, Rp.dp _ _ r1, by have z := Rp.dp (K := X.K) _ _ r2; rw [toPy] at z; exact z, h1.shaped, by have z := (Sh.lst h2).shaped; rw [toPy] at z; exact z, by rw [any_toPy]; exact q⟩
theorem notinL {hu : X.A.units + 65 < cLine} {pins : List (Addr × Obj)} {s : Shared} {σ : L2.St} {H : Hp} {x y : V} {v u : Value} {Q : VK} (I : Inv X pins σ H s) (rx : RelV x v) (ry : RelV y u) {a : D} {ys : List D} (r1 : Rp H x a) (r2 : Rp H y (.lst ys)) (h1 : Sh 63 a) (h2 : ∀ y ∈ ys, Sh 62 y) (q : Q (.bl (!ys.any fun y => eqD y a)) H) : wpAny (model X.prog X.w) X.A (compareOp .NotIn v u) (EP X pins σ Q) X.xe s :=
  op_notInD hu pins s σ H x y v u Q I rx ry ⟨toPy a, toPys ys, Rp.dp _ _ r1, by have z := Rp.dp (K := X.K) _ _ r2; rw [toPy] at z; exact z, h1.shaped, by have z := (Sh.lst h2).shaped; rw [toPy] at z; exact z, by rw [any_toPy]; exact q⟩
theorem or_in (hu : X.A.units + 65 < cLine) : OpR X (compareOp .In) (rD2 G inF) := by
  intro pins s σ H x y v u Q I rx ry h
  obtain ⟨dx, dy, m, R, s0, r1, r2, h, p⟩ := h
  unfold inF at h
  split at h
  · exact inL (hu := hu) I rx ry (vw_rp s0 r1 rfl) (vw_rp s0 r2 rfl) h.1 h.2.1 (p.here s0 (RV.dat (Rp.bl _)) h.2.2)
  · obtain ⟨as, q1⟩ := Dp.reads I _ x v (Rp.dp (K := X.K) _ _ (vw_rp s0 r1 rfl)) rx
    have z := Rp.dp (K := X.K) _ _ (vw_rp s0 r2 rfl)
    obtain ⟨bs, q2⟩ := Dp.reads I _ y u z ry
    rw [toPy] at q2
    have sh := (Sh.tup h.2.1).shaped
    rw [toPy] at sh
    refine SeqAt.in_tuple_reads q2 q1 (SeqAt.canLay_of_shaped sh) (SeqAt.canLay_of_shaped h.1.shaped) (PyProof.Rows.room_in_shaped h.1.shaped hu) ⟨.bl _, H, I, rfl, ?_⟩
    rw [any_toPy]
    exact p.here s0 (RV.dat (Rp.bl _)) h.2.2
  · cases r1; cases r2
    exact op_in_str pins s σ H _ _ v u Q I rx ry ⟨_, _, rfl, rfl, p.here s0 (RV.dat (Rp.bl _)) h⟩
  · obtain ⟨ys, e, h1, h2, h⟩ := h
    exact inL (hu := hu) I rx ry (vw_rp s0 r1 rfl) (vw_rp s0 r2 (vw_r e)) h1 h2 (p.here s0 (RV.dat (Rp.bl _)) h)
  · exact h.elim
theorem or_notin (hu : X.A.units + 65 < cLine) : OpR X (compareOp .NotIn) (rD2 G notinF) := by
  intro pins s σ H x y v u Q I rx ry h
  obtain ⟨dx, dy, m, R, s0, r1, r2, h, p⟩ := h
  unfold notinF at h
  split at h
  · exact notinL (hu := hu) I rx ry (vw_rp s0 r1 rfl) (vw_rp s0 r2 rfl) h.1 h.2.1 (p.here s0 (RV.dat (Rp.bl _)) h.2.2)
  · obtain ⟨as, q1⟩ := Dp.reads I _ x v (Rp.dp (K := X.K) _ _ (vw_rp s0 r1 rfl)) rx
    have z := Rp.dp (K := X.K) _ _ (vw_rp s0 r2 rfl)
    obtain ⟨bs, q2⟩ := Dp.reads I _ y u z ry
    rw [toPy] at q2
    have sh := (Sh.tup h.2.1).shaped
    rw [toPy] at sh
    refine SeqAt.notIn_tuple_reads q2 q1 (SeqAt.canLay_of_shaped sh) (SeqAt.canLay_of_shaped h.1.shaped) (PyProof.Rows.room_in_shaped h.1.shaped hu) ⟨.bl _, H, I, rfl, ?_⟩
    rw [any_toPy]
    exact p.here s0 (RV.dat (Rp.bl _)) h.2.2
  · cases r1; cases r2
    exact op_notin_str pins s σ H _ _ v u Q I rx ry ⟨_, _, rfl, rfl, p.here s0 (RV.dat (Rp.bl _)) h⟩
  · obtain ⟨ys, e, h1, h2, h⟩ := h
    exact notinL (hu := hu) I rx ry (vw_rp s0 r1 rfl) (vw_rp s0 r2 (vw_r e)) h1 h2 (p.here s0 (RV.dat (Rp.bl _)) h)
  · exact h.elim
theorem ur_neg : UnR X (unaryOp .USub) (rD1 G negF) := by
  intro pins s σ H x v Q I rx h
  obtain ⟨dx, m, R, s0, r1, h, p⟩ := h
  unfold negF at h
  split at h
  · cases r1
    exact un_neg pins s σ H _ v Q I rx ⟨_, rfl, p.here s0 (RV.dat (Rp.int _)) h⟩
  · exact h.elim
end
end Lb

/-! Lb2: built-ins, subscripts, slices, methods, tests by data. -/
namespace Lb
open PySem L2

/-! ### calls of built-ins -/
def lenF : FN
  | [.d (.lst xs)], m, R => R (.d (.int xs.length)) m
  | [.d (.tup xs)], m, R => R (.d (.int xs.length)) m
  | [.d (.str s)], m, R => s.length ≤ 100000 ∧ R (.d (.int s.length)) m
  | [.r a], m, R => ∃ xs, m a = some (.lst xs) ∧ R (.d (.int xs.length)) m
  | [.scr ns], m, R => R (.d (.int ns.length)) m
  | _, _, _ => False
def absF : FN
  | [.d (.int i)], m, R => R (.d (.int (if i < 0 then -i else i))) m
  | _, _, _ => False
def sumF : FN
  | [.d (.lst xs)], m, R => ∃ ns : List Int, xs = ns.map D.int ∧ R (.d (.int ns.sum)) m
  | [.d (.tup xs)], m, R => ∃ ns : List Int, xs = ns.map D.int ∧ R (.d (.int ns.sum)) m
  | _, _, _ => False
def minF : FN
  | [.d (.int i), .d (.int j)], m, R => R (.d (.int (if j < i then j else i))) m
  | [.d (.lst xs)], m, R => ∃ ns : List Int, xs = ns.map D.int ∧ 0 < ns.length ∧ ∀ k, k ∈ ns → (∀ y, y ∈ ns → k ≤ y) → R (.d (.int k)) m
  | [.r a], m, R => ∃ ns : List Int, m a = some (.lst (ns.map D.int)) ∧ 0 < ns.length ∧ ∀ k, k ∈ ns → (∀ y, y ∈ ns → k ≤ y) → R (.d (.int k)) m
  | _, _, _ => False
def maxF : FN
  | [.d (.int i), .d (.int j)], m, R => R (.d (.int (if j > i then j else i))) m
  | [.d (.lst xs)], m, R => ∃ ns : List Int, xs = ns.map D.int ∧ 0 < ns.length ∧ ∀ k, k ∈ ns → (∀ y, y ∈ ns → y ≤ k) → R (.d (.int k)) m
  | _, _, _ => False
def allF : FN
  | [.d (.lst xs)], m, R => ∃ bs : List Bool, xs = bs.map D.bl ∧ R (.d (.bl (bs.all id))) m
  | _, _, _ => False
def anyF : FN
  | [.d (.lst xs)], m, R => ∃ bs : List Bool, xs = bs.map D.bl ∧ R (.d (.bl (bs.any id))) m
  | _, _, _ => False
def listF : FN
  | [.d (.lst xs)], m, R => R (.d (.lst xs)) m
  | [.d (.tup xs)], m, R => R (.d (.lst xs)) m
  | [.r a], m, R => ∃ xs, m a = some (.lst xs) ∧ R (.d (.lst xs)) m
  | _, _, _ => False
def tupleF : FN
  | [.d (.lst xs)], m, R => R (.d (.tup xs)) m
  | [.d (.tup xs)], m, R => R (.d (.tup xs)) m
  | [.r a], m, R => ∃ xs, m a = some (.lst xs) ∧ R (.d (.tup xs)) m
  | _, _, _ => False
def intF : FN
  | [.d (.int i)], m, R => R (.d (.int i)) m
  | [.d (.bl b)], m, R => R (.d (.int (if b then 1 else 0))) m
  | _, _, _ => False
section
variable {X : Cx} {G : Ctx}
theorem sqL_of {H : Hp} {a : Addr} {xs : List D} (h : Rp H (.ref a) (.lst xs)) : ∃ vs, H a = some (.lst vs) ∧ RpL H vs xs := by
  cases h with
  | lst h1 h2 => exact ⟨_, h1, h2⟩
theorem cr_len (hK : X.K = G.K) : CallR X (.builtin "len") (rDn G lenF) := by
  intro pins s σ H xs us Q I r h
  obtain ⟨dx, m, R, s0, r1, h, p⟩ := h
  unfold lenF at h
  split at h
  · cases r1 with
    | cons q1 q2 =>
      cases q2
      cases q1 with
      | lst h1 h2 => exact call_len_seq pins s σ H _ us Q I r ⟨_, _, rfl, .inl (SqL.of (fz_ex _ _ h1)), p.here s0 (RV.dat (by rw [h2.length]; exact Rp.int _)) h⟩
  · cases r1 with
    | cons q1 q2 =>
      cases q2
      cases q1 with
      | tup h1 h2 => exact call_len_seq pins s σ H _ us Q I r ⟨_, _, rfl, .inr (SqT.of (fz_ex _ _ h1)), p.here s0 (RV.dat (by rw [h2.length]; exact Rp.int _)) h⟩
  · cases r1 with
    | cons q1 q2 =>
      cases q2
      cases q1
      exact call_len_str pins s σ H _ us Q I r ⟨_, rfl, sz_of h.1, p.here s0 (RV.dat (Rp.int _)) h.2⟩
  · obtain ⟨xs, e, h⟩ := h
    cases r1 with
    | cons q1 q2 =>
      cases q2
      cases q1
      obtain ⟨vs, h1, h2⟩ := s0 _ _ e
      exact call_len_seq pins s σ H _ us Q I r ⟨_, _, rfl, .inl (SqL.of h1), p.here s0 (RV.dat (by rw [h2.length]; exact Rp.int _)) h⟩
  · cases r1 with
    | cons q1 q2 =>
      cases q2
      obtain ⟨a, rfl, h1⟩ := q1
      have h2 := Same.seq (show Same (fz H m) H from fz_ex) h1
      rw [← hK] at h2
      refine call_len_seq pins s σ H _ us Q I r ⟨_, _, rfl, .inl h2, p.here s0 (RV.dat ?_) h⟩
      rw [List.length_map]; exact Rp.int _
  · exact h.elim
theorem cr_abs : CallR X (.builtin "abs") (rDn G absF) := by
  intro pins s σ H xs us Q I r h
  obtain ⟨dx, m, R, s0, r1, h, p⟩ := h
  unfold absF at h
  split at h
  · cases r1 with
    | cons q1 q2 =>
      cases q2
      cases q1
      exact call_abs pins s σ H _ us Q I r ⟨_, rfl, p.here s0 (RV.dat (Rp.int _)) h⟩
  · exact h.elim
theorem cr_sumTup (hc : X.calm = true) : CallR X (.builtin "sum") (fun xs H Q => ∃ (a : Addr) (ns : List Int), xs = [V.ref a] ∧ SqT X.K H a (ns.map V.int) ∧ Q (.int ns.sum) H) := by
  intro pins s σ H xs us Q I r h
  obtain ⟨a, ns, rfl, hs, q⟩ := h
  rw [Vals.ref1 r]
  obtain ⟨its, rv, ht, hz⟩ := I.tuple hs
  have hi := Vals.ints rv
  obtain ⟨zs, e⟩ := hi.allInts.items
  have hn : PySem.numsOf (PySem.intItems zs).toList = ns := by rw [← e]; exact hi.numsOf
  rw [PySem.nums_intItems] at hn
  have ht2 : s.heap.IsTuple a its.toArray := ht
  rw [e] at ht2
  refine PySem.W.ktm_sumG (I.ok.hd hc) ht2 fun h' tk t' hk => ?_
  rw [PySem.preSum_eq, List.take_of_length_le (by simp), hn]
  exact ⟨.int ns.sum, H, I.kept hk, ⟨_, rfl⟩, q⟩
theorem cr_sumD (hc : X.calm = true) : CallR X (.builtin "sum") (rDn G sumF) := by
  intro pins s σ H xs us Q I r h
  obtain ⟨dx, m, R, s0, r1, h, p⟩ := h
  unfold sumF at h
  split at h
  · obtain ⟨ns, rfl, h⟩ := h
    cases r1 with
    | cons q1 q2 =>
      cases q2
      cases q1 with
      | lst h1 h2 =>
        have e := h2.ints
        subst e
        exact cr_sum hc pins s σ H _ us Q I r ⟨_, ns, rfl, SqL.of (fz_ex _ _ h1), p.here s0 (RV.dat (Rp.int _)) h⟩
  · obtain ⟨ns, rfl, h⟩ := h
    cases r1 with
    | cons q1 q2 =>
      cases q2
      cases q1 with
      | tup h1 h2 =>
        have e := h2.ints
        subst e
        exact cr_sumTup hc pins s σ H _ us Q I r ⟨_, ns, rfl, SqT.of (fz_ex _ _ h1), p.here s0 (RV.dat (Rp.int _)) h⟩
  · exact h.elim
theorem cr_minD (hc : X.calm = true) : CallR X (.builtin "min") (rDn G minF) := by
  intro pins s σ H xs us Q I r h
  obtain ⟨dx, m, R, s0, r1, h, p⟩ := h
  unfold minF at h
  split at h
  · cases r1 with
    | cons q1 q2 =>
      cases q2 with
      | cons q2 q3 =>
        cases q3
        cases q1
        cases q2
        exact call_min2 hc pins s σ H _ us Q I r ⟨_, _, rfl, p.here s0 (RV.dat (Rp.int _)) h⟩
  · obtain ⟨ns, rfl, hl, h⟩ := h
    cases r1 with
    | cons q1 q2 =>
      cases q2
      cases q1 with
      | lst h1 h2 =>
        have e := h2.ints
        subst e
        exact cr_min hc pins s σ H _ us Q I r ⟨_, ns, rfl, SqL.of (fz_ex _ _ h1), hl, fun k hk hy => p.here s0 (RV.dat (Rp.int _)) (h k hk hy)⟩
  · obtain ⟨ns, e, hl, h⟩ := h
    cases r1 with
    | cons q1 q2 =>
      cases q2
      cases q1
      obtain ⟨vs, h1, h2⟩ := s0 _ _ e
      have e := h2.ints
      subst e
      exact cr_min hc pins s σ H _ us Q I r ⟨_, ns, rfl, SqL.of h1, hl, fun k hk hy => p.here s0 (RV.dat (Rp.int _)) (h k hk hy)⟩
  · exact h.elim
theorem cr_maxD (hc : X.calm = true) : CallR X (.builtin "max") (rDn G maxF) := by
  intro pins s σ H xs us Q I r h
  obtain ⟨dx, m, R, s0, r1, h, p⟩ := h
  unfold maxF at h
  split at h
  · cases r1 with
    | cons q1 q2 =>
      cases q2 with
      | cons q2 q3 =>
        cases q3
        cases q1
        cases q2
        exact call_max2 hc pins s σ H _ us Q I r ⟨_, _, rfl, p.here s0 (RV.dat (Rp.int _)) h⟩
  · obtain ⟨ns, rfl, hl, h⟩ := h
    cases r1 with
    | cons q1 q2 =>
      cases q2
      cases q1 with
      | lst h1 h2 =>
        have e := h2.ints
        subst e
        exact cr_max hc pins s σ H _ us Q I r ⟨_, ns, rfl, SqL.of (fz_ex _ _ h1), hl, fun k hk hy => p.here s0 (RV.dat (Rp.int _)) (h k hk hy)⟩
  · exact h.elim
theorem cr_allD (hc : X.calm = true) : CallR X (.builtin "all") (rDn G allF) := by
  intro pins s σ H xs us Q I r h
  obtain ⟨dx, m, R, s0, r1, h, p⟩ := h
  unfold allF at h
  split at h
  · obtain ⟨ns, rfl, h⟩ := h
    cases r1 with
    | cons q1 q2 =>
      cases q2
      cases q1 with
      | lst h1 h2 =>
        have e := h2.bls
        subst e
        exact cr_all hc pins s σ H _ us Q I r ⟨_, ns, rfl, SqL.of (fz_ex _ _ h1), p.here s0 (RV.dat (Rp.bl _)) h⟩
  · exact h.elim
theorem cr_anyD (hc : X.calm = true) : CallR X (.builtin "any") (rDn G anyF) := by
  intro pins s σ H xs us Q I r h
  obtain ⟨dx, m, R, s0, r1, h, p⟩ := h
  unfold anyF at h
  split at h
  · obtain ⟨ns, rfl, h⟩ := h
    cases r1 with
    | cons q1 q2 =>
      cases q2
      cases q1 with
      | lst h1 h2 =>
        have e := h2.bls
        subst e
        exact cr_any hc pins s σ H _ us Q I r ⟨_, ns, rfl, SqL.of (fz_ex _ _ h1), p.here s0 (RV.dat (Rp.bl _)) h⟩
  · exact h.elim
theorem cr_listD : CallR X (.type "list") (rDn G listF) := by
  intro pins s σ H xs us Q I r h
  obtain ⟨dx, m, R, s0, r1, h, p⟩ := h
  unfold listF at h
  split at h
  · cases r1 with
    | cons q1 q2 =>
      cases q2
      cases q1 with
      | lst h1 h2 => exact call_list_of pins s σ H _ us Q I r ⟨_, _, rfl, .inl (SqL.of (fz_ex _ _ h1)), fun l hl => p.lay s0 hl h2 h⟩
  · cases r1 with
    | cons q1 q2 =>
      cases q2
      cases q1 with
      | tup h1 h2 => exact call_list_of pins s σ H _ us Q I r ⟨_, _, rfl, .inr (SqT.of (fz_ex _ _ h1)), fun l hl => p.lay s0 hl h2 h⟩
  · obtain ⟨xs, e, h⟩ := h
    cases r1 with
    | cons q1 q2 =>
      cases q2
      cases q1
      obtain ⟨vs, h1, h2⟩ := s0 _ _ e
      exact call_list_of pins s σ H _ us Q I r ⟨_, _, rfl, .inl (SqL.of h1), fun l hl => p.lay s0 hl h2 h⟩
  · exact h.elim
theorem cr_tupleD : CallR X (.type "tuple") (rDn G tupleF) := by
  intro pins s σ H xs us Q I r h
  obtain ⟨dx, m, R, s0, r1, h, p⟩ := h
  unfold tupleF at h
  split at h
  · cases r1 with
    | cons q1 q2 =>
      cases q2
      cases q1 with
      | lst h1 h2 => exact call_tuple_of pins s σ H _ us Q I r ⟨_, _, rfl, .inl ⟨SqL.of (fz_ex _ _ h1), fun l hl => p.layT s0 hl h2 h⟩⟩
  · cases r1 with
    | cons q1 q2 =>
      cases q2
      cases q1 with
      | tup h1 h2 => exact call_tuple_of pins s σ H _ us Q I r ⟨_, _, rfl, .inr ⟨SqT.of (fz_ex _ _ h1), p.here s0 (RV.dat (Rp.tup h1 h2)) h⟩⟩
  · obtain ⟨xs, e, h⟩ := h
    cases r1 with
    | cons q1 q2 =>
      cases q2
      cases q1
      obtain ⟨vs, h1, h2⟩ := s0 _ _ e
      exact call_tuple_of pins s σ H _ us Q I r ⟨_, _, rfl, .inl ⟨SqL.of h1, fun l hl => p.layT s0 hl h2 h⟩⟩
  · exact h.elim
theorem cr_intD : CallR X (.type "int") (rDn G intF) := by
  intro pins s σ H xs us Q I r h
  obtain ⟨dx, m, R, s0, r1, h, p⟩ := h
  unfold intF at h
  split at h
  · cases r1 with
    | cons q1 q2 =>
      cases q2
      cases q1
      exact call_int1 pins s σ H _ us Q I r (.inl ⟨_, rfl, p.here s0 (RV.dat (Rp.int _)) h⟩)
  · cases r1 with
    | cons q1 q2 =>
      cases q2
      cases q1
      exact call_int1 pins s σ H _ us Q I r (.inr ⟨_, rfl, p.here s0 (RV.dat (Rp.int _)) h⟩)
  · exact h.elim
end

/-! ### subscripts -/
def idxF : F2
  | .d (.lst xs), .d (.int i), m, R => ∃ x, atI xs i = some x ∧ R (.d x) m
  | .d (.tup xs), .d (.int i), m, R => ∃ x, atI xs i = some x ∧ R (.d x) m
  | .d (.str s), .d (.int i), m, R => s.length ≤ 100000 ∧ ∃ c, atI s.cps.toList i = some c ∧ R (.d (.str ⟨#[c]⟩)) m
  | .r a, .d (.int i), m, R => ∃ xs, m a = some (.lst xs) ∧ ∃ x, atI xs i = some x ∧ R (.d x) m
  | .scr ns, .d (.int i), m, R => ∃ n, atI ns i = some n ∧ R (.d (.int n)) m
  | _, _, _, _ => False
theorem atI_map {α β : Type} {f : α → β} {xs : List α} {i : Int} {x : α} (h : atI xs i = some x) : atI (xs.map f) i = some (f x) := by
  unfold atI at h ⊢
  rw [List.length_map]
  cases e : ixN xs.length i with
  | none => rw [e] at h; cases h
  | some j =>
    rw [e] at h
    have h : xs[j]? = some x := h
    show (xs.map f)[j]? = some (f x)
    rw [List.getElem?_map, h]
    rfl
section
variable {X : Cx} {G : Ctx}
theorem ix_D (hK : X.K = G.K) : IxR X (rD2 G idxF) := by
  intro ve se pins s σ H x y v u Q I rx ry h hsub
  obtain ⟨dx, dy, m, R, s0, r1, r2, h, p⟩ := h
  unfold idxF at h
  split at h
  · obtain ⟨x, e, h⟩ := h
    cases r2
    cases r1 with
    | lst h1 h2 =>
      obtain ⟨z, e2, rz⟩ := atI_rp h2 e
      exact ix_list ve se pins s σ H _ _ v u Q I rx ry ⟨_, _, _, z, rfl, rfl, SqL.of (fz_ex _ _ h1), e2, p.here s0 (RV.dat rz) h⟩ hsub
  · obtain ⟨x, e, h⟩ := h
    cases r2
    cases r1 with
    | tup h1 h2 =>
      obtain ⟨z, e2, rz⟩ := atI_rp h2 e
      exact ix_tup ve se pins s σ H _ _ v u Q I rx ry ⟨_, _, _, z, rfl, rfl, SqT.of (fz_ex _ _ h1), e2, p.here s0 (RV.dat rz) h⟩ hsub
  · obtain ⟨hz, c, e, h⟩ := h
    cases r1; cases r2
    exact ix_str ve se pins s σ H _ _ v u Q I rx ry ⟨_, _, c, rfl, rfl, sz_of hz, e, p.here s0 (RV.dat (Rp.str _)) h⟩ hsub
  · obtain ⟨xs, em, x, e, h⟩ := h
    cases r2
    cases r1
    obtain ⟨vs, h1, h2⟩ := s0 _ _ em
    obtain ⟨z, e2, rz⟩ := atI_rp h2 e
    exact ix_list ve se pins s σ H _ _ v u Q I rx ry ⟨_, _, _, z, rfl, rfl, SqL.of h1, e2, p.here s0 (RV.dat rz) h⟩ hsub
  · obtain ⟨n, e, h⟩ := h
    cases r2
    obtain ⟨a, rfl, h1⟩ := r1
    have h2 := Same.seq (show Same (fz H m) H from fz_ex) h1
    rw [← hK] at h2
    exact ix_list ve se pins s σ H _ _ v u Q I rx ry ⟨_, _, _, _, rfl, rfl, h2, atI_map e, p.here s0 (RV.dat (Rp.int _)) h⟩ hsub
  · exact h.elim
end

/-! ### slices -/
def cut {α : Type} (xs : List α) (lo hi : Option Int) : List α := (xs.drop (HT.sIx xs.length 0 lo)).take (HT.sIx xs.length xs.length hi - HT.sIx xs.length 0 lo)
abbrev FS := DV → Option Int → Option Int → Mu → (DV → Mu → Prop) → Prop
def sliceF : FS
  | .d (.lst xs), lo, hi, m, R => R (.d (.lst (cut xs lo hi))) m
  | .d (.tup xs), lo, hi, m, R => R (.d (.tup (cut xs lo hi))) m
  | .r a, lo, hi, m, R => ∃ xs, m a = some (.lst xs) ∧ R (.d (.lst (cut xs lo hi))) m
  | .d (.str s), lo, hi, m, R => s.length ≤ 100000 ∧ R (.d (.str (cutS s lo hi))) m
  | _, _, _, _, _ => False
def rDS (G : Ctx) (f : FS) : V → Option Int → Option Int → Hp → VK → Prop := fun x lo hi H Q => ∃ dx m R, S0 G H m ∧ RV G (fz H m) x dx ∧ f dx lo hi m R ∧ Post G H m R Q
theorem cut_rp {F : Hp} {vs : List V} {xs : List D} {lo hi : Option Int} (r : RpL F vs xs) : RpL F (cutV vs lo hi) (cut xs lo hi) := by
  unfold cutV cut
  rw [r.length]
  exact (r.drop _).take _
theorem cut_whole {α : Type} {xs : List α} {lo hi : Option Int} (h : HT.sIx xs.length 0 lo = 0 ∧ HT.sIx xs.length xs.length hi = xs.length) : cut xs lo hi = xs := by
  unfold cut
  rw [h.1, h.2, List.drop_zero, Nat.sub_zero, List.take_length]
section
variable {X : Cx} {G : Ctx}
theorem sl_D : SlR X (rDS G sliceF) := by
  intro pins s σ H x v vl vu lo hi sl Q I rx hs pl pu h
  obtain ⟨dx, m, R, s0, r1, h, p⟩ := h
  unfold sliceF at h
  split at h
  · cases r1 with
    | lst h1 h2 => exact sl_list pins s σ H _ v vl vu _ _ sl Q I rx hs pl pu ⟨_, _, rfl, SqL.of (fz_ex _ _ h1), fun a ha => p.lay s0 ha (cut_rp h2) h⟩
  · cases r1 with
    | tup h1 h2 =>
      refine sl_tupA pins s σ H _ v vl vu _ _ sl Q I rx hs pl pu ⟨_, _, rfl, SqT.of (fz_ex _ _ h1), fun e => ?_, fun _ a ha => p.layT s0 ha (cut_rp h2) h⟩
      rw [h2.length] at e
      rw [cut_whole e] at h
      exact p.here s0 (RV.dat (Rp.tup h1 h2)) h
  · obtain ⟨xs, em, h⟩ := h
    cases r1
    obtain ⟨vs, h1, h2⟩ := s0 _ _ em
    exact sl_list pins s σ H _ v vl vu _ _ sl Q I rx hs pl pu ⟨_, _, rfl, SqL.of h1, fun a ha => p.lay s0 ha (cut_rp h2) h⟩
  · cases r1
    exact sl_str pins s σ H _ v vl vu _ _ sl Q I rx hs pl pu ⟨_, rfl, sz_of h.1, p.here s0 (RV.dat (Rp.str _)) h.2⟩
  · exact h.elim
end
section
variable {G : Ctx} {W : WX} {ds : DS} {m : Mu} {R : DV → Mu → Prop} {XR : Tag → Mu → Prop} {te tl th : TE}
/-- e[a:b], e[a:], e[:b], e[:] -/
theorem ev_sl2 {f : FS} (h : EvD G W te ds m (fun x m1 => EvD G W tl ds m1 (fun a m2 => ∃ i, a = .d (.int i) ∧ EvD G W th ds m2 (fun b m3 => ∃ j, b = .d (.int j) ∧ f x (some i) (some j) m3 R) XR) XR) XR) : EvD G W (tSl (rDS G f) te (tPart tl) (tPart th)) ds m R XR := fun σ H Q s r p x =>
  h σ H _ s r (fun v H1 d m1 t1 s1 r1 q1 => q1 σ H1 _ s1 (r.mono t1) (fun u H2 e m2 t2 s2 r2 ⟨i, ei, q2⟩ => by
    subst ei
    cases r2
    exact ⟨i, rfl, q2 σ H2 _ s2 (r.mono (t1.trans t2)) (fun w H3 e3 m3 t3 s3 r3 ⟨j, ej, q3⟩ => by
      subst ej
      cases r3
      exact ⟨j, rfl, d, m3, R, s3, (r1.mono t2).mono t3, q3, p.tr ((t1.trans t2).trans t3)⟩) (x.tr (t1.trans t2))⟩) (x.tr t1)) x
theorem ev_slA {f : FS} (h : EvD G W te ds m (fun x m1 => EvD G W tl ds m1 (fun a m2 => ∃ i, a = .d (.int i) ∧ f x (some i) none m2 R) XR) XR) : EvD G W (tSl (rDS G f) te (tPart tl) tNoPart) ds m R XR := fun σ H Q s r p x =>
  h σ H _ s r (fun v H1 d m1 t1 s1 r1 q1 => q1 σ H1 _ s1 (r.mono t1) (fun u H2 e m2 t2 s2 r2 ⟨i, ei, q2⟩ => by
    subst ei
    cases r2
    exact ⟨i, rfl, d, m2, R, s2, r1.mono t2, q2, p.tr (t1.trans t2)⟩) (x.tr t1)) x
theorem ev_slB {f : FS} (h : EvD G W te ds m (fun x m1 => EvD G W th ds m1 (fun a m2 => ∃ i, a = .d (.int i) ∧ f x none (some i) m2 R) XR) XR) : EvD G W (tSl (rDS G f) te tNoPart (tPart th)) ds m R XR := fun σ H Q s r p x =>
  h σ H _ s r (fun v H1 d m1 t1 s1 r1 q1 => q1 σ H1 _ s1 (r.mono t1) (fun u H2 e m2 t2 s2 r2 ⟨i, ei, q2⟩ => by
    subst ei
    cases r2
    exact ⟨i, rfl, d, m2, R, s2, r1.mono t2, q2, p.tr (t1.trans t2)⟩) (x.tr t1)) x
end

/-! ### truth -/
def truF : DV → Mu → (Bool → Mu → Prop) → Prop
  | .d .non, m, R => R false m
  | .d (.bl b), m, R => R b m
  | .d (.int i), m, R => R (i != 0) m
  | .d (.str s), m, R => s.length ≤ 100000 ∧ R ((s.length : Int) != 0) m
  | .d (.lst xs), m, R => R (!xs.isEmpty) m
  | .d (.tup xs), m, R => R (!xs.isEmpty) m
  | .r a, m, R => ∃ xs, m a = some (.lst xs) ∧ R (!xs.isEmpty) m
  | .scr ns, m, R => R (!ns.isEmpty) m
def tTru (K : PySem.W.Frag) (te : TE) : TT := fun σ H Q => te σ H fun x H' => ∃ k, TruV K x H' k ∧ Q k H'
theorem RpL.isEmpty {F : Hp} {vs : List V} {xs : List D} (r : RpL F vs xs) : vs.isEmpty = xs.isEmpty := by cases r <;> rfl
theorem et_tru {G : Ctx} {W : WX} {ds : DS} {m : Mu} {R : Bool → Mu → Prop} {XR : Tag → Mu → Prop} {te : TE} (h : EvD G W te ds m (fun d m1 => truF d m1 R) XR) : EvT G W (tTru G.K te) ds m R XR := fun σ H Q s r p x =>
  h σ H _ s r (fun v H1 d m1 t1 s1 r1 q1 => by
    have q1 : truF d m1 R := q1
    unfold truF at q1
    split at q1
    · cases r1; exact ⟨_, rfl, p _ _ _ t1 s1 q1⟩
    · cases r1; exact ⟨_, rfl, p _ _ _ t1 s1 q1⟩
    · cases r1; exact ⟨_, rfl, p _ _ _ t1 s1 q1⟩
    · cases r1; exact ⟨_, ⟨sz_of q1.1, rfl⟩, p _ _ _ t1 s1 q1.2⟩
    · cases r1 with
      | lst h1 h2 => exact ⟨_, .inl ⟨_, SqL.of (fz_ex _ _ h1), rfl⟩, by rw [h2.isEmpty]; exact p _ _ _ t1 s1 q1⟩
    · cases r1 with
      | tup h1 h2 => exact ⟨_, .inr (.inl ⟨_, SqT.of (fz_ex _ _ h1), rfl⟩), by rw [h2.isEmpty]; exact p _ _ _ t1 s1 q1⟩
    · obtain ⟨xs, e, q1⟩ := q1
      cases r1
      obtain ⟨vs, h1, h2⟩ := s1 _ _ e
      exact ⟨_, .inl ⟨_, SqL.of h1, rfl⟩, by rw [h2.isEmpty]; exact p _ _ _ t1 s1 q1⟩
    · obtain ⟨a, rfl, h1⟩ := r1
      refine ⟨_, .inl ⟨_, Same.seq (show Same (fz H1 _) H1 from fz_ex) h1, rfl⟩, ?_⟩
      rw [List.isEmpty_map]
      exact p _ _ _ t1 s1 q1) x

/-! ### chains of comparisons -/
def tChain3 (r r' r'' : R2) (ta tb tc td : TE) : TE := fun σ H Q => ta σ H fun x H1 => tb σ H1 fun y H2 => r x y H2 fun z H3 => ∃ k, z = .bl k ∧
  (if k = true then tc σ H3 fun w' H4 => r' y w' H4 (fun z H5 => ∃ k, z = .bl k ∧ (if k = true then td σ H5 fun w2 H6 => r'' w' w2 H6 Q else Q (.bl false) H5)) else Q (.bl false) H3)
section
variable {G : Ctx} {W : WX} {ds : DS} {m : Mu} {R : DV → Mu → Prop} {XR : Tag → Mu → Prop} {ta tb tc td : TE}
theorem ev_chain {f f' : F2} (h : EvD G W ta ds m (fun x m1 => EvD G W tb ds m1 (fun y m2 => f x y m2 (fun z m3 => ∃ k, z = .d (.bl k) ∧ if k = true then EvD G W tc ds m3 (fun w m4 => f' y w m4 R) XR else R (.d (.bl false)) m3)) XR) XR) :
    EvD G W (tChain (rD2 G f) (rD2 G f') ta tb tc) ds m R XR := fun σ H Q s r p x =>
  h σ H _ s r (fun v H1 d m1 t1 s1 r1 q1 => q1 σ H1 _ s1 (r.mono t1) (fun u H2 e m2 t2 s2 r2 q2 => ⟨d, e, m2, _, s2, r1.mono t2, r2, q2, fun z H3 dz m3 t3 s3 r3 ⟨k, ek, q3⟩ => by
    subst ek
    cases r3
    refine ⟨k, rfl, ?_⟩
    cases k with
    | true =>
      rw [if_pos rfl] at q3 ⊢
      exact q3 σ H3 _ s3 (r.mono ((t1.trans t2).trans t3)) (fun w H4 dw m4 t4 s4 r4 q4 => ⟨e, dw, m4, R, s4, (r2.mono t3).mono t4, r4, q4, p.tr (((t1.trans t2).trans t3).trans t4)⟩) (x.tr ((t1.trans t2).trans t3))
    | false =>
      rw [if_neg Bool.false_ne_true] at q3 ⊢
      exact p _ H3 _ m3 ((t1.trans t2).trans t3) s3 (RV.dat (Rp.bl _)) q3⟩) (x.tr t1)) x
theorem ev_chain3 {f f' f'' : F2} (h : EvD G W ta ds m (fun x m1 => EvD G W tb ds m1 (fun y m2 => f x y m2 (fun z m3 => ∃ k, z = .d (.bl k) ∧ if k = true then EvD G W tc ds m3 (fun w m4 => f' y w m4 (fun z m5 => ∃ k, z = .d (.bl k) ∧ if k = true then EvD G W td ds m5 (fun w2 m6 => f'' w w2 m6 R) XR else R (.d (.bl false)) m5)) XR else R (.d (.bl false)) m3)) XR) XR) :
    EvD G W (tChain3 (rD2 G f) (rD2 G f') (rD2 G f'') ta tb tc td) ds m R XR := fun σ H Q s r p x =>
  h σ H _ s r (fun v H1 d m1 t1 s1 r1 q1 => q1 σ H1 _ s1 (r.mono t1) (fun u H2 e m2 t2 s2 r2 q2 => ⟨d, e, m2, _, s2, r1.mono t2, r2, q2, fun z H3 dz m3 t3 s3 r3 ⟨k, ek, q3⟩ => by
    subst ek
    cases r3
    refine ⟨k, rfl, ?_⟩
    have t13 := (t1.trans t2).trans t3
    cases k with
    | true =>
      rw [if_pos rfl] at q3 ⊢
      exact q3 σ H3 _ s3 (r.mono t13) (fun w H4 dw m4 t4 s4 r4 q4 => ⟨e, dw, m4, _, s4, (r2.mono t3).mono t4, r4, q4, fun z5 H5 dz5 m5 t5 s5 r5 ⟨k5, ek5, q5⟩ => by
        subst ek5
        cases r5
        refine ⟨k5, rfl, ?_⟩
        cases k5 with
        | true =>
          rw [if_pos rfl] at q5 ⊢
          exact q5 σ H5 _ s5 (r.mono ((t13.trans t4).trans t5)) (fun w6 H6 dw6 m6 t6 s6 r6 q6 => ⟨dw, dw6, m6, R, s6, (r4.mono t5).mono t6, r6, q6, p.tr (((t13.trans t4).trans t5).trans t6)⟩) (x.tr ((t13.trans t4).trans t5))
        | false =>
          rw [if_neg Bool.false_ne_true] at q5 ⊢
          exact p _ H5 _ m5 ((t13.trans t4).trans t5) s5 (RV.dat (Rp.bl _)) q5⟩) (x.tr t13)
    | false =>
      rw [if_neg Bool.false_ne_true] at q3 ⊢
      exact p _ H3 _ m3 t13 s3 (RV.dat (Rp.bl _)) q3⟩) (x.tr t1)) x
/-- and, or, not as values -/
theorem ev_andV (h : EvD G W ta ds m (fun x m1 => ∃ c, x = .d (.bl c) ∧ if c = true then EvD G W tb ds m1 R XR else R (.d (.bl false)) m1) XR) : EvD G W (tAndV ta tb) ds m R XR := fun σ H Q s r p x =>
  h σ H _ s r (fun v H1 d m1 t1 s1 r1 ⟨c, e, q1⟩ => by
    subst e
    cases r1
    refine ⟨c, rfl, ?_⟩
    cases c with
    | true => rw [if_pos rfl] at q1 ⊢; exact q1 σ H1 Q s1 (r.mono t1) (p.tr t1) (x.tr t1)
    | false => rw [if_neg Bool.false_ne_true] at q1 ⊢; exact p _ H1 _ m1 t1 s1 (RV.dat (Rp.bl _)) q1) x
theorem ev_orV (h : EvD G W ta ds m (fun x m1 => ∃ c, x = .d (.bl c) ∧ if c = true then R (.d (.bl true)) m1 else EvD G W tb ds m1 R XR) XR) : EvD G W (tOrV ta tb) ds m R XR := fun σ H Q s r p x =>
  h σ H _ s r (fun v H1 d m1 t1 s1 r1 ⟨c, e, q1⟩ => by
    subst e
    cases r1
    refine ⟨c, rfl, ?_⟩
    cases c with
    | true => rw [if_pos rfl] at q1 ⊢; exact p _ H1 _ m1 t1 s1 (RV.dat (Rp.bl _)) q1
    | false => rw [if_neg Bool.false_ne_true] at q1 ⊢; exact q1 σ H1 Q s1 (r.mono t1) (p.tr t1) (x.tr t1)) x
theorem ev_notV (h : EvD G W ta ds m (fun x m1 => ∃ c, x = .d (.bl c) ∧ R (.d (.bl (!c))) m1) XR) : EvD G W (tNotV ta) ds m R XR := fun σ H Q s r p x =>
  h σ H _ s r (fun v H1 d m1 t1 s1 r1 ⟨c, e, q1⟩ => by
    subst e
    cases r1
    exact ⟨c, rfl, p _ H1 _ m1 t1 s1 (RV.dat (Rp.bl _)) q1⟩) x
end
section
variable {X : Cx} {a b c d : Expr} {ta tb tc td : TE} {pos : Pos}
open PySem.Spec PyProof.Rows in
theorem pe_chain3 {op op' op'' : CmpOp} {r r' r'' : R2} (ho : OpR X (compareOp op) r) (ho' : OpR X (compareOp op') r') (ho'' : OpR X (compareOp op'') r'') (ha : PE X a ta) (hb : PE X b tb) (hc : PE X c tc) (hd : PE X d td)
    (hm : lastMarks [op, op', op''] [b, c, d] = false := by with_unfolding_all rfl) : PE X (.Compare a [op, op', op''] [b, c, d] pos) (tChain3 r r' r'' ta tb tc td) := by
  refine ⟨fun pins s σ H Q I h => Compare_chain (thn (ha.run pins s σ H _ I h) fun v s1 ⟨x, H1, I1, r1, q1⟩ => chain_link (thn (hb.run pins s1 σ H1 _ I1 q1) fun u s2 ⟨y, H2, I2, r2, q2⟩ => thn (ho pins s2 σ H2 x y v u _ I2 r1 r2 q2) fun d s3 ⟨z, H3, I3, r3, k, e, q3⟩ => ?_)) hm⟩
  subst e
  cases r3
  refine wpAny_truthy_bool ?_
  cases k with
  | false => exact ite_ff ⟨.bl false, H3, I3, rfl, q3⟩
  | true =>
    refine ite_tt (chain_link (thn (hc.run pins s3 σ H3 _ I3 q3) fun w' s4 ⟨z', H4, I4, r4, q4⟩ => thn (ho' pins s4 σ H4 y z' u w' _ I4 r2 r4 q4) fun d s5 ⟨z5, H5, I5, r5, k5, e5, q5⟩ => ?_))
    subst e5
    cases r5
    refine wpAny_truthy_bool ?_
    cases k5 with
    | false => exact ite_ff ⟨.bl false, H5, I5, rfl, q5⟩
    | true => exact ite_tt (chain_last (thn (hd.run pins s5 σ H5 _ I5 q5) fun w6 s6 ⟨z6, H6, I6, r6, q6⟩ => ho'' pins s6 σ H6 z' z6 w' w6 Q I6 r4 r6 q6))
open PySem.Spec PyProof.Rows in
theorem pt_chain3 {op op' op'' : CmpOp} {r r' r'' : R2} (ho : OpR X (compareOp op) r) (ho' : OpR X (compareOp op') r') (ho'' : OpR X (compareOp op'') r'') (ha : PE X a ta) (hb : PE X b tb) (hc : PE X c tc) (hd : PE X d td)
    (hm : lastMarks [op, op', op''] [b, c, d] = false := by with_unfolding_all rfl) : PT X (.Compare a [op, op', op''] [b, c, d] pos) (tTest (tChain3 r r' r'' ta tb tc td)) := by
  refine ⟨fun pins s σ H Q I h => isTrue_chain (thn (ha.run pins s σ H _ I h) fun v s1 ⟨x, H1, I1, r1, q1⟩ => test_link (thn (hb.run pins s1 σ H1 _ I1 q1) fun u s2 ⟨y, H2, I2, r2, q2⟩ => thn (ho pins s2 σ H2 x y v u _ I2 r1 r2 q2) fun d s3 ⟨z, H3, I3, r3, k, e, q3⟩ => ?_)) hm⟩
  subst e
  cases r3
  refine wpAny_truthy_bool ?_
  cases k with
  | false =>
    obtain ⟨k', e', q'⟩ := q3
    cases e'
    exact ite_ff ⟨H3, I3, q'⟩
  | true =>
    refine ite_tt (test_link (thn (hc.run pins s3 σ H3 _ I3 q3) fun w' s4 ⟨z', H4, I4, r4, q4⟩ => thn (ho' pins s4 σ H4 y z' u w' _ I4 r2 r4 q4) fun d s5 ⟨z5, H5, I5, r5, k5, e5, q5⟩ => ?_))
    subst e5
    cases r5
    refine wpAny_truthy_bool ?_
    cases k5 with
    | false =>
      obtain ⟨k', e', q'⟩ := q5
      cases e'
      exact ite_ff ⟨H5, I5, q'⟩
    | true =>
      refine ite_tt (test_last (thn (hd.run pins s5 σ H5 _ I5 q5) fun w6 s6 ⟨z6, H6, I6, r6, q6⟩ => thn (ho'' pins s6 σ H6 z' z6 w' w6 _ I6 r4 r6 q6) fun d7 s7 ⟨z7, H7, I7, r7, k7, e7, q7⟩ => ?_))
      subst e7
      cases r7
      exact wpAny_truthy_bool ⟨H7, I7, q7⟩
end
end Lb

/-! Lb3: targets, loops, comprehensions, methods of lists. -/
namespace Lb
open PySem L2

/-! ### targets -/
def GtD (G : Ctx) (g : TG) (d : DV) (ds : DS) (m : Mu) (R : DS → Mu → Prop) : Prop := ∀ (σ : L2.St) (H : Hp) (Q : L2.St → Hp → Prop) (v : V), S0 G H m → REnv G (fz H m) σ ds → RV G (fz H m) v d → PostS G H m R Q → g v σ H Q
section
variable {G : Ctx} {W : WX} {ds : DS} {m : Mu} {R : DS → Mu → Prop} {N : EndsD} {XR : Tag → DS → Mu → Prop} {te to ti : TE} {d : DV}
theorem gt_name {i : Nat} (k : R (ds.set i (some d)) m) : GtD G (gName i) d ds m R := fun σ H Q v s r rv p => p _ H _ m (Ex.refl _) s (r.set i rv) k
theorem gt_tup2 {i j : Nat} {x y : D} (k : R ((ds.set i (some (.d x))).set j (some (.d y))) m) : GtD G (gTup G.K 2 (gCons (gName i) (gCons (gName j) gNil))) (.d (.tup [x, y])) ds m R := fun σ H Q v s r rv p => by
  cases rv with
  | tup h1 h2 =>
    cases h2 with
    | cons a1 h2 =>
      cases h2 with
      | cons a2 h2 =>
        cases h2
        exact ⟨_, _, rfl, SqT.of (fz_ex _ _ h1), rfl, _, _, rfl, _, _, rfl, rfl, p _ H _ m (Ex.refl _) s ((r.set i (RV.dat a1)).set j (RV.dat a2)) k⟩
theorem gt_tup3 {i j l : Nat} {x y z : D} (k : R (((ds.set i (some (.d x))).set j (some (.d y))).set l (some (.d z))) m) : GtD G (gTup G.K 3 (gCons (gName i) (gCons (gName j) (gCons (gName l) gNil)))) (.d (.tup [x, y, z])) ds m R := fun σ H Q v s r rv p => by
  cases rv with
  | tup h1 h2 =>
    cases h2 with
    | cons a1 h2 =>
      cases h2 with
      | cons a2 h2 =>
        cases h2 with
        | cons a3 h2 =>
          cases h2
          exact ⟨_, _, rfl, SqT.of (fz_ex _ _ h1), rfl, _, _, rfl, _, _, rfl, _, _, rfl, rfl, p _ H _ m (Ex.refl _) s (((r.set i (RV.dat a1)).set j (RV.dat a2)).set l (RV.dat a3)) k⟩
theorem st_asgG {g : TG} (h : EvD G W te ds m (fun d m1 => GtD G g d ds m1 N.nx) (fun t m1 => XR t ds m1)) : StD G W (tAsg te g) ds m N XR := fun σ H E s r p =>
  h σ H _ s r (fun v H1 d m1 t1 s1 r1 q1 => q1 σ H1 _ v s1 (r.mono t1) r1 (p.nx.tr t1)) (p.x r)
/-- o[i] = e -/
theorem st_setL (h : EvD G W te ds m (fun v m1 => EvD G W to ds m1 (fun o m2 => EvD G W ti ds m2 (fun i m3 => ∃ a xs k j x, o = .r a ∧ i = .d (.int k) ∧ v = .d x ∧ m3 a = some (.lst xs) ∧ ixN xs.length k = some j ∧ N.nx ds (mset m3 a (.lst (xs.set j x)))) (fun t m1 => XR t ds m1)) (fun t m1 => XR t ds m1)) (fun t m1 => XR t ds m1)) :
    StD G W (tAsg te (gSub to ti rSetL)) ds m N XR := fun σ H E s r p =>
  h σ H _ s r (fun v H1 d m1 t1 s1 r1 q1 => q1 σ H1 _ s1 (r.mono t1) (fun o H2 e m2 t2 s2 r2 q2 => q2 σ H2 _ s2 (r.mono (t1.trans t2)) (fun iv H3 f m3 t3 s3 r3 ⟨a, xs, k, j, x, e1, e2, e3, em, ej, q3⟩ => by
    subst e1 e2 e3
    cases r3
    cases r2
    obtain ⟨vs, h1, h2⟩ := s3 _ _ em
    refine ⟨a, vs, k, j, rfl, rfl, h1, by rw [h2.length]; exact ej, ?_⟩
    have r1' : Rp (fz H3 m3) v x := (r1.mono t2).mono t3
    obtain ⟨s4, t4⟩ := s3.put (p := a) (o := .lst (vs.set j v)) (x := .lst (xs.set j x)) (fz_some em) ⟨_, upd_same, RpL.set r1' j h2⟩
    have t14 := ((t1.trans t2).trans t3).trans t4
    exact p.nx _ _ _ _ t14 s4 (r.mono t14) q3) ((p.x r).tr (t1.trans t2))) ((p.x r).tr t1)) (p.x r)
end

/-! ### what is walked -/
structure ItD (G : Ctx) (J : It) (xs : List DV) (gd : Mu → Prop) (good : Hp → Mu → Prop) : Prop where
  go : ∀ (i : Nat) (H : Hp) (m : Mu), S0 G H m → good H m → i < xs.length → J.go i H
  yld : ∀ (i : Nat) (H : Hp) (m : Mu) (x : V) (H' : Hp), S0 G H m → good H m → J.yld i H x H' → i < xs.length → H' = H ∧ ∃ d, xs[i]? = some d ∧ RV G (fz H m) x d
  stop : ∀ (i : Nat) (H : Hp) (m : Mu), S0 G H m → good H m → xs.length ≤ i → J.stop i H
  keep : ∀ (H : Hp) (m : Mu) (H' : Hp) (m' : Mu), Tr H m H' m' → good H m → gd m' → good H' m'
def EvI (G : Ctx) (W : WX) (wi : TI) (ds : DS) (m : Mu) (R : List DV → (Mu → Prop) → Mu → Prop) (XR : Tag → Mu → Prop) : Prop :=
  ∀ (σ : L2.St) (H : Hp) (Q : It → Hp → Prop), S0 G H m → REnv G (fz H m) σ ds → (∀ J H1 m1 xs gd good, Tr H m H1 m1 → S0 G H1 m1 → ItD G J xs gd good → good H1 m1 → R xs gd m1 → Q J H1) → XPost G H m XR (fun c d H' => W c d σ H') → wi σ H Q
abbrev GT : Mu → Prop := fun _ => True
section
variable {G : Ctx} {W : WX} {ds : DS} {m : Mu} {R : List DV → (Mu → Prop) → Mu → Prop} {XR : Tag → Mu → Prop} {te : TE} {ta : TA}
theorem itd_list {a : Addr} {vs : List V} {xs : List D} : ItD G (Itl G.K a) (xs.map DV.d) GT (fun H m => fz H m a = some (.lst vs) ∧ RpL (fz H m) vs xs) where
  go := fun i H m s ⟨h1, h2⟩ hi => by
    rw [List.length_map, ← h2.length] at hi
    exact ⟨vs, vs[i], SqL.of (fz_ex _ _ h1), List.getElem?_eq_getElem hi⟩
  yld := fun i H m x H' s ⟨h1, h2⟩ ⟨e, h⟩ hi => by
    obtain ⟨d, e1, e2⟩ := h2.getV (h _ (SqL.of (fz_ex _ _ h1)))
    exact ⟨e, .d d, by rw [List.getElem?_map, e1]; rfl, e2⟩
  stop := fun i H m s ⟨h1, h2⟩ hi => ⟨vs, SqL.of (fz_ex _ _ h1), by rw [List.length_map] at hi; rw [h2.length]; exact hi⟩
  keep := fun H m H' m' t ⟨h1, h2⟩ _ => ⟨t _ _ h1, RpL.mono t _ _ h2⟩
theorem itd_tup {a : Addr} {vs : List V} {xs : List D} : ItD G (Itt G.K a) (xs.map DV.d) GT (fun H m => fz H m a = some (.tup vs) ∧ RpL (fz H m) vs xs) where
  go := fun i H m s ⟨h1, h2⟩ hi => by
    rw [List.length_map, ← h2.length] at hi
    exact ⟨vs, vs[i], SqT.of (fz_ex _ _ h1), List.getElem?_eq_getElem hi⟩
  yld := fun i H m x H' s ⟨h1, h2⟩ ⟨e, h⟩ hi => by
    obtain ⟨d, e1, e2⟩ := h2.getV (h _ (SqT.of (fz_ex _ _ h1)))
    exact ⟨e, .d d, by rw [List.getElem?_map, e1]; rfl, e2⟩
  stop := fun i H m s ⟨h1, h2⟩ hi => ⟨vs, SqT.of (fz_ex _ _ h1), by rw [List.length_map] at hi; rw [h2.length]; exact hi⟩
  keep := fun H m H' m' t ⟨h1, h2⟩ _ => ⟨t _ _ h1, RpL.mono t _ _ h2⟩
/-- a mutable list that the turns leave as it is -/
theorem itd_mut {a : Addr} {xs : List D} : ItD G (Itl G.K a) (xs.map DV.d) (fun m => m a = some (.lst xs)) (fun _ m => m a = some (.lst xs)) where
  go := fun i H m s h hi => by
    obtain ⟨vs, h1, h2⟩ := s _ _ h
    rw [List.length_map, ← h2.length] at hi
    exact ⟨vs, vs[i], SqL.of h1, List.getElem?_eq_getElem hi⟩
  yld := fun i H m x H' s h ⟨e, k⟩ hi => by
    obtain ⟨vs, h1, h2⟩ := s _ _ h
    obtain ⟨d, e1, e2⟩ := h2.getV (k _ (SqL.of h1))
    exact ⟨e, .d d, by rw [List.getElem?_map, e1]; rfl, e2⟩
  stop := fun i H m s h hi => by
    obtain ⟨vs, h1, h2⟩ := s _ _ h
    exact ⟨vs, SqL.of h1, by rw [List.length_map] at hi; rw [h2.length]; exact hi⟩
  keep := fun _ _ _ _ _ _ g => g
def rng (lo : Int) (n : Nat) : List DV := (List.range n).map fun i => DV.d (.int (lo + (i : Nat)))
theorem rng_len (lo : Int) (n : Nat) : (rng lo n).length = n := by unfold rng; rw [List.length_map, List.length_range]
theorem rng_get {lo : Int} {n i : Nat} (h : i < n) : (rng lo n)[i]? = some (.d (.int (lo + (i : Nat)))) := by
  unfold rng
  rw [List.getElem?_map, List.getElem?_range h]
  rfl
theorem itd_rng {lo : Int} {n : Nat} : ItD G (Itr lo n) (rng lo n) GT (fun _ _ => True) where
  go := fun i H m s _ hi => by rw [rng_len] at hi; exact hi
  yld := fun i H m x H' s _ ⟨e, h⟩ hi => by
    rw [rng_len] at hi
    subst h
    exact ⟨e, _, rng_get hi, RV.dat (Rp.int _)⟩
  stop := fun i H m s _ hi => by rw [rng_len] at hi; exact hi
  keep := fun _ _ _ _ _ _ _ => trivial
def signs (z : Str) : List D := z.cps.toList.map fun c => D.str ⟨#[c]⟩
theorem itd_str {z : Str} : ItD G (Its z) ((signs z).map DV.d) GT (fun _ _ => True) where
  go := fun i H m s _ hi => by
    rw [List.length_map, signs, List.length_map, Array.length_toList] at hi
    exact hi
  yld := fun i H m x H' s _ ⟨e, c, h1, h2⟩ hi => by
    subst h2
    refine ⟨e, .d (.str ⟨#[c]⟩), ?_, RV.dat (Rp.str _)⟩
    rw [List.getElem?_map, signs, List.getElem?_map, Array.getElem?_toList, h1]
    rfl
  stop := fun i H m s _ hi => by
    rw [List.length_map, signs, List.length_map, Array.length_toList] at hi
    exact hi
  keep := fun _ _ _ _ _ _ _ => trivial
theorem ei_list (h : EvD G W te ds m (fun d m1 => ∃ xs, d = .d (.lst xs) ∧ R (xs.map DV.d) GT m1) XR) : EvI G W (iList G.K te) ds m R XR := fun σ H Q s r p x =>
  h σ H _ s r (fun v H1 d m1 t1 s1 r1 ⟨xs, e, q⟩ => by
    subst e
    cases r1 with
    | lst h1 h2 => exact ⟨_, rfl, ⟨_, SqL.of (fz_ex _ _ h1)⟩, p _ _ m1 _ _ _ t1 s1 itd_list ⟨h1, h2⟩ q⟩) x
theorem ei_mut (h : EvD G W te ds m (fun d m1 => ∃ a xs, d = .r a ∧ m1 a = some (.lst xs) ∧ R (xs.map DV.d) (fun m => m a = some (.lst xs)) m1) XR) : EvI G W (iList G.K te) ds m R XR := fun σ H Q s r p x =>
  h σ H _ s r (fun v H1 d m1 t1 s1 r1 ⟨a, xs, e, em, q⟩ => by
    subst e
    cases r1
    obtain ⟨vs, h1, h2⟩ := s1 _ _ em
    exact ⟨_, rfl, ⟨_, SqL.of h1⟩, p _ _ m1 _ _ _ t1 s1 itd_mut em q⟩) x
theorem ei_tup (h : EvD G W te ds m (fun d m1 => ∃ xs, d = .d (.tup xs) ∧ R (xs.map DV.d) GT m1) XR) : EvI G W (iTup G.K te) ds m R XR := fun σ H Q s r p x =>
  h σ H _ s r (fun v H1 d m1 t1 s1 r1 ⟨xs, e, q⟩ => by
    subst e
    cases r1 with
    | tup h1 h2 => exact ⟨_, rfl, ⟨_, SqT.of (fz_ex _ _ h1)⟩, p _ _ m1 _ _ _ t1 s1 itd_tup ⟨h1, h2⟩ q⟩) x
theorem ei_str (h : EvD G W te ds m (fun d m1 => ∃ z, d = .d (.str z) ∧ R ((signs z).map DV.d) GT m1) XR) : EvI G W (iStr te) ds m R XR := fun σ H Q s r p x =>
  h σ H _ s r (fun v H1 d m1 t1 s1 r1 ⟨z, e, q⟩ => by
    subst e
    cases r1
    exact ⟨z, rfl, p _ _ m1 _ _ _ t1 s1 itd_str trivial q⟩) x
theorem ei_rng1 (h : EvA G W ta ds m (fun es m1 => ∃ n : Int, es = [.d (.int n)] ∧ -(2 ^ 62) ≤ n ∧ n < 2 ^ 62 ∧ R (rng 0 n.toNat) GT m1) XR) : EvI G W (iRng1 ta) ds m R XR := fun σ H Q s r p x =>
  h σ H _ s r (fun vs H1 es m1 t1 s1 r1 ⟨n, e, h1, h2, q⟩ => by
    subst e
    cases r1 with
    | cons a b =>
      cases b
      cases a
      exact ⟨n, rfl, h1, h2, p _ _ m1 _ _ _ t1 s1 itd_rng trivial q⟩) x
theorem ei_rng2 (h : EvA G W ta ds m (fun es m1 => ∃ i n : Int, es = [.d (.int i), .d (.int n)] ∧ (-(2 ^ 62) ≤ i ∧ i < 2 ^ 62 ∧ -(2 ^ 62) ≤ n ∧ n < 2 ^ 62) ∧ R (rng i (n - i).toNat) GT m1) XR) : EvI G W (iRng2 ta) ds m R XR := fun σ H Q s r p x =>
  h σ H _ s r (fun vs H1 es m1 t1 s1 r1 ⟨i, n, e, h1, q⟩ => by
    subst e
    cases r1 with
    | cons a b =>
      cases b with
      | cons b c =>
        cases c
        cases a
        cases b
        exact ⟨i, n, rfl, h1, p _ _ m1 _ _ _ t1 s1 itd_rng trivial q⟩) x
end

/-! ### for, while -/
section
variable {G : Ctx} {W : WX} {ds : DS} {m : Mu} {N : EndsD} {XR : Tag → DS → Mu → Prop} {wi : TI} {g : TG} {tb : TS} {c : TT}
theorem st_for (h : EvI G W wi ds m (fun xs gd m1 => ∃ P : Nat → DS → Mu → Prop, P 0 ds m1 ∧ (∀ i ds' m', P i ds' m' → gd m') ∧
      (∀ i x ds' m', xs[i]? = some x → P i ds' m' → GtD G g x ds' m' (fun ds2 m2 => StD G W tb ds2 m2 { nx := P (i + 1), rt := N.rt, bk := N.nx, ct := P (i + 1) } XR)) ∧
      (∀ ds' m', P xs.length ds' m' → N.nx ds' m')) (fun t m1 => XR t ds m1)) : StD G W (tFor wi g tb) ds m N XR := fun σ H E s r p =>
  h σ H _ s r (fun J H1 m1 xs gd good t1 s1 it g1 ⟨P, p0, pg, pt, pe⟩ => by
    refine ⟨fun i k σ' H' => k = xs.length - i ∧ i ≤ xs.length ∧ ∃ ds' m', Tr H m H' m' ∧ S0 G H' m' ∧ REnv G (fz H' m') σ' ds' ∧ good H' m' ∧ P i ds' m', ⟨xs.length, by simp, Nat.zero_le _, ds, m1, t1, s1, r.mono t1, g1, p0⟩, ?_⟩
    rintro i k σ' H' ⟨rfl, hi, ds', m', t', s', r', g', p'⟩
    by_cases hlt : i < xs.length
    · refine .inr ⟨it.go i H' m' s' g' hlt, fun σ2 H2 => ∃ ds2 m2, Tr H m H2 m2 ∧ S0 G H2 m2 ∧ REnv G (fz H2 m2) σ2 ds2 ∧ good H2 m2 ∧ P (i + 1) ds2 m2, fun σ2 H2 ⟨ds2, m2, q⟩ => ⟨xs.length - (i + 1), by omega, rfl, hlt, ds2, m2, q⟩, fun x H2 y => ?_⟩
      obtain ⟨rfl, d, ed, rd⟩ := it.yld i H' m' x H2 s' g' y hlt
      refine pt i d ds' m' ed p' σ' H2 _ x s' r' rd fun σ3 H3 ds3 m3 t3 s3 r3 q3 => ?_
      have fin : ∀ σ4 H4 ds4 m4, Tr H3 m3 H4 m4 → S0 G H4 m4 → REnv G (fz H4 m4) σ4 ds4 → P (i + 1) ds4 m4 → ∃ ds2 m2, Tr H m H4 m2 ∧ S0 G H4 m2 ∧ REnv G (fz H4 m2) σ4 ds2 ∧ good H4 m2 ∧ P (i + 1) ds2 m2 := fun σ4 H4 ds4 m4 t4 s4 r4 q4 =>
        ⟨ds4, m4, (t'.trans t3).trans t4, s4, r4, it.keep _ _ _ _ (t3.trans t4) g' (pg _ _ _ q4), q4⟩
      exact q3 σ3 H3 _ s3 r3 ⟨fun σ4 H4 ds4 m4 t4 s4 r4 q4 => fin σ4 H4 ds4 m4 t4 s4 r4 q4, (p.rt.tr t').tr t3, (p.nx.tr t').tr t3, fun σ4 H4 ds4 m4 t4 s4 r4 q4 => fin σ4 H4 ds4 m4 t4 s4 r4 q4, fun c hc σ4 H4 ds4 m4 t4 => p.xe c hc σ4 H4 ds4 m4 ((t'.trans t3).trans t4)⟩
    · have e : i = xs.length := by omega
      subst e
      exact .inl ⟨it.stop _ H' m' s' g' (Nat.le_refl _), p.nx σ' H' ds' m' t' s' r' (pe ds' m' p')⟩) (p.x r)
/-- over a list of things, by what was taken -/
theorem for_pre {α : Type} {ys : List α} {enc : α → DV} {gd : Mu → Prop} (P : List α → DS → Mu → Prop) (h0 : P [] ds m) (hg : ∀ pre ds' m', P pre ds' m' → gd m')
    (hs : ∀ pre y post ds' m', ys = pre ++ y :: post → P pre ds' m' → GtD G g (enc y) ds' m' (fun ds2 m2 => StD G W tb ds2 m2 { nx := P (pre ++ [y]), rt := N.rt, bk := N.nx, ct := P (pre ++ [y]) } XR)) (hd : ∀ ds' m', P ys ds' m' → N.nx ds' m') :
    ∃ P : Nat → DS → Mu → Prop, P 0 ds m ∧ (∀ i ds' m', P i ds' m' → gd m') ∧
      (∀ i x ds' m', (ys.map enc)[i]? = some x → P i ds' m' → GtD G g x ds' m' (fun ds2 m2 => StD G W tb ds2 m2 { nx := P (i + 1), rt := N.rt, bk := N.nx, ct := P (i + 1) } XR)) ∧
      (∀ ds' m', P (ys.map enc).length ds' m' → N.nx ds' m') := by
  refine ⟨fun i => P (ys.take i), h0, fun i ds' m' q => hg _ _ _ q, fun i x ds' m' hx q => ?_, fun ds' m' q => hd ds' m' (by rw [List.length_map, List.take_length] at q; exact q)⟩
  rw [List.getElem?_map] at hx
  cases e : ys[i]? with
  | none => rw [e] at hx; cases hx
  | some y =>
    rw [e] at hx
    cases hx
    obtain ⟨hi, e2⟩ := List.getElem?_eq_some_iff.mp e
    have e3 : ys.take (i + 1) = ys.take i ++ [y] := by rw [List.take_add_one, e]; rfl
    have h := hs (ys.take i) y (ys.drop (i + 1)) ds' m' (by rw [← e2, List.getElem_cons_drop, List.take_append_drop]) q
    rw [← e3] at h
    exact h
/-- while, by a measure -/
theorem st_while (P : Nat → DS → Mu → Prop) (k0 : Nat) (h0 : P k0 ds m)
    (hs : ∀ k ds' m', P k ds' m' → EvT G W c ds' m' (fun b m1 => if b = true then StD G W tb ds' m1 { nx := fun ds2 m2 => ∃ k', k' < k ∧ P k' ds2 m2, rt := N.rt, bk := N.nx, ct := fun ds2 m2 => ∃ k', k' < k ∧ P k' ds2 m2 } XR else N.nx ds' m1) (fun t m1 => XR t ds' m1)) : StD G W (tWhile c tb) ds m N XR := fun σ H E s r p => by
  refine ⟨fun k σ' H' => ∃ ds' m', Tr H m H' m' ∧ S0 G H' m' ∧ REnv G (fz H' m') σ' ds' ∧ P k ds' m', ⟨k0, ds, m, Ex.refl _, s, r, h0⟩, ?_⟩
  rintro k σ' H' ⟨ds', m', t', s', r', p'⟩
  refine hs k ds' m' p' σ' H' _ s' r' (fun b H1 m1 t1 s1 q1 => ?_) ((p.tr t').x r')
  cases b with
  | true =>
    rw [if_pos rfl] at q1 ⊢
    refine ⟨fun σ2 H2 => ∃ k', k' < k ∧ ∃ ds2 m2, Tr H m H2 m2 ∧ S0 G H2 m2 ∧ REnv G (fz H2 m2) σ2 ds2 ∧ P k' ds2 m2, fun σ2 H2 ⟨k', hk, q⟩ => ⟨k', hk, q⟩, ?_⟩
    have fin : ∀ σ4 H4 ds4 m4, Tr H1 m1 H4 m4 → S0 G H4 m4 → REnv G (fz H4 m4) σ4 ds4 → (∃ k', k' < k ∧ P k' ds4 m4) → ∃ k', k' < k ∧ ∃ ds2 m2, Tr H m H4 m2 ∧ S0 G H4 m2 ∧ REnv G (fz H4 m2) σ4 ds2 ∧ P k' ds2 m2 := fun σ4 H4 ds4 m4 t4 s4 r4 ⟨k', hk, q4⟩ =>
      ⟨k', hk, ds4, m4, (t'.trans t1).trans t4, s4, r4, q4⟩
    exact q1 σ' H1 _ s1 (r'.mono t1) ⟨fin, (p.rt.tr t').tr t1, (p.nx.tr t').tr t1, fin, fun c hc σ4 H4 ds4 m4 t4 => p.xe c hc σ4 H4 ds4 m4 ((t'.trans t1).trans t4)⟩
  | false =>
    rw [if_neg Bool.false_ne_true] at q1 ⊢
    exact p.nx σ' H1 ds' m1 (t'.trans t1) s1 (r'.mono t1) q1
end

/-! ### comprehensions -/
def wipeD (ds : DS) : List Nat → DS
  | [] => ds
  | v :: vs => (wipeD ds vs).set v none
end Lb

/-! Lb4: comprehensions, methods of lists, owned lists. -/
namespace Lb
open PySem L2

theorem wipe_get (σ : L2.St) (i : Nat) : ∀ vs : List Nat, (wipe σ vs)[i]? = if i ∈ vs then (if i < σ.length then some none else none) else σ[i]?
  | [] => by simp [wipe]
  | v :: vs => by
    unfold wipe
    by_cases e : v = i
    · subst e
      rw [if_pos List.mem_cons_self]
      by_cases h : v < σ.length
      · rw [if_pos h, List.getElem?_set_self (by rw [wipe_length]; exact h)]
      · rw [if_neg h, List.getElem?_eq_none (by rw [List.length_set, wipe_length]; omega)]
    · rw [List.getElem?_set_ne e, wipe_get σ i vs]
      have z : i ∈ v :: vs ↔ i ∈ vs := by
        rw [List.mem_cons]
        exact ⟨fun h => h.elim (fun q => absurd q.symm e) id, .inr⟩
      by_cases h : i ∈ vs
      · rw [if_pos h, if_pos (z.mpr h)]
      · rw [if_neg h, if_neg fun q => h (z.mp q)]
theorem wipe_set {σ : L2.St} {vs : List Nat} {j : Nat} (hj : j ∈ vs) (y : Option V) : wipe ((wipe σ vs).set j y) vs = wipe σ vs := by
  apply List.ext_getElem?
  intro i
  rw [wipe_get, wipe_get, List.length_set, wipe_length]
  by_cases h : i ∈ vs
  · rw [if_pos h, if_pos h]
  · rw [if_neg h, if_neg h, List.getElem?_set_ne (fun e => by rw [e] at hj; exact h hj), wipe_get, if_neg h]
theorem wipe_set2 {σ : L2.St} {vs : List Nat} {j l : Nat} (hj : j ∈ vs) (hl : l ∈ vs) (y z : Option V) : wipe (((wipe σ vs).set j y).set l z) vs = wipe σ vs := by
  apply List.ext_getElem?
  intro i
  rw [wipe_get, wipe_get, List.length_set, List.length_set, wipe_length]
  by_cases h : i ∈ vs
  · rw [if_pos h, if_pos h]
  · rw [if_neg h, if_neg h, List.getElem?_set_ne (fun e => by rw [e] at hl; exact h hl), List.getElem?_set_ne (fun e => by rw [e] at hj; exact h hj), wipe_get, if_neg h]
theorem REnv.wipe {G : Ctx} {F : Hp} {σ : L2.St} {ds : DS} (h : REnv G F σ ds) : ∀ vs : List Nat, REnv G F (L2.wipe σ vs) (wipeD ds vs)
  | [] => h
  | v :: vs => (REnv.wipe h vs).unset v

abbrev WF : WX := fun _ _ _ _ => False
abbrev XF : Tag → Mu → Prop := fun _ _ => False
/-- a store that holds more -/
def Ext (m M : Mu) : Prop := ∀ a o, m a = some o → M a = some o
theorem Ext.refl (m : Mu) : Ext m m := fun _ _ h => h
theorem Ext.put {m : Mu} {a : Addr} {o : MO} (h : m a = none) : Ext m (mset m a o) := fun b u e => by
  rw [mset_ne (fun z => by rw [z, h] at e; cases e)]
  exact e
/-- how a comprehension's target takes an item: slots of its own -/
inductive TgRun (K : PySem.W.Frag) (vs : List Nat) : TG → DV → DS → DS → Prop
  | name {j : Nat} {x : DV} {ds : DS} (h : j ∈ vs) : TgRun K vs (gName j) x ds (ds.set j (some x))
  | pair {i j : Nat} {a b : D} {ds : DS} (hi : i ∈ vs) (hj : j ∈ vs) : TgRun K vs (gTup K 2 (gCons (gName i) (gCons (gName j) gNil))) (.d (.tup [a, b])) ds ((ds.set i (some (.d a))).set j (some (.d b)))
/-- the turns of a comprehension that changes nothing -/
def LcOk (G : Ctx) (g : TG) (tt : TT) (te : TE) (vs : List Nat) (ds : DS) (m : Mu) (xs : List DV) (f : Nat → Option D) : Prop :=
  ∀ i x M, xs[i]? = some x → Ext m M → ∃ ds2, TgRun G.K vs g x (wipeD ds vs) ds2 ∧ EvT G WF tt ds2 M (fun b M3 => M3 = M ∧ if b = true then EvD G WF te ds2 M (fun y M4 => M4 = M ∧ ∃ z, y = .d z ∧ f i = some z) XF else f i = none) XF
section
variable {G : Ctx} {W : WX} {ds : DS} {m : Mu} {R : DV → Mu → Prop} {XR : Tag → Mu → Prop} {wi : TI} {g : TG} {tt : TT} {te : TE} {vs : List Nat}
theorem fm_succ (f : Nat → Option D) (i : Nat) : (List.range (i + 1)).filterMap f = (List.range i).filterMap f ++ (f i).toList := by
  rw [List.range_succ, List.filterMap_append]
  congr 1
theorem fm_len (f : Nat → Option D) (i : Nat) : ((List.range i).filterMap f).length ≤ i := by
  have := List.length_filterMap_le f (List.range i)
  rw [List.length_range] at this
  exact this
theorem lc_main (h : EvI G W wi ds m (fun xs gd m1 => (∀ M, Ext m1 M → gd M) ∧ ∃ f : Nat → Option D, LcOk G g tt te vs ds m1 xs f ∧ xs.length ≤ 50000 ∧
      ∀ a, m1 a = none → R (.d (.lst ((List.range xs.length).filterMap f))) m1 ∨ R (.r a) (mset m1 a (.lst ((List.range xs.length).filterMap f)))) XR) : EvD G W (tLc wi g tt te vs) ds m R XR := fun σ H Q s r p x =>
  h σ H _ s r (fun J H1 m1 xs gd good t1 s1 it g1 ⟨hgd, f, hf, hz, hR⟩ Dn hD => by
    have mD : m1 Dn = none := s1.free hD
    have fD : fz H1 m1 Dn = none := by rw [fz_none mD]; exact hD
    obtain ⟨s2, t2⟩ := s1.put (p := Dn) (o := .lst []) (x := .lst []) fD ⟨[], upd_same, .nil⟩
    refine ⟨fun i k H' => k = xs.length - i ∧ i ≤ xs.length ∧ S0 G H' (mset m1 Dn (.lst ((List.range i).filterMap f))) ∧ Tr H m H' (mset m1 Dn (.lst ((List.range i).filterMap f))) ∧ good H' (mset m1 Dn (.lst ((List.range i).filterMap f))),
      ⟨xs.length, by simp, Nat.zero_le _, s2, t1.trans t2, it.keep _ _ _ _ t2 g1 (hgd _ (Ext.put mD))⟩, ?_⟩
    rintro i k H' ⟨rfl, hi, s', t', g'⟩
    by_cases hlt : i < xs.length
    · refine .inr ⟨it.go i H' _ s' g' hlt, fun H2 => S0 G H2 (mset m1 Dn (.lst ((List.range (i + 1)).filterMap f))) ∧ Tr H m H2 (mset m1 Dn (.lst ((List.range (i + 1)).filterMap f))) ∧ good H2 (mset m1 Dn (.lst ((List.range (i + 1)).filterMap f))), fun H2 q => ⟨xs.length - (i + 1), by omega, rfl, hlt, q⟩, fun xv H2 y => ?_⟩
      obtain ⟨rfl, d, ed, rd⟩ := it.yld i H' _ xv H2 s' g' y hlt
      obtain ⟨ds2, tg, ev2⟩ := hf i d _ ed (Ext.put (o := .lst ((List.range i).filterMap f)) mD)
      have fin : ∀ (σ3 : L2.St) (ds3 : DS) (M3 : Mu) (_ : REnv G (fz H2 (mset m1 Dn (.lst ((List.range i).filterMap f)))) σ3 ds3) (_ : EvT G WF tt ds3 (mset m1 Dn (.lst ((List.range i).filterMap f))) (fun b M3 => M3 = mset m1 Dn (.lst ((List.range i).filterMap f)) ∧ if b = true then EvD G WF te ds3 (mset m1 Dn (.lst ((List.range i).filterMap f))) (fun y M4 => M4 = mset m1 Dn (.lst ((List.range i).filterMap f)) ∧ ∃ z, y = .d z ∧ f i = some z) XF else f i = none) XF),
          tt σ3 H2 fun b H3 => if b = true then te σ3 H3 fun y H4 => ∃ acc, H4 Dn = some (.lst acc) ∧ acc.length < sizeLine ∧ (S0 G (upd H4 Dn (.lst (acc ++ [y]))) (mset m1 Dn (.lst ((List.range (i + 1)).filterMap f))) ∧ Tr H m (upd H4 Dn (.lst (acc ++ [y]))) (mset m1 Dn (.lst ((List.range (i + 1)).filterMap f))) ∧ good (upd H4 Dn (.lst (acc ++ [y]))) (mset m1 Dn (.lst ((List.range (i + 1)).filterMap f)))) else
            (S0 G H3 (mset m1 Dn (.lst ((List.range (i + 1)).filterMap f))) ∧ Tr H m H3 (mset m1 Dn (.lst ((List.range (i + 1)).filterMap f))) ∧ good H3 (mset m1 Dn (.lst ((List.range (i + 1)).filterMap f)))) := fun σ3 ds3 _ r3 ev => by
        refine ev σ3 H2 _ s' r3 (fun b H3 M3 t3 s3 ⟨e3, q3⟩ => ?_) (fun _ _ _ _ _ _ z => z.elim)
        subst e3
        cases b with
        | true =>
          rw [if_pos rfl] at q3 ⊢
          refine q3 σ3 H3 _ s3 (r3.mono t3) (fun yv H4 dy M4 t4 s4 r4 ⟨e4, z, ez, fz'⟩ => ?_) (fun _ _ _ _ _ _ z => z.elim)
          subst e4 ez
          obtain ⟨acc, a1, a2⟩ := s4 Dn _ mset_same
          have e5 : (List.range (i + 1)).filterMap f = (List.range i).filterMap f ++ [z] := by rw [fm_succ, fz']; rfl
          obtain ⟨s5, t5⟩ := s4.put (p := Dn) (o := .lst (acc ++ [yv])) (x := .lst ((List.range (i + 1)).filterMap f)) (fz_some mset_same) ⟨_, upd_same, by rw [e5]; exact a2.app (RpL.one r4)⟩
          rw [mset_mset] at s5 t5
          refine ⟨acc, a1, sz_lt (by rw [a2.length]; have := fm_len f i; omega), s5, ((t'.trans t3).trans t4).trans t5, it.keep _ _ _ _ ((t3.trans t4).trans t5) g' (hgd _ (Ext.put mD))⟩
        | false =>
          rw [if_neg Bool.false_ne_true] at q3 ⊢
          have e5 : (List.range (i + 1)).filterMap f = (List.range i).filterMap f := by rw [fm_succ, q3]; exact List.append_nil _
          rw [e5]
          exact ⟨s3, t'.trans t3, it.keep _ _ _ _ t3 g' (hgd _ (Ext.put mD))⟩
      have rw0 : REnv G (fz H2 (mset m1 Dn (.lst ((List.range i).filterMap f)))) (L2.wipe σ vs) (wipeD ds vs) := (r.mono t').wipe vs
      cases tg with
      | name hj => exact ⟨wipe_set hj _, fin _ _ m1 (rw0.set _ rd) ev2⟩
      | pair hi hj =>
        cases rd with
        | tup h1 h2 =>
          cases h2 with
          | cons a1 h2 =>
            cases h2 with
            | cons a2 h2 =>
              cases h2
              exact ⟨_, _, rfl, SqT.of (fz_ex _ _ h1), rfl, _, _, rfl, _, _, rfl, rfl, wipe_set2 hi hj _ _, fin _ _ m1 ((rw0.set _ (RV.dat a1)).set _ (RV.dat a2)) ev2⟩
    · have e : i = xs.length := by omega
      subst e
      refine .inl ⟨it.stop _ H' _ s' g' (Nat.le_refl _), ?_⟩
      rcases hR Dn mD with q | q
      · obtain ⟨acc, a1, a2⟩ := s' Dn _ mset_same
        obtain ⟨s3, t3⟩ := s'.del (p := Dn)
        rw [mdel_mset mD] at s3 t3
        exact p _ H' _ m1 (t'.trans t3) s3 (RV.dat (Rp.lst (by rw [fz_none mD]; exact a1) (RpL.mono t3 _ _ a2))) q
      · exact p _ H' (.r Dn) _ t' s' rfl q) x
/-- typed: over things, each to data or to nothing -/
theorem lc_typed {α : Type} {ys : List α} {enc : α → DV} (F : α → Option D) (h : ∀ (i : Nat) (y : α) (M : Mu), ys[i]? = some y → Ext m M → ∃ ds2, TgRun G.K vs g (enc y) (wipeD ds vs) ds2 ∧ EvT G WF tt ds2 M (fun b M3 => M3 = M ∧ if b = true then EvD G WF te ds2 M (fun x M4 => M4 = M ∧ ∃ z, x = .d z ∧ F y = some z) XF else F y = none) XF) :
    LcOk G g tt te vs ds m (ys.map enc) (fun i => ys[i]?.bind F) := fun i x M hx hM => by
  rw [List.getElem?_map] at hx
  cases e : ys[i]? with
  | none => rw [e] at hx; cases hx
  | some y =>
    rw [e] at hx
    cases hx
    have k := h i y M e hM
    simp only [e, Option.bind_some]
    exact k
theorem lc_len {α : Type} (ys : List α) (F : α → Option D) : ∀ n, n ≤ ys.length → (List.range n).filterMap (fun i => ys[i]?.bind F) = (ys.take n).filterMap F
  | 0, _ => rfl
  | n + 1, h => by
    rw [fm_succ, lc_len ys F n (by omega), List.take_add_one, List.filterMap_append]
    have e : ys[n]? = some ys[n] := List.getElem?_eq_getElem (by omega)
    rw [e]
    rfl
theorem lc_all {α : Type} (ys : List α) (enc : α → DV) (F : α → Option D) : (List.range (ys.map enc).length).filterMap (fun i => ys[i]?.bind F) = ys.filterMap F := by
  rw [List.length_map, lc_len ys F _ (Nat.le_refl _), List.take_length]
/-- [e for x in ..] as data -/
theorem ev_lc (h : EvI G W wi ds m (fun xs gd m1 => (∀ M, Ext m1 M → gd M) ∧ ∃ (α : Type) (ys : List α) (enc : α → DV) (F : α → Option D), xs = ys.map enc ∧ ys.length ≤ 50000 ∧
      (∀ (i : Nat) (y : α) (M : Mu), ys[i]? = some y → Ext m1 M → ∃ ds2, TgRun G.K vs g (enc y) (wipeD ds vs) ds2 ∧ EvT G WF tt ds2 M (fun b M3 => M3 = M ∧ if b = true then EvD G WF te ds2 M (fun x M4 => M4 = M ∧ ∃ z, x = .d z ∧ F y = some z) XF else F y = none) XF) ∧ R (.d (.lst (ys.filterMap F))) m1) XR) : EvD G W (tLc wi g tt te vs) ds m R XR :=
  lc_main fun σ H Q s r p x => h σ H Q s r (fun J H1 m1 xs gd good t1 s1 it g1 ⟨hg, α, ys, enc, F, e, hz, hs, hR⟩ => by
    subst e
    exact p J H1 m1 _ gd good t1 s1 it g1 ⟨hg, _, lc_typed F hs, by rw [List.length_map]; exact hz, fun a _ => .inl (by rw [lc_all]; exact hR)⟩) x
/-- .. as a new list of our own -/
theorem ev_lcO (h : EvI G W wi ds m (fun xs gd m1 => (∀ M, Ext m1 M → gd M) ∧ ∃ (α : Type) (ys : List α) (enc : α → DV) (F : α → Option D), xs = ys.map enc ∧ ys.length ≤ 50000 ∧
      (∀ (i : Nat) (y : α) (M : Mu), ys[i]? = some y → Ext m1 M → ∃ ds2, TgRun G.K vs g (enc y) (wipeD ds vs) ds2 ∧ EvT G WF tt ds2 M (fun b M3 => M3 = M ∧ if b = true then EvD G WF te ds2 M (fun x M4 => M4 = M ∧ ∃ z, x = .d z ∧ F y = some z) XF else F y = none) XF) ∧ ∀ a, m1 a = none → R (.r a) (mset m1 a (.lst (ys.filterMap F)))) XR) : EvD G W (tLc wi g tt te vs) ds m R XR :=
  lc_main fun σ H Q s r p x => h σ H Q s r (fun J H1 m1 xs gd good t1 s1 it g1 ⟨hg, α, ys, enc, F, e, hz, hs, hR⟩ => by
    subst e
    exact p J H1 m1 _ gd good t1 s1 it g1 ⟨hg, _, lc_typed F hs, by rw [List.length_map]; exact hz, fun a ha => .inr (by rw [lc_all]; exact hR a ha)⟩) x
/-- a display as a new list of our own -/
theorem ev_lstO {t : TA} (h : EvA G W t ds m (fun es m1 => ∃ xs : List D, es = xs.map DV.d ∧ xs.length ≤ 100000 ∧ ∀ a, m1 a = none → R (.r a) (mset m1 a (.lst xs))) XR) : EvD G W (tLst t) ds m R XR := fun σ H Q s r p x =>
  h σ H _ s r (fun vs H1 es m1 t1 s1 r1 ⟨xs, e, l, q⟩ => by
    subst e
    have r2 := RVs.data r1
    refine ⟨sz_of (by rw [r2.length]; exact l), fun a ha => ?_⟩
    have ma := s1.free ha
    obtain ⟨s2, t2⟩ := s1.put (p := a) (o := .lst vs) (x := .lst xs) (by rw [fz_none ma]; exact ha) ⟨_, upd_same, r2⟩
    exact p _ _ (.r a) _ (t1.trans t2) s2 rfl (q a ma)) x
end

/-! ### operators that make lists of our own -/
theorem Post.own {G : Ctx} {H : Hp} {m : Mu} {R : DV → Mu → Prop} {Q : VK} (p : Post G H m R Q) (s : S0 G H m) {a : Addr} (ha : H a = none) {vs : List V} {xs : List D} (r : RpL (fz H m) vs xs) (k : ∀ b, m b = none → R (.r b) (mset m b (.lst xs))) : Q (.ref a) (upd H a (.lst vs)) := by
  have ma := s.free ha
  obtain ⟨s2, t2⟩ := s.put (p := a) (o := .lst vs) (x := .lst xs) (by rw [fz_none ma]; exact ha) ⟨_, upd_same, r⟩
  exact p _ _ (.r a) _ t2 s2 rfl (k a ma)
def mulO : F2
  | .d (.lst xs), .d (.int k), m, R => 0 ≤ k ∧ k ≤ 100000 ∧ xs.length * k.toNat ≤ 100000 ∧ ∀ a, m a = none → R (.r a) (mset m a (.lst (List.replicate k.toNat xs).flatten))
  | _, _, _, _ => False
def addO : F2
  | .d (.lst xs), .d (.lst ys), m, R => xs.length + ys.length ≤ 100000 ∧ ∀ a, m a = none → R (.r a) (mset m a (.lst (xs ++ ys)))
  | _, _, _, _ => False
def listO : FN
  | [.d (.lst xs)], m, R => ∀ a, m a = none → R (.r a) (mset m a (.lst xs))
  | [.d (.tup xs)], m, R => ∀ a, m a = none → R (.r a) (mset m a (.lst xs))
  | [.r b], m, R => ∃ xs, m b = some (.lst xs) ∧ ∀ a, m a = none → R (.r a) (mset m a (.lst xs))
  | _, _, _ => False
section
variable {X : Cx} {G : Ctx}
theorem or_mulO : OpR X (binaryOp .Mult) (rD2 G mulO) := by
  intro pins s σ H x y v u Q I rx ry h
  obtain ⟨dx, dy, m, R, s0, r1, r2, h, p⟩ := h
  unfold mulO at h
  split at h
  · cases r2
    cases r1 with
    | lst h1 h2 =>
      exact op_rep pins s σ H _ _ v u Q I rx ry ⟨_, _, _, rfl, rfl, fz_ex _ _ h1, by omega, by omega, sz_of (by rw [h2.length]; exact h.2.2.1), fun a ha => p.own s0 ha (h2.rep _) h.2.2.2⟩
  · exact h.elim
theorem or_addO : OpR X (binaryOp .Add) (rD2 G addO) := by
  intro pins s σ H x y v u Q I rx ry h
  obtain ⟨dx, dy, m, R, s0, r1, r2, h, p⟩ := h
  unfold addO at h
  split at h
  · cases r1 with
    | lst h1 h2 =>
      cases r2 with
      | lst h3 h4 =>
        exact op_cat pins s σ H _ _ v u Q I rx ry ⟨_, _, _, _, rfl, rfl, fz_ex _ _ h1, fz_ex _ _ h3, sz_of (by rw [h2.length, h4.length]; exact h.1), fun a ha => p.own s0 ha (h2.app h4) h.2⟩
  · exact h.elim
theorem cr_listO : CallR X (.type "list") (rDn G listO) := by
  intro pins s σ H xs us Q I r h
  obtain ⟨dx, m, R, s0, r1, h, p⟩ := h
  unfold listO at h
  split at h
  · cases r1 with
    | cons q1 q2 =>
      cases q2
      cases q1 with
      | lst h1 h2 => exact call_list_of pins s σ H _ us Q I r ⟨_, _, rfl, .inl (SqL.of (fz_ex _ _ h1)), fun l hl => p.own s0 hl h2 h⟩
  · cases r1 with
    | cons q1 q2 =>
      cases q2
      cases q1 with
      | tup h1 h2 => exact call_list_of pins s σ H _ us Q I r ⟨_, _, rfl, .inr (SqT.of (fz_ex _ _ h1)), fun l hl => p.own s0 hl h2 h⟩
  · obtain ⟨xs, e, h⟩ := h
    cases r1 with
    | cons q1 q2 =>
      cases q2
      cases q1
      obtain ⟨vs, h1, h2⟩ := s0 _ _ e
      exact call_list_of pins s σ H _ us Q I r ⟨_, _, rfl, .inl (SqL.of h1), fun l hl => p.own s0 hl h2 h⟩
  · exact h.elim
end

/-! ### methods of lists -/
abbrev FM := DV → List DV → Mu → (DV → Mu → Prop) → Prop
def rDM (G : Ctx) (f : FM) : V → List V → Hp → VK → Prop := fun x xs H Q => ∃ dx es m R, S0 G H m ∧ RV G (fz H m) x dx ∧ RVs G (fz H m) xs es ∧ f dx es m R ∧ Post G H m R Q
def isL : DV → Mu → Prop
  | .d (.lst _), _ => True
  | .r a, m => ∃ xs, m a = some (.lst xs)
  | _, _ => False
theorem isL_ty {G : Ctx} {H : Hp} {m : Mu} {v : V} {d : DV} (s : S0 G H m) (r : RV G (fz H m) v d) (h : isL d m) : tyV G.K "list" v H := by
  unfold isL at h
  split at h
  · cases r with
    | lst h1 h2 => exact .inl ⟨rfl, _, SqL.of (fz_ex _ _ h1)⟩
  · obtain ⟨xs, e⟩ := h
    cases r
    obtain ⟨vs, h1, h2⟩ := s _ _ e
    exact .inl ⟨rfl, _, SqL.of h1⟩
  · exact h.elim
section
variable {G : Ctx} {W : WX} {ds : DS} {m : Mu} {R : DV → Mu → Prop} {XR : Tag → Mu → Prop} {te : TE} {t : TA} {f : FM}
theorem ev_bmL (h : EvD G W te ds m (fun x m1 => isL x m1 ∧ EvA G W t ds m1 (fun es m2 => f x es m2 R) XR) XR) : EvD G W (tBM G.K "list" (rDM G f) te t) ds m R XR := fun σ H Q s r p x =>
  h σ H _ s r (fun v H1 d m1 t1 s1 r1 ⟨hl, q1⟩ => ⟨isL_ty s1 r1 hl, q1 σ H1 _ s1 (r.mono t1) (fun vs H2 es m2 t2 s2 r2 q2 => ⟨d, es, m2, R, s2, r1.mono t2, r2, q2, p.tr (t1.trans t2)⟩) (x.tr t1)⟩) x
theorem ev_bmL0 (h : EvD G W te ds m (fun x m1 => isL x m1 ∧ f x [] m1 R) XR) : EvD G W (tBM0 G.K "list" (rDM G f) te) ds m R XR := fun σ H Q s r p x =>
  h σ H _ s r (fun v H1 d m1 t1 s1 r1 ⟨hl, q1⟩ => ⟨isL_ty s1 r1 hl, d, [], m1, R, s1, r1, .nil, q1, p.tr t1⟩) x
end
def appendF : FM
  | .r a, [.d v], m, R => ∃ xs, m a = some (.lst xs) ∧ xs.length < 100000 ∧ R (.d .non) (mset m a (.lst (xs ++ [v])))
  | _, _, _, _ => False
def extendF : FM
  | .r a, [.d (.lst ys)], m, R => ∃ xs, m a = some (.lst xs) ∧ xs.length + ys.length ≤ 100000 ∧ R (.d .non) (mset m a (.lst (xs ++ ys)))
  | _, _, _, _ => False
def popF : FM
  | .r a, [], m, R => ∃ xs x, m a = some (.lst (xs ++ [x])) ∧ R (.d x) (mset m a (.lst xs))
  | _, _, _, _ => False
def countF : FM := fun x es m R => ∃ v ys, es = [.d v] ∧ vw m x = some (.lst ys) ∧ (∀ y ∈ ys, Sh 62 y) ∧ Sh 63 v ∧ R (.d (.int (ys.countP fun y => eqD y v : Nat))) m
def indexF : FM
  | x, [.d v], m, R => ∃ ys, vw m x = some (.lst ys) ∧ (∀ y ∈ ys, Sh 62 y) ∧ Sh 63 v ∧ ∃ j, ys.findIdx? (fun y => eqD y v) = some j ∧ R (.d (.int (j : Nat))) m
  | _, _, _, _ => False
section
variable {X : Cx} {G : Ctx}
theorem mt_appendD : MtR X "list.append" (rDM G appendF) := by
  intro pins s σ H x xs v us Q I rx rxs h
  obtain ⟨dx, es, m, R, s0, r1, r2, h, p⟩ := h
  unfold appendF at h
  split at h
  · obtain ⟨ys, e, hz, h⟩ := h
    cases r1
    cases r2 with
    | cons q1 q2 =>
      cases q2
      obtain ⟨vs, h1, h2⟩ := s0 _ _ e
      refine mt_append pins s σ H _ _ v us Q I rx rxs ⟨_, _, _, rfl, rfl, h1, sz_lt (by rw [h2.length]; exact hz), ?_⟩
      obtain ⟨s4, t4⟩ := s0.put (o := .lst (vs ++ [_])) (x := .lst (ys ++ [_])) (fz_some e) ⟨_, upd_same, h2.app (RpL.one q1)⟩
      exact p _ _ _ _ t4 s4 (RV.dat Rp.non) h
  · exact h.elim
theorem mt_extendD : MtR X "list.extend" (rDM G extendF) := by
  intro pins s σ H x xs v us Q I rx rxs h
  obtain ⟨dx, es, m, R, s0, r1, r2, h, p⟩ := h
  unfold extendF at h
  split at h
  · obtain ⟨ys, e, hz, h⟩ := h
    cases r1
    cases r2 with
    | cons q1 q2 =>
      cases q2
      cases q1 with
      | lst a1 a2 =>
        obtain ⟨vs, h1, h2⟩ := s0 _ _ e
        refine mt_extend pins s σ H _ _ v us Q I rx rxs ⟨_, _, _, _, rfl, rfl, h1, fz_ex _ _ a1, sz_of (by rw [h2.length, a2.length]; exact hz), ?_⟩
        obtain ⟨s4, t4⟩ := s0.put (o := .lst (vs ++ _)) (x := .lst (ys ++ _)) (fz_some e) ⟨_, upd_same, h2.app a2⟩
        exact p _ _ _ _ t4 s4 (RV.dat Rp.non) h
  · exact h.elim
theorem RpL.snoc {F : Hp} : ∀ {ys : List D} {vs : List V} {y : D}, RpL F vs (ys ++ [y]) → ∃ ws w, vs = ws ++ [w] ∧ RpL F ws ys ∧ Rp F w y
  | [], _, _, .cons h .nil => ⟨[], _, rfl, .nil, h⟩
  | z :: ys, _, y, .cons h t => by
    obtain ⟨ws, w, rfl, h1, h2⟩ := RpL.snoc (ys := ys) t
    exact ⟨_ :: ws, w, rfl, .cons h h1, h2⟩
theorem mt_popD : MtR X "list.pop" (rDM G popF) := by
  intro pins s σ H x xs v us Q I rx rxs h
  obtain ⟨dx, es, m, R, s0, r1, r2, h, p⟩ := h
  unfold popF at h
  split at h
  · obtain ⟨ys, y, e, h⟩ := h
    cases r1
    cases r2
    obtain ⟨vs, h1, h2⟩ := s0 _ _ e
    obtain ⟨ws, w, rfl, h3, h4⟩ := h2.snoc
    refine mt_pop pins s σ H _ _ v us Q I rx rxs ⟨_, _, w, rfl, rfl, h1, by simp, ?_⟩
    rw [List.dropLast_concat]
    obtain ⟨s4, t4⟩ := s0.put (o := .lst ws) (x := .lst ys) (fz_some e) ⟨_, upd_same, h3⟩
    exact p _ _ _ _ t4 s4 (RV.dat (Rp.mono t4 _ _ h4)) h
  · exact h.elim
theorem toPys_get : ∀ {xs : List D} {i : Nat} {z : PyData}, (toPys xs)[i]? = some z → ∃ x, xs[i]? = some x ∧ z = toPy x := fun {xs i z} h => by
  rw [toPys_map, List.getElem?_map] at h
  cases e : xs[i]? with
  | none => rw [e] at h; cases h
  | some x => rw [e] at h; exact ⟨x, rfl, (Option.some.inj h).symm⟩
theorem mt_indexF (hu : X.A.units + 65 < cLine) : MtR X "list.index" (rDM G indexF) := by
  intro pins s σ H x xs v us Q I rx rxs h
  obtain ⟨dx, es, m, R, s0, r1, r2, h, p⟩ := h
  unfold indexF at h
  split at h
  · obtain ⟨ys, e, h1, h2, j, hj, h⟩ := h
    cases r2 with
    | cons q1 q2 =>
      cases q2
      have rr := vw_rp s0 r1 e
      obtain ⟨hjl, hj1, hj2⟩ := List.findIdx?_eq_some_iff_getElem.mp hj
      cases rr with
      | lst a1 a2 =>
        have z := Rp.dp (K := X.K) _ _ (Rp.lst a1 a2)
        rw [toPy] at z
        have sh := (Sh.lst h1).shaped
        rw [toPy] at sh
        refine mt_indexD hu pins s σ H _ _ v us Q I rx rxs ⟨_, _, toPy _, toPys ys, j, toPy ys[j], rfl, rfl, z, Rp.dp _ _ (Rp.mono fz_ex _ _ q1), sh, h2.shaped, ?_, hj1, fun k z' hk hz => ?_, p.here s0 (RV.dat (Rp.int _)) h⟩
        · rw [toPys_map, List.getElem?_map, List.getElem?_eq_getElem hjl]
          rfl
        · obtain ⟨y, e1, rfl⟩ := toPys_get hz
          have k2 := hj2 k hk
          obtain ⟨hkl, e2⟩ := List.getElem?_eq_some_iff.mp e1
          rw [e2] at k2
          simpa [eqD] using k2
  · exact h.elim
end
end Lb

/-! Lb5: contracts, calls, raise, isinstance, an error that is kept. -/
namespace Lb
open PySem L2

/-! ### contracts -/
abbrev SpD := List DV → Mu → (DV → Mu → Prop) → (Tag → Mu → Prop) → Prop
def spL (G : Ctx) (S : SpD) : Sp := fun vs H Q E => ∃ es m R XR, S0 G H m ∧ RVs G (fz H m) vs es ∧ S es m R XR ∧ Post G H m R Q ∧ XPost G H m XR E
def startD (n : Nat) (es : List DV) : DS := es.map some ++ List.replicate (n - es.length) none
theorem REnv.start {G : Ctx} {F : Hp} {N : List Str} : ∀ {vs : List V} {es : List DV}, RVs G F vs es → REnv G F (L2.start N vs) (startD N.length es) := fun {vs es} h => by
  have hl : vs.length = es.length := PySem.Paired.length h
  unfold L2.start startD
  refine ⟨by simp [hl], fun i d q => ?_⟩
  by_cases hi : i < es.length
  · rw [List.getElem?_append_left (by rw [List.length_map]; exact hi), List.getElem?_map] at q
    have key : ∀ {vs : List V} {es : List DV} {i : Nat} {d : DV}, RVs G F vs es → es[i]? = some d → ∃ v, vs[i]? = some v ∧ RV G F v d := by
      intro vs es i d h
      induction h generalizing i with
      | nil => intro e; simp at e
      | cons r t ih =>
        cases i with
        | zero => intro e; simp at e; subst e; exact ⟨_, rfl, r⟩
        | succ i => intro e; simp at e; simpa using ih e
    cases e : es[i]? with
    | none => rw [e] at q; cases q
    | some d' =>
      rw [e] at q
      cases q
      obtain ⟨v, h1, h2⟩ := key h e
      exact ⟨v, by rw [List.getElem?_append_left (by rw [List.length_map, hl]; exact hi), List.getElem?_map, h1]; rfl, h2⟩
  · rw [List.getElem?_append_right (by rw [List.length_map]; omega), List.getElem?_replicate] at q
    split at q <;> cases q
/-- what a def's reading must do -/
def BodyD (G : Ctx) (n : Nat) (rd : WX → TS) (S : SpD) : Prop := ∀ (W : WX) (es : List DV) (m : Mu) (R : DV → Mu → Prop) (XR : Tag → Mu → Prop), S es m R XR →
  StD G W (rd W) (startD n es) m { nx := fun _ m' => R (.d .non) m', rt := R } (fun t _ m' => XR t m')
/-- a def's promise by its reading -/
theorem fn_D {P : Program} {w : World} {mg : Str → Option Value} {base : Heap} {G : Ctx} {x qual : Str} {st : Stmt} {f : Addr} {fd : FuncData} {N ps : List Str} {k : Nat} {S : SpD} {rd : WX → TS} (F : Fun G.K x qual st f fd) (sc : FnScope N ps (defScope st))
    (len : ∀ es m R XR, S es m R XR → es.length = ps.length) (sem : BodyD G N.length rd S)
    (hbody : ∀ (cdv : Value) (A : Around) (outer : List Env) (s : Shared) (H : Hp) (E : XK), Room k (A.deeper (PyProof.Rows.envOfC qual (defScope st) s.heap.objs.size f cdv)) →
      PSs (cxOf (L2.CX P w) P w G.K mg base N qual (defScope st) f cdv A outer s H E) (defBody st) (rd fun c d _ H' => E c d H')) : FnOk P w G.K mg base (L2.CX P w) (k + 1) f fd ps (spL G S) := by
  refine F.okX sc (fun vs H Q E h => ?_) (fun cdv A outer s H vs Q E hr h => ⟨_, hbody cdv A outer s H E hr, ?_⟩)
  · obtain ⟨es, m, R, XR, _, h2, h3, _⟩ := h
    rw [PySem.Paired.length h2]
    exact len es m R XR h3
  · obtain ⟨es, m, R, XR, h1, h2, h3, h4, h5⟩ := h
    exact sem (fun c d _ H' => E c d H') es m R XR h3 _ H _ h1 (REnv.start h2) ⟨fun σ H' ds m' t s' _ q => h4 _ H' _ m' t s' (RV.dat Rp.non) q, h4, fun _ _ _ _ _ _ _ z => z.elim, fun _ _ _ _ _ _ _ z => z.elim, fun t ht σ H' ds m' tr s' _ q => h5 t ht H' m' tr s' q⟩
section
variable {G : Ctx} {W : WX} {ds : DS} {m : Mu} {R : DV → Mu → Prop} {XR : Tag → Mu → Prop} {t : TA} {S : SpD}
theorem ev_call (h : EvA G W t ds m (fun es m1 => S es m1 R XR) XR) : EvD G W (tCallS (spL G S) (WE W) t) ds m R XR := fun σ H Q s r p x =>
  h σ H _ s r (fun vs H1 es m1 t1 s1 r1 q1 => ⟨es, m1, R, XR, s1, r1, q1, p.tr t1, x.tr t1⟩) x
end
/-- raise -/
def tRaise (W : WX) (b : Bool) (C : Addr) : TS := fun _ σ H => b = true → W (.ref C) none σ H
theorem st_raise {G : Ctx} {W : WX} {ds : DS} {m : Mu} {N : EndsD} {XR : Tag → DS → Mu → Prop} {t : Tag} (k : XR t ds m) : StD G W (tRaise W (G.has t) (G.ex t)) ds m N XR := fun σ H E s r p hh => p.xe t hh σ H ds m (Ex.refl _) s r k
theorem ps_raiseD {X : Cx} {W : WX} {x z : Str} {j : Nat} {p p2 pos pos' : Pos} {C : Addr} {b : Bool} (hc : X.calm = true) (tk : Takes X W) (hb : b = true) (q : PySem.W.excIn X.K C [.type "ValueError", .type "Exception", .type "BaseException", .type "object"] "ValueError.__new__" = true) (gC : X.mg x = some (.ref C)) (kC : PySem.W.keepIn X.K (.ref C) = true) (b1 : PySem.W.subIn X.K (.ref C) (.type "BaseException") = some true) (ty : PySem.W.typeIn X.K (.ref C) = some (.type "type"))
    (hg : Gl X x) (hdb : (x == ("__debug__" : Str)) = false := by decide) : PS X (.Raise (some (.Call (.Name x p) [.Constant (.str z) j p2] [] pos)) none pos') (tRaise W b C) := by
  have k := ps_raise hc tk (pmk_own PySem.F.excBase_ValueError q gC kC (raises_own b1 ty) hg hdb) (pos := pos') (e := .Call (.Name x p) [.Constant (.str z) j p2] [] pos)
  exact ⟨fun pins s σ H D I h => k.run pins s σ H D I (h hb)⟩

/-! ### isinstance -/
def tyD : DV → Mu → Option String
  | .d .non, _ => some "NoneType"
  | .d (.bl _), _ => some "bool"
  | .d (.int _), _ => some "int"
  | .d (.str _), _ => some "str"
  | .d (.lst _), _ => some "list"
  | .d (.tup _), _ => some "tuple"
  | .r a, m => match m a with
    | some (.lst _) => some "list"
    | _ => none
  | .scr _, _ => none
theorem tyD_of {G : Ctx} {H : Hp} {m : Mu} {v : V} {d : DV} {T : String} (s : S0 G H m) (r : RV G (fz H m) v d) (h : tyD d m = some T) : TyX G.K H v (.type T) := by
  unfold tyD at h
  split at h
  · cases h; cases r; exact .base .non
  · cases h; cases r; exact .base (.bl _)
  · cases h; cases r; exact .base (.int _)
  · cases h; cases r; exact .base (.str _)
  · cases h
    cases r with
    | lst h1 h2 => exact .base (.lst (fz_ex _ _ h1))
  · cases h
    cases r with
    | tup h1 h2 => exact .base (.tup (fz_ex _ _ h1))
  · split at h
    · rename_i e
      cases h
      cases r
      obtain ⟨vs, h1, h2⟩ := s _ _ e
      exact .base (.lst h1)
    · cases h
  · cases h
/-- isinstance(e, T), T a built-in class -/
def rIsB (G : Ctx) (T : String) : List V → Hp → VK → Prop := fun xs H Q => ∃ x dx m, xs = [x, .ty T] ∧ S0 G H m ∧ RV G (fz H m) x dx ∧ ∃ U b, tyD dx m = some U ∧ kitB U T = some b ∧ Q (.bl b) H
theorem cr_isB {X : Cx} {G : Ctx} (hK : X.K = G.K) {T : String} : CallR X (.builtin "isinstance") (rIsB G T) := by
  intro pins s σ H xs us Q I r h
  obtain ⟨x, dx, m, rfl, s0, r1, U, b, e1, e2, q⟩ := h
  exact call_isi pins s σ H _ us Q I r ⟨_, _, .type U, .type T, b, rfl, .ty T, by rw [hK]; exact tyD_of s0 r1 e1, kit_ty e2, q⟩
theorem ev_isB {G : Ctx} {W : WX} {ds : DS} {m : Mu} {R : DV → Mu → Prop} {XR : Tag → Mu → Prop} {te : TE} {T : String} (h : EvD G W te ds m (fun d m1 => ∃ U b, tyD d m1 = some U ∧ kitB U T = some b ∧ R (.d (.bl b)) m1) XR) :
    EvD G W (tCB (rIsB G T) (tCons te (tCons (tC (.ty T)) tNil))) ds m R XR := fun σ H Q s r p x =>
  h σ H _ s r (fun v H1 d m1 t1 s1 r1 ⟨U, b, e1, e2, q⟩ => ⟨v, d, m1, rfl, s1, r1, U, b, e1, e2, p _ H1 _ m1 t1 s1 (RV.dat (Rp.bl _)) q⟩) x
/-- the classes of errors, as the top has made them -/
structure ExcT (G : Ctx) : Prop where
  ec : ∀ t, G.has t = true → ExcC G.K (G.ex t)
  kit : ∀ t u, G.has t = true → G.has u = true → PySem.W.kitOne G.K (.ref (G.ex t)) (.ref (G.ex u)) = some (decide (t = u))
  val : ∀ t, G.has t = true → PySem.W.kitOne G.K (.ref (G.ex t)) (.type "ValueError") = some true
def isEF (u : Tag) : DV → Mu → (DV → Mu → Prop) → Prop
  | .r a, m, R => ∃ t, m a = some (.exc t) ∧ R (.d (.bl (decide (t = u)))) m
  | _, _, _ => False
def isVF : DV → Mu → (DV → Mu → Prop) → Prop
  | .r a, m, R => ∃ t, m a = some (.exc t) ∧ R (.d (.bl true)) m
  | _, _, _ => False
/-- isinstance(e, C), e an error of ours -/
def rIsE1 (G : Ctx) (c : V) (f : DV → Mu → (DV → Mu → Prop) → Prop) : List V → Hp → VK → Prop := fun xs H Q => ∃ x dx m R, xs = [x, c] ∧ S0 G H m ∧ RV G (fz H m) x dx ∧ f dx m R ∧ Post G H m R Q
theorem isE_at {X : Cx} {G : Ctx} (hK : X.K = G.K) {pins : List (Addr × Obj)} {s : Shared} {σ : L2.St} {H : Hp} (I : L2.Inv X pins σ H s) {a C : Addr} (h : H a = some (ExA C a)) (ec : ExcC X.K C) {cv : Value} {b : Bool} (e : PySem.W.kitOne X.K (.ref C) cv = some b) {Q : VK} (q : Q (.bl b) H) :
    wpAny (model X.prog X.w) X.A (call (.builtin "isinstance") [.ref a, cv]) (EP X pins σ Q) X.xe s := by
  obtain ⟨⟨oe, hget, hz, vs, hv⟩, _, _⟩ := I.hok a _ h
  have J : PySem.W.InstAt s.heap a oe C none := by
    obtain ⟨oc, od, oda, osl⟩ := oe
    obtain ⟨z1, z2⟩ := hz
    dsimp only at z1 z2 hv
    subst z1 z2 hv
    exact ⟨hget, rfl, rfl, trivial⟩
  exact PySem.W.kia_one (PySem.W.handS_kitx_exc ec.hg ec.hk ec.hs ec.hd ec.ha ec.hn ec.ht ec.hm) I.kIn J e (fun z => nomatch z) fun tk => ⟨.bl b, H, I.kept (t' := tk) fun _ _ z => z, rfl, q⟩
theorem cr_isE {X : Cx} {G : Ctx} (hK : X.K = G.K) (T : ExcT G) (u : Tag) (hu : G.has u = true) : CallR X (.builtin "isinstance") (rIsE1 G (.ref (G.ex u)) (isEF u)) := by
  intro pins s σ H xs us Q I r h
  obtain ⟨x, dx, m, R, rfl, s0, r1, h, p⟩ := h
  obtain ⟨u1, u2, rfl, q1, q2⟩ := vals2 r
  cases q2
  unfold isEF at h
  split at h
  · obtain ⟨t, e, h⟩ := h
    cases r1
    cases q1
    exact isE_at hK I (s0 _ _ e).1 (by rw [hK]; exact T.ec t (s0 _ _ e).2) (by rw [hK]; exact T.kit t u (s0 _ _ e).2 hu) (p.here s0 (RV.dat (Rp.bl _)) h)
  · exact h.elim
theorem cr_isV {X : Cx} {G : Ctx} (hK : X.K = G.K) (T : ExcT G) : CallR X (.builtin "isinstance") (rIsE1 G (.ty "ValueError") isVF) := by
  intro pins s σ H xs us Q I r h
  obtain ⟨x, dx, m, R, rfl, s0, r1, h, p⟩ := h
  obtain ⟨u1, u2, rfl, q1, q2⟩ := vals2 r
  cases q2
  unfold isVF at h
  split at h
  · obtain ⟨t, e, h⟩ := h
    cases r1
    cases q1
    exact isE_at hK I (s0 _ _ e).1 (by rw [hK]; exact T.ec t (s0 _ _ e).2) (by rw [hK]; exact T.val t (s0 _ _ e).2) (p.here s0 (RV.dat (Rp.bl _)) h)
  · exact h.elim
theorem ev_isE {G : Ctx} {W : WX} {ds : DS} {m : Mu} {R : DV → Mu → Prop} {XR : Tag → Mu → Prop} {te : TE} {c : V} {f : DV → Mu → (DV → Mu → Prop) → Prop} (h : EvD G W te ds m (fun d m1 => f d m1 R) XR) :
    EvD G W (tCB (rIsE1 G c f) (tCons te (tCons (tC c) tNil))) ds m R XR := fun σ H Q s r p x =>
  h σ H _ s r (fun v H1 d m1 t1 s1 r1 q => ⟨v, d, m1, R, rfl, s1, r1, q, p.tr t1⟩) x
end Lb

/-! Lb6: try: .. except X as e: kept = e: the error is kept as an object of ours. -/
namespace Lb
open PySem L2

/-- an object that was made behind the entry is tracked from now on -/
theorem adopt {X : Cx} {pins : List (Addr × Obj)} {σ : L2.St} {H : Hp} {s : Shared} {a : Addr} {o : HO} {oe : Obj} {vs : Array Value} (I : L2.Inv X pins σ H s) (h1 : s.heap.get? a = some oe) (h2 : oe.data = .fields vs) (hn : H a = none) (h0 : X.s_0.heap.get? a = none) (hL : a ≠ X.env.locals) (hp : ∀ p ∈ X.pn ++ pins, p.1 ≠ a)
    (new : ObjOk X.prog X.w (upd H a o) s.heap a o) : L2.Inv X pins σ (upd H a o) s := by
  have n0 : ∀ b ob, X.s_0.heap.get? b = some ob → b ≠ a := fun b ob e z => by rw [z, h0] at e; cases e
  have nc : ∀ x c, X.env.cells.lookup x = some c → c ≠ a := fun x c e z => by
    obtain ⟨v, oc, g1, g2⟩ := I.cell x c e
    rw [z, h1] at g1
    cases g1
    rw [h2] at g2
    cases g2
  have ub := I.base
  exact {
    ok := I.ok
    os := I.os
    bare := I.bare
    base := {
      keep := ub.keep
      slot := ub.slot
      free := fun b ob e n hx => by rw [upd_ne (n0 b ob e)]; exact ub.free b ob e n hx
      there := ub.there
      tups := fun b xs e => by have q := ub.tups b xs e; rw [upd_ne (ne_of_none q hn)]; exact q
      frzs := fun b ob u e => by have q := ub.frzs b ob u e; rw [upd_ne (ne_of_none q hn)]; exact q
      tbls := fun b ps e => by obtain ⟨k, q⟩ := ub.tbls b ps e; exact ⟨k, by rw [upd_ne (ne_of_none q hn)]; exact q⟩ }
    loc := I.loc
    cell := I.cell
    free := by rw [upd_ne (Ne.symm hL)]; exact I.free
    freeC := fun x c e => by rw [upd_ne (nc x c e)]; exact I.freeC x c e
    pin := fun p q => by
      obtain ⟨g1, g2, g3⟩ := I.pin p q
      exact ⟨g1, by rw [upd_ne (hp p q)]; exact g2, g3⟩
    hok := I.hok.laidN (fun _ _ z => z) hn new
    len := I.len }
theorem exA_ok {P : Program} {w : World} {H : Hp} {h : Heap} {a C : Addr} {oe : Obj} {vs : Array Value} (e : h.get? a = some oe) (z : Zc (.ref C) none oe) (d : oe.data = .fields vs) : ObjOk P w H h a (ExA C a) :=
  ⟨⟨oe, e, z, vs, d⟩, ⟨oe, e⟩, fun _ _ ⟨o, q, r⟩ k => ⟨o, k o q, r⟩⟩
/-- what is wished of an error in the body: it is kept at slot i through the suite, and tracked behind it -/
def wKeep (K : PySem.W.Frag) (c : Value) (i : Nat) (ts : Addr → TS) (D : Ends) : WX := fun cls d σ H =>
  ∃ C, cls = .ref C ∧ d = none ∧ PySem.W.exmOne K cls c = some true ∧ ∀ a, H a = none → ts a { nx := fun σ' H' => H' a = none → D.nx (σ'.set i none) (upd H' a (ExA C a)), rt := fun _ _ => False } (σ.set i (some (.ref a))) H
section
variable {X : Cx} {x n : Str} {c : Value} {i : Nat} {body suite : List Stmt} {st0 : Stmt} {np pos posh : Pos} {tb : WX → TS} {ts : Addr → TS}
open PySem.Spec PyProof.Rows in
theorem ps_tryK (hst : X.stack = X.env :: X.outer) (hfr0 : X.env.frame = some X.env.locals) (hex : X.ex = []) (hN : X.N.Nodup) (hi : X.N[i]? = some n) (hln : X.env.kindOf n = some .local) (hc : Names X x c)
    (hb : ∀ (W : WX) (pn : List (Addr × Obj)) (xe : Value → Shared → Prop), Takes (X.tr pn xe) W → PassesOwn (model X.prog X.w) X.A X.env xe → PSs (X.tr pn xe) body (tb W))
    (hsu : ∀ (a : Addr) (oe : Obj) (pn : List (Addr × Obj)), PSs (X.suite a ((a, oe) :: pn)) (st0 :: suite) (ts a)) :
    PS X (.Try body [.ExceptHandler (some (.Name x np)) (some n) (st0 :: suite) posh] [] [] pos) (fun D σ H => tb (wKeep X.K c i ts D) D σ H) := by
  refine ⟨fun pins s σ H D I h => wpAny_Try_except (wpAny_mono ((hb (wKeep X.K c i ts D) (X.pn ++ pins) _ (fun u z thrown => ?caught) PassesOwn.looking).run [] s σ H D (I.toTry _) h) (fun fl z ended => ?through) (fun _ _ q => q))⟩
  case through =>
    have ok := I.ok
    cases fl with
    | next => obtain ⟨σ2, H2, J, q⟩ := ended; exact wpAny_execs_nil ⟨σ2, H2, J.ofTry ok, q⟩
    | brk => obtain ⟨σ2, H2, J, q⟩ := ended; exact ⟨σ2, H2, J.ofTry ok, q⟩
    | cont => obtain ⟨σ2, H2, J, q⟩ := ended; exact ⟨σ2, H2, J.ofTry ok, q⟩
    | ret v => obtain ⟨w, σ2, H2, J, r, q⟩ := ended; exact ⟨w, σ2, H2, J.ofTry ok, r, q⟩
  case caught =>
    have ok := I.ok
    have frames : X.A.frames = some (X.env :: X.outer) := by rw [ok.frames, hst]
    obtain ⟨a, B, sI, pins2, σ2, H2, cls, dd, eu, JT, nb, up, sky, na, os, ag, C, rfl, rfl, exm, yes⟩ := thrown
    subst eu
    have J : L2.Inv X pins σ2 H2 sI := JT.ofTry ok
    rw [hst] at sky
    refine Sky.land Zc.steady frames hfr0 sky fun h3 fl3 up3 => ?_
    have J3 : L2.Inv X pins σ2 H2 { z with heap := h3 } := J.landed nb fl3.1 (up.trans up3) os ag
    obtain ⟨o3, v3, g3, z3, d3⟩ := fl3.there
    have nofr : a ∉ frs (X.env :: X.outer) := fun hm => by
      obtain ⟨_, o', e', hnf⟩ := fl3.2.2.1.mem hm
      rw [g3] at e'
      cases e'
      exact hnf _ d3
    have nL : a ≠ X.env.locals := fun q => nofr (List.mem_filterMap.mpr ⟨X.env, List.mem_cons_self, by rw [hfr0, q]⟩)
    have nF : a ∉ X.fs := fun hm => by
      obtain ⟨ev, he, q⟩ := List.mem_filterMap.mp hm
      exact nofr (List.mem_filterMap.mpr ⟨ev, List.mem_cons_of_mem _ he, q⟩)
    have sIa : sI.heap.get? a = none := by
      cases q : sI.heap.get? a with
      | none => rfl
      | some ob =>
        have q2 := nb a ob q (by rw [hst]; exact nofr)
        rw [fl3.2.1] at q2
        cases q2
    have s0a : X.s_0.heap.get? a = none := by
      cases q : X.s_0.heap.get? a with
      | none => rfl
      | some ob =>
        obtain ⟨o', q2⟩ := J.base.there a ob q (by rw [hex]; exact fun z => nomatch z)
        rw [sIa] at q2
        cases q2
    have npin : ∀ p ∈ X.pn ++ pins, p.1 ≠ a := fun p hp e => by
      have q := (J.pin p hp).1
      rw [e, sIa] at q
      cases q
    have S3 := J3.suite g3 d3 na nL nF
    refine wpAny_handleBy_cons (codeAny_handlers_test ?_) (fun q => nomatch q)
    have look : PySem.W.Looks (model X.prog X.w) h3 (typeOf (.ref a)) (.ref C) := fun A Q E s k q => wpAny_typeOf_ref (k _ _ g3) (by rw [z3.1]; exact q)
    have named : ∀ {Q : Value → Shared → Prop} {E : Value → Shared → Prop}, Q c { z with heap := h3 } → wpAny (model X.prog X.w) (X.A.mark (some (.ref a))) (eval (.Name x np) X.env) Q E { z with heap := h3 } := fun {Q E} q => by
      obtain ⟨hg, hdbg, hm | ⟨hm, hv, hnn⟩⟩ := hc
      · exact ld_glob (X := X.suite a ((a, o3) :: (X.pn ++ pins))) S3 hg hm q hdbg
      · exact ld_blt (X := X.suite a ((a, o3) :: (X.pn ++ pins))) S3 hg hm hv q hnn hdbg
    refine named ((PySem.W.exm_one (M := model X.prog X.w) J3.kIn look exm).here (codeAny_handlers_suite_as (HandSPX.lands_againZ fl3 fun h4 fl4 up4 => ?_)))
    have J4 : L2.Inv X pins σ2 H2 { z with heap := h4 } := J.landed nb fl4.1 ((up.trans up3).trans up4) os ag
    obtain ⟨o4, v4, g4, z4, d4⟩ := fl4.there
    refine store_ok (X := X.suite a ((a, o4) :: (X.pn ++ pins))) (v := .ref a) (J4.suite g4 d4 na nL nF) hN hi (.inl hln) rfl (fun s5 S5 => ?_) (.inr hln)
    refine wpAny_mono ((hsu a o4 (X.pn ++ pins)).run [] s5 _ H2 _ S5 (yes a na)) (fun fl s6 ended => ?_) (fun _ _ q => False.elim q)
    cases fl with
    | next =>
      obtain ⟨σ6, H6, S6, q6⟩ := ended
      obtain ⟨k1, k2, _⟩ := S6.pin (a, o4) (by rw [List.append_nil]; exact List.mem_cons_self)
      have K6 : L2.Inv X pins σ6 (upd H6 a (ExA C a)) s6 := adopt (S6.unsuite ok) k1 d4 k2 s0a nL npin (exA_ok k1 z4 d4)
      exact gone_ok K6 hN hi hln fun s7 K7 => ⟨_, _, K7, q6 k2⟩
    | brk => obtain ⟨_, _, _, q⟩ := ended; exact q.elim
    | cont => obtain ⟨_, _, _, q⟩ := ended; exact q.elim
    | ret v => obtain ⟨_, _, _, _, _, q⟩ := ended; exact q.elim
end
/-- the reading: the error's slot i, kept at slot j -/
def tTryK (K : PySem.W.Frag) (c : Value) (i j : Nat) (tb : WX → TS) : TS := fun D σ H => tb (wKeep K c i (fun _ => tAsg (tVar i) (gName j)) D) D σ H
theorem st_tryK {G : Ctx} {W : WX} {ds : DS} {m : Mu} {N : EndsD} {XR : Tag → DS → Mu → Prop} {i j : Nat} {c : Value} {tb : WX → TS} (hi : i < ds.length) (hij : i ≠ j) (hx : ∀ t, G.has t = true → PySem.W.exmOne G.K (.ref (G.ex t)) c = some true)
    (h : ∀ W', StD G W' (tb W') ds m N (fun t ds' m' => ds'.length = ds.length ∧ ∀ a, m' a = none → N.nx ((ds'.set j (some (.r a))).set i none) (mset m' a (.exc t)))) : StD G W (tTryK G.K c i j tb) ds m N XR := fun σ H E s r p =>
  h _ σ H E s r ⟨p.nx, p.rt, p.bk, p.ct, fun t ht σ2 H2 ds2 m2 t2 s2 r2 ⟨hl, q2⟩ => by
    refine ⟨G.ex t, rfl, rfl, hx t ht, fun a ha => ?_⟩
    have ma := s2.free ha
    have hlen : i < σ2.length := by rw [r2.len, hl]; exact hi
    refine ⟨.ref a, List.getElem?_set_self hlen, fun _ => ?_⟩
    obtain ⟨s3, t3⟩ := s2.put (p := a) (o := ExA (G.ex t) a) (x := .exc t) (by rw [fz_none ma]; exact ha) ⟨upd_same, ht⟩
    have e : (((σ2.set i (some (.ref a))).set j (some (.ref a))).set i none) = ((σ2.set j (some (.ref a))).set i none) := by
      rw [List.set_comm _ _ hij, List.set_set]
    show E.nx (((σ2.set i (some (.ref a))).set j (some (.ref a))).set i none) _
    rw [e]
    exact p.nx _ _ _ _ (t2.trans t3) s3 (((r2.mono t3).set j (show RV G _ (.ref a) (.r a) from rfl)).unset i) (q2 a ma)⟩
end Lb

/-! Lb7: the defs of a program, by name. -/
namespace Lb
open PySem L2

theorem pe_globI {X : Cx} {x : Str} {n : Int} {pos : Pos} (h : ∃ t, X.mg x = some (.int n t)) (hg : Gl X x) (hd : (x == ("__debug__" : Str)) = false := by decide) : PE X (.Name x pos) (tC (.int n)) := by
  obtain ⟨t, h⟩ := h
  exact pe_glob hg h ⟨t, rfl⟩ hd
theorem pe_globS {X : Cx} {x n : Str} {pos : Pos} (h : ∃ t, X.mg x = some (.str n t)) (hg : Gl X x) (hd : (x == ("__debug__" : Str)) = false := by decide) : PE X (.Name x pos) (tC (.str n)) := by
  obtain ⟨t, h⟩ := h
  exact pe_glob hg h ⟨t, rfl⟩ hd
/-- a def stands at its name -/
def DefAt (G : Ctx) (mg : Str → Option Value) (x qual : Str) (st : Stmt) (ps : List Str) : Prop := ∃ f fd, Fun G.K x qual st f fd ∧ Binds G.K fd ps [] ∧ mg x = some (.ref f)
/-- .. and keeps its promise -/
def FnF (P : Program) (G : Ctx) (mg : Str → Option Value) (base : Heap) (k : Nat) (x : Str) (ps : List Str) (S : SpD) : Prop :=
  ∃ f fd, FnOk P G.w G.K mg base (L2.CX P G.w) k f fd ps (spL G S) ∧ mg x = some (.ref f) ∧ PySem.W.keepIn G.K (.ref f) = true ∧ Binds G.K fd ps []
theorem fnF_mk {P : Program} {mg : Str → Option Value} {base : Heap} {G : Ctx} {x qual : Str} {st : Stmt} {N ps : List Str} {k : Nat} {S : SpD} {rd : WX → TS} (F : DefAt G mg x qual st ps) (sc : FnScope N ps (defScope st))
    (len : ∀ es m R XR, S es m R XR → es.length = ps.length) (sem : BodyD G N.length rd S)
    (hbody : ∀ (f : Addr) (cdv : Value) (A : Around) (outer : List Env) (s : Shared) (H : Hp) (E : XK), Room k (A.deeper (PyProof.Rows.envOfC qual (defScope st) s.heap.objs.size f cdv)) →
      PSs (cxOf (L2.CX P G.w) P G.w G.K mg base N qual (defScope st) f cdv A outer s H E) (defBody st) (rd fun c d _ H' => E c d H')) : FnF P G mg base (k + 1) x ps S := by
  obtain ⟨f, fd, F1, b, m⟩ := F
  exact ⟨f, fd, fn_D F1 sc len sem (hbody f), m, F1.kp, b⟩
theorem FnF.up {P : Program} {mg : Str → Option Value} {base : Heap} {G : Ctx} {x : Str} {ps : List Str} {j k : Nat} {S : SpD} (h : FnF P G mg base j x ps S) (hk : j ≤ k) : FnF P G mg base k x ps S := by
  obtain ⟨f, fd, F, r⟩ := h
  exact ⟨f, fd, F.mono hk, r⟩
theorem FnF.imp {P : Program} {mg : Str → Option Value} {base : Heap} {G : Ctx} {x : Str} {ps : List Str} {k : Nat} {S S' : SpD} (h : FnF P G mg base k x ps S) (hs : ∀ es m R XR, S' es m R XR → S es m R XR) : FnF P G mg base k x ps S' := by
  obtain ⟨f, fd, F, r⟩ := h
  exact ⟨f, fd, F.imp fun vs H Q E ⟨es, m, R, XR, a, b, c, d⟩ => ⟨es, m, R, XR, a, b, hs es m R XR c, d⟩, r⟩
theorem pe_callF {X : Cx} {G : Ctx} {W : WX} {k : Nat} {x : Str} {ps : List Str} {S : SpD} {p pos : Pos} {e : Expr} {es : List Expr} {t : TA} (h : FnF X.prog G X.mg X.base k x ps S) (hK : X.K = G.K) (hw : X.w = G.w) (hr : Room k X.A) (tk : Takes X W) (hg : Gl X x)
    (ha : PA X (e :: es) t) (hdb : (x == ("__debug__" : Str)) = false := by decide) (he : starEach (e :: es) X.env = (false, eval e X.env) :: starEach es X.env := by rfl) (hpl : (backTo pos (starEach es X.env)).any (·.1) = false := by rfl) :
    PE X (.Call (.Name x p) (e :: es) [] pos) (tCallS (spL G S) (WE W) t) := by
  obtain ⟨f, fd, F, m, kp, b⟩ := h
  rw [← hK, ← hw] at F
  rw [← hK] at kp b
  exact pe_callS F hr hg m kp b (fun σ => passAt tk σ) ha hdb he hpl
theorem pt_truD {X : Cx} {a : Expr} {ta : TE} (ha : PE X a ta) (he : ∀ whole, isTrue a X.env whole = (do let v ← whole; standAt a.pos; holding [v] (truthy v)) := by intro _; rfl) : PT X a (tTru X.K ta) := pt_truth ha he
theorem Room.u65 {k : Nat} {A : Around} (r : Room k A) : A.units + 65 < cLine := by have := r.un; omega
/-- the program's errors and where they stand -/
structure ErrAt (G : Ctx) (mg : Str → Option Value) (x : Str) (t : Tag) : Prop where
  h : G.has t = true
  g : mg x = some (.ref (G.ex t))
  q : PySem.W.excIn G.K (G.ex t) [.type "ValueError", .type "Exception", .type "BaseException", .type "object"] "ValueError.__new__" = true
  k : PySem.W.keepIn G.K (.ref (G.ex t)) = true
  b : PySem.W.subIn G.K (.ref (G.ex t)) (.type "BaseException") = some true
  ty : PySem.W.typeIn G.K (.ref (G.ex t)) = some (.type "type")
theorem ps_raiseE {X : Cx} {G : Ctx} {W : WX} {t : Tag} {x z : Str} {j : Nat} {p p2 pos pos' : Pos} (hc : X.calm = true) (tk : Takes X W) (hK : X.K = G.K) (e : ErrAt G X.mg x t) (hg : Gl X x) (hdb : (x == ("__debug__" : Str)) = false := by decide) :
    PS X (.Raise (some (.Call (.Name x p) [.Constant (.str z) j p2] [] pos)) none pos') (tRaise W (G.has t) (G.ex t)) := ps_raiseD hc tk e.h (by rw [hK]; exact e.q) e.g (by rw [hK]; exact e.k) (by rw [hK]; exact e.b) (by rw [hK]; exact e.ty) hg hdb
/-- boot -/
theorem bt_sum : bootBuiltins "sum" = some (.builtin "sum") := by decide +kernel
theorem bt_abs : bootBuiltins "abs" = some (.builtin "abs") := by decide +kernel
theorem bt_min : bootBuiltins "min" = some (.builtin "min") := by decide +kernel
theorem bt_max : bootBuiltins "max" = some (.builtin "max") := by decide +kernel
theorem bt_all : bootBuiltins "all" = some (.builtin "all") := by decide +kernel
theorem bt_any : bootBuiltins "any" = some (.builtin "any") := by decide +kernel
theorem bt_sorted : bootBuiltins "sorted" = some (.builtin "sorted") := by decide +kernel
theorem bt_isinstance : bootBuiltins "isinstance" = some (.builtin "isinstance") := by decide +kernel
theorem bt_list : bootBuiltins "list" = some (.type "list") := by decide +kernel
theorem bt_tuple : bootBuiltins "tuple" = some (.type "tuple") := by decide +kernel
theorem bt_int : bootBuiltins "int" = some (.type "int") := by decide +kernel
theorem bt_bool : bootBuiltins "bool" = some (.type "bool") := by decide +kernel
theorem bt_str : bootBuiltins "str" = some (.type "str") := by decide +kernel
theorem bt_set : bootBuiltins "set" = some (.type "set") := by decide +kernel
theorem bt_ValueError : bootBuiltins "ValueError" = some (.type "ValueError") := by decide +kernel
/-- ghost: a slot's list is data from now on -/
theorem st_frz {G : Ctx} {W : WX} {ds : DS} {m : Mu} {N : EndsD} {XR : Tag → DS → Mu → Prop} {t : TS} (i : Nat) {a : Addr} {xs : List D} (h : ds[i]? = some (some (.r a))) (hm : m a = some (.lst xs)) (k : StD G W t (ds.set i (some (.d (.lst xs)))) (mdel m a) N XR) : StD G W t ds m N XR := fun σ H E s r p => by
  obtain ⟨v, h1, h2⟩ := r.at_ i _ h
  cases h2
  obtain ⟨vs, e1, e2⟩ := s a _ hm
  obtain ⟨s', tr⟩ := s.del (p := a)
  have rv : RV G (fz H (mdel m a)) (.ref a) (.d (.lst xs)) := RV.dat (Rp.lst (by rw [fz_none mdel_same]; exact e1) (RpL.mono tr _ _ e2))
  have e : σ = σ.set i (some (.ref a)) := by
    apply List.ext_getElem?
    intro j
    by_cases hj : i = j
    · subst hj
      obtain ⟨hl, _⟩ := List.getElem?_eq_some_iff.mp h1
      rw [List.getElem?_set_self hl, h1]
    · rw [List.getElem?_set_ne hj]
  have r2 := (r.mono tr).set i rv
  rw [← e] at r2
  exact k σ H E s' r2 (p.tr tr)
/-- .. or a value's -/
theorem ev_fr {G : Ctx} {W : WX} {ds : DS} {m : Mu} {R : DV → Mu → Prop} {XR : Tag → Mu → Prop} {te : TE} (h : EvD G W te ds m (fun d m1 => ∃ a xs, d = .r a ∧ m1 a = some (.lst xs) ∧ R (.d (.lst xs)) (mdel m1 a)) XR) : EvD G W te ds m R XR := fun σ H Q s r p x =>
  h σ H _ s r (fun v H1 d m1 t1 s1 r1 ⟨a, xs, e, em, q⟩ => by
    subst e
    cases r1
    obtain ⟨vs, e1, e2⟩ := s1 a _ em
    obtain ⟨s', tr⟩ := s1.del (p := a)
    exact p _ H1 _ _ (t1.trans tr) s' (RV.dat (Rp.lst (by rw [fz_none mdel_same]; exact e1) (RpL.mono tr _ _ e2))) q) x
end Lb

/-! Lb8: data by kind, one step lemmas. -/
namespace Lb
open PySem L2
abbrev dInts (ns : List Int) : D := .lst (ns.map D.int)
abbrev dTup (ns : List Int) : D := .tup (ns.map D.int)
abbrev dQs (qs : List (List Int)) : D := .lst (qs.map dInts)
theorem eqD_int (a b : Int) : eqD (.int a) (.int b) = decide (a = b) := by
  unfold eqD toPy
  rw [PyData.eqv]
  exact Bool.beq_eq_decide_eq a b
theorem any_int (k : Int) : ∀ ns : List Int, ((ns.map D.int).any fun y => eqD y (.int k)) = decide (k ∈ ns)
  | [] => by simp
  | n :: ns => by
    rw [List.map_cons, List.any_cons, any_int k ns, eqD_int]
    by_cases h : k = n
    · subst h; simp
    · have h2 : ¬ n = k := fun e => h e.symm
      simp [h, h2]
theorem eqD_bl (a b : Bool) : eqD (.bl a) (.bl b) = (a == b) := by
  unfold eqD toPy
  rw [PyData.eqv]
theorem sh_int {n : Nat} {i : Int} : Sh n (.int i) := by unfold Sh; trivial
theorem sh_bl {n : Nat} {b : Bool} : Sh n (.bl b) := by unfold Sh; trivial
theorem sh_non {n : Nat} : Sh n .non := by unfold Sh; trivial
theorem sh_ints {n : Nat} {ns : List Int} : ∀ y ∈ ns.map D.int, Sh n y := fun y hy => by
  obtain ⟨i, _, rfl⟩ := List.mem_map.mp hy
  exact sh_int
theorem sh_dInts {n : Nat} {ns : List Int} : Sh (n + 1) (dInts ns) := by
  show ∀ x ∈ ns.map D.int, Sh n x
  exact sh_ints
theorem sh_dTup {n : Nat} {ns : List Int} : Sh (n + 1) (dTup ns) := by
  show ∀ x ∈ ns.map D.int, Sh n x
  exact sh_ints
/-- k in a list of numbers -/
theorem f_in {m : Mu} {R : DV → Mu → Prop} {k : Int} {ns : List Int} (h : R (.d (.bl (decide (k ∈ ns)))) m) : inF (.d (.int k)) (.d (dInts ns)) m R := by
  refine ⟨sh_int, sh_ints, ?_⟩
  rw [any_int]
  exact h
theorem f_add_i {m : Mu} {R : DV → Mu → Prop} {i j : Int} (h : R (.d (.int (i + j))) m) : addF (.d (.int i)) (.d (.int j)) m R := h
theorem f_add_s {m : Mu} {R : DV → Mu → Prop} {s t : Str} (h : s.length + t.length ≤ 100000 ∧ R (.d (.str (s ++ t))) m) : addF (.d (.str s)) (.d (.str t)) m R := h
theorem f_add_l {m : Mu} {R : DV → Mu → Prop} {xs ys : List D} (h : xs.length + ys.length ≤ 100000 ∧ R (.d (.lst (xs ++ ys))) m) : addF (.d (.lst xs)) (.d (.lst ys)) m R := h
theorem f_add_t {m : Mu} {R : DV → Mu → Prop} {xs ys : List D} (h : xs.length + ys.length ≤ 100000 ∧ R (.d (.tup (xs ++ ys))) m) : addF (.d (.tup xs)) (.d (.tup ys)) m R := h
theorem f_sub {m : Mu} {R : DV → Mu → Prop} {i j : Int} (h : R (.d (.int (i - j))) m) : subF (.d (.int i)) (.d (.int j)) m R := h
theorem f_mul_i {m : Mu} {R : DV → Mu → Prop} {i j : Int} (h : CMul i j ∧ R (.d (.int (i * j))) m) : mulF (.d (.int i)) (.d (.int j)) m R := h
theorem f_mul_l {m : Mu} {R : DV → Mu → Prop} {xs : List D} {k : Int} (h : 0 ≤ k ∧ k ≤ 100000 ∧ xs.length * k.toNat ≤ 100000 ∧ R (.d (.lst (List.replicate k.toNat xs).flatten)) m) : mulF (.d (.lst xs)) (.d (.int k)) m R := h
theorem f_mul_t {m : Mu} {R : DV → Mu → Prop} {xs : List D} {k : Int} (h : xs ≠ [] ∧ 1 ≤ k ∧ k ≤ 1000 ∧ xs.length ≤ 1000 ∧ R (.d (.tup (List.replicate k.toNat xs).flatten)) m) : mulF (.d (.tup xs)) (.d (.int k)) m R := h
theorem f_div {m : Mu} {R : DV → Mu → Prop} {i j : Int} (h : CDiv i j ∧ R (.d (.int (i / j))) m) : divF (.d (.int i)) (.d (.int j)) m R := h
theorem f_mod {m : Mu} {R : DV → Mu → Prop} {i j : Int} (h : 0 < j ∧ R (.d (.int (i % j))) m) : modF (.d (.int i)) (.d (.int j)) m R := h
theorem f_pow {m : Mu} {R : DV → Mu → Prop} {i j : Int} (h : CPow i j ∧ R (.d (.int (i ^ j.toNat))) m) : powF (.d (.int i)) (.d (.int j)) m R := h
theorem f_lt {m : Mu} {R : DV → Mu → Prop} {i j : Int} (h : R (.d (.bl (decide (i < j)))) m) : ltF (.d (.int i)) (.d (.int j)) m R := h
theorem f_le {m : Mu} {R : DV → Mu → Prop} {i j : Int} (h : R (.d (.bl (decide (i ≤ j)))) m) : leF (.d (.int i)) (.d (.int j)) m R := h
theorem f_gt {m : Mu} {R : DV → Mu → Prop} {i j : Int} (h : R (.d (.bl (decide (j < i)))) m) : gtF (.d (.int i)) (.d (.int j)) m R := h
theorem f_ge {m : Mu} {R : DV → Mu → Prop} {i j : Int} (h : R (.d (.bl (decide (j ≤ i)))) m) : geF (.d (.int i)) (.d (.int j)) m R := h
theorem f_eq_i {m : Mu} {R : DV → Mu → Prop} {i j : Int} (h : R (.d (.bl (decide (i = j)))) m) : eqF (.d (.int i)) (.d (.int j)) m R := ⟨sh_int, sh_int, by rw [eqD_int]; exact h⟩
theorem f_ne_i {m : Mu} {R : DV → Mu → Prop} {i j : Int} (h : R (.d (.bl (!decide (i = j)))) m) : neF (.d (.int i)) (.d (.int j)) m R := ⟨sh_int, sh_int, by rw [eqD_int]; exact h⟩
theorem f_eq_b {m : Mu} {R : DV → Mu → Prop} {i j : Bool} (h : R (.d (.bl (i == j))) m) : eqF (.d (.bl i)) (.d (.bl j)) m R := ⟨sh_bl, sh_bl, by rw [eqD_bl]; exact h⟩
theorem f_ne_b {m : Mu} {R : DV → Mu → Prop} {i j : Bool} (h : R (.d (.bl (i != j))) m) : neF (.d (.bl i)) (.d (.bl j)) m R := ⟨sh_bl, sh_bl, by rw [eqD_bl]; exact h⟩
theorem f_is_n {m : Mu} {R : DV → Mu → Prop} (h : R (.d (.bl true)) m) : isF (.d .non) (.d .non) m R := h
theorem f_isnot_n {m : Mu} {R : DV → Mu → Prop} (h : R (.d (.bl false)) m) : isnotF (.d .non) (.d .non) m R := h
theorem f_is_i {m : Mu} {R : DV → Mu → Prop} {i : Int} (h : R (.d (.bl false)) m) : isF (.d (.int i)) (.d .non) m R := h
theorem f_isnot_i {m : Mu} {R : DV → Mu → Prop} {i : Int} (h : R (.d (.bl true)) m) : isnotF (.d (.int i)) (.d .non) m R := h
theorem f_is_b {m : Mu} {R : DV → Mu → Prop} {c : Bool} (h : R (.d (.bl false)) m) : isF (.d (.bl c)) (.d .non) m R := h
theorem f_isnot_b {m : Mu} {R : DV → Mu → Prop} {c : Bool} (h : R (.d (.bl true)) m) : isnotF (.d (.bl c)) (.d .non) m R := h
theorem f_is_s {m : Mu} {R : DV → Mu → Prop} {s : Str} (h : R (.d (.bl false)) m) : isF (.d (.str s)) (.d .non) m R := h
theorem f_isnot_s {m : Mu} {R : DV → Mu → Prop} {s : Str} (h : R (.d (.bl true)) m) : isnotF (.d (.str s)) (.d .non) m R := h
theorem f_is_l {m : Mu} {R : DV → Mu → Prop} {xs : List D} (h : R (.d (.bl false)) m) : isF (.d (.lst xs)) (.d .non) m R := h
theorem f_isnot_l {m : Mu} {R : DV → Mu → Prop} {xs : List D} (h : R (.d (.bl true)) m) : isnotF (.d (.lst xs)) (.d .non) m R := h
theorem f_is_t {m : Mu} {R : DV → Mu → Prop} {xs : List D} (h : R (.d (.bl false)) m) : isF (.d (.tup xs)) (.d .non) m R := h
theorem f_isnot_t {m : Mu} {R : DV → Mu → Prop} {xs : List D} (h : R (.d (.bl true)) m) : isnotF (.d (.tup xs)) (.d .non) m R := h
theorem f_is_r {m : Mu} {R : DV → Mu → Prop} {a : Addr} (h : R (.d (.bl false)) m) : isF (.r a) (.d .non) m R := h
theorem f_isnot_r {m : Mu} {R : DV → Mu → Prop} {a : Addr} (h : R (.d (.bl true)) m) : isnotF (.r a) (.d .non) m R := h
theorem f_is {m : Mu} {R : DV → Mu → Prop} {x : DV} (h : R (.d (.bl (isNon x))) m) : isF x (.d .non) m R := h
theorem f_isnot {m : Mu} {R : DV → Mu → Prop} {x : DV} (h : R (.d (.bl (!isNon x))) m) : isnotF x (.d .non) m R := h
theorem f_neg {m : Mu} {R : DV → Mu → Prop} {i : Int} (h : R (.d (.int (-i))) m) : negF (.d (.int i)) m R := h
theorem f_len_ml {m : Mu} {R : DV → Mu → Prop} {α : Type} {xs : List α} {f : α → D} (h : R (.d (.int xs.length)) m) : lenF [.d (.lst (xs.map f))] m R := by show R (.d (.int (xs.map f).length)) m; rw [List.length_map]; exact h
theorem f_len_mt {m : Mu} {R : DV → Mu → Prop} {α : Type} {xs : List α} {f : α → D} (h : R (.d (.int xs.length)) m) : lenF [.d (.tup (xs.map f))] m R := by show R (.d (.int (xs.map f).length)) m; rw [List.length_map]; exact h
theorem f_sum_l {m : Mu} {R : DV → Mu → Prop} {ns : List Int} (h : R (.d (.int ns.sum)) m) : sumF [.d (.lst (ns.map D.int))] m R := ⟨ns, rfl, h⟩
theorem f_sum_t {m : Mu} {R : DV → Mu → Prop} {ns : List Int} (h : R (.d (.int ns.sum)) m) : sumF [.d (.tup (ns.map D.int))] m R := ⟨ns, rfl, h⟩
theorem f_all {m : Mu} {R : DV → Mu → Prop} {α : Type} {xs : List α} {f : α → Bool} (h : R (.d (.bl (xs.all f))) m) : allF [.d (.lst (xs.map fun x => D.bl (f x)))] m R := ⟨xs.map f, by rw [List.map_map]; rfl, by rw [List.all_map]; exact h⟩
theorem f_any {m : Mu} {R : DV → Mu → Prop} {α : Type} {xs : List α} {f : α → Bool} (h : R (.d (.bl (xs.any f))) m) : anyF [.d (.lst (xs.map fun x => D.bl (f x)))] m R := ⟨xs.map f, by rw [List.map_map]; rfl, by rw [List.any_map]; exact h⟩
theorem f_len_l {m : Mu} {R : DV → Mu → Prop} {xs : List D} (h : R (.d (.int xs.length)) m) : lenF [.d (.lst xs)] m R := h
theorem f_len_t {m : Mu} {R : DV → Mu → Prop} {xs : List D} (h : R (.d (.int xs.length)) m) : lenF [.d (.tup xs)] m R := h
theorem f_len_c {m : Mu} {R : DV → Mu → Prop} {ns : List Int} (h : R (.d (.int ns.length)) m) : lenF [.scr ns] m R := h
theorem f_abs {m : Mu} {R : DV → Mu → Prop} {i : Int} (h : R (.d (.int (if i < 0 then -i else i))) m) : absF [.d (.int i)] m R := h
theorem f_min2 {m : Mu} {R : DV → Mu → Prop} {i j : Int} (h : R (.d (.int (if j < i then j else i))) m) : minF [.d (.int i), .d (.int j)] m R := h
theorem f_max2 {m : Mu} {R : DV → Mu → Prop} {i j : Int} (h : R (.d (.int (if j > i then j else i))) m) : maxF [.d (.int i), .d (.int j)] m R := h
theorem f_list_l {m : Mu} {R : DV → Mu → Prop} {xs : List D} (h : R (.d (.lst xs)) m) : listF [.d (.lst xs)] m R := h
theorem f_list_t {m : Mu} {R : DV → Mu → Prop} {xs : List D} (h : R (.d (.lst xs)) m) : listF [.d (.tup xs)] m R := h
theorem f_tup_l {m : Mu} {R : DV → Mu → Prop} {xs : List D} (h : R (.d (.tup xs)) m) : tupleF [.d (.lst xs)] m R := h
theorem f_tup_t {m : Mu} {R : DV → Mu → Prop} {xs : List D} (h : R (.d (.tup xs)) m) : tupleF [.d (.tup xs)] m R := h
theorem f_int_i {m : Mu} {R : DV → Mu → Prop} {i : Int} (h : R (.d (.int i)) m) : intF [.d (.int i)] m R := h
theorem f_int_b {m : Mu} {R : DV → Mu → Prop} {b : Bool} (h : R (.d (.int (if b then 1 else 0))) m) : intF [.d (.bl b)] m R := h
theorem f_sl_l {m : Mu} {R : DV → Mu → Prop} {xs : List D} {lo hi : Option Int} (h : R (.d (.lst (cut xs lo hi))) m) : sliceF (.d (.lst xs)) lo hi m R := h
theorem f_sl_t {m : Mu} {R : DV → Mu → Prop} {xs : List D} {lo hi : Option Int} (h : R (.d (.tup (cut xs lo hi))) m) : sliceF (.d (.tup xs)) lo hi m R := h
theorem f_tr_n {m : Mu} {R : Bool → Mu → Prop} (h : R false m) : truF (.d .non) m R := h
theorem f_tr_b {m : Mu} {R : Bool → Mu → Prop} {b : Bool} (h : R b m) : truF (.d (.bl b)) m R := h
theorem f_tr_i {m : Mu} {R : Bool → Mu → Prop} {i : Int} (h : R (i != 0) m) : truF (.d (.int i)) m R := h
theorem f_tr_l {m : Mu} {R : Bool → Mu → Prop} {xs : List D} (h : R (!xs.isEmpty) m) : truF (.d (.lst xs)) m R := h
theorem f_tr_t {m : Mu} {R : Bool → Mu → Prop} {xs : List D} (h : R (!xs.isEmpty) m) : truF (.d (.tup xs)) m R := h
theorem f_tr_c {m : Mu} {R : Bool → Mu → Prop} {ns : List Int} (h : R (!ns.isEmpty) m) : truF (.scr ns) m R := h
end Lb

/-! Lb9: loops and comprehensions in short. -/
namespace Lb
open PySem L2
theorem ex_bl {b : Bool} {P : Bool → Prop} (h : P b) : ∃ c, DV.d (.bl b) = .d (.bl c) ∧ P c := ⟨b, rfl, h⟩
theorem ex_in {b : Int} {P : Int → Prop} (h : P b) : ∃ c, DV.d (.int b) = .d (.int c) ∧ P c := ⟨b, rfl, h⟩
theorem ex_ls {xs : List D} {P : List D → Prop} (h : P xs) : ∃ c, DV.d (.lst xs) = .d (.lst c) ∧ P c := ⟨xs, rfl, h⟩
theorem ex_tu {xs : List D} {P : List D → Prop} (h : P xs) : ∃ c, DV.d (.tup xs) = .d (.tup c) ∧ P c := ⟨xs, rfl, h⟩
theorem ex_st {z : Str} {P : Str → Prop} (h : P z) : ∃ c, DV.d (.str z) = .d (.str c) ∧ P c := ⟨z, rfl, h⟩
theorem ex_d0 {P : List D → Prop} (h : P []) : ∃ xs : List D, ([] : List DV) = xs.map DV.d ∧ xs.length ≤ 100000 ∧ P xs := ⟨_, rfl, by decide, h⟩
theorem ex_d1 {P : List D → Prop} {a : D} (h : P [a]) : ∃ xs : List D, [DV.d a] = xs.map DV.d ∧ xs.length ≤ 100000 ∧ P xs := ⟨[a], rfl, by show 1 ≤ 100000; decide, h⟩
theorem ex_d2 {P : List D → Prop} {a b : D} (h : P [a, b]) : ∃ xs : List D, [DV.d a, DV.d b] = xs.map DV.d ∧ xs.length ≤ 100000 ∧ P xs := ⟨[a, b], rfl, by show 2 ≤ 100000; decide, h⟩
theorem ex_d3 {P : List D → Prop} {a b c : D} (h : P [a, b, c]) : ∃ xs : List D, [DV.d a, DV.d b, DV.d c] = xs.map DV.d ∧ xs.length ≤ 100000 ∧ P xs := ⟨[a, b, c], rfl, by show 3 ≤ 100000; decide, h⟩
theorem ex_d4 {P : List D → Prop} {a b c d : D} (h : P [a, b, c, d]) : ∃ xs : List D, [DV.d a, DV.d b, DV.d c, DV.d d] = xs.map DV.d ∧ xs.length ≤ 100000 ∧ P xs := ⟨[a, b, c, d], rfl, by show 4 ≤ 100000; decide, h⟩
theorem ex_d5 {P : List D → Prop} {a b c d e : D} (h : P [a, b, c, d, e]) : ∃ xs : List D, [DV.d a, DV.d b, DV.d c, DV.d d, DV.d e] = xs.map DV.d ∧ xs.length ≤ 100000 ∧ P xs := ⟨[a, b, c, d, e], rfl, by show 5 ≤ 100000; decide, h⟩
theorem ex_d6 {P : List D → Prop} {a b c d e f : D} (h : P [a, b, c, d, e, f]) : ∃ xs : List D, [DV.d a, DV.d b, DV.d c, DV.d d, DV.d e, DV.d f] = xs.map DV.d ∧ xs.length ≤ 100000 ∧ P xs := ⟨[a, b, c, d, e, f], rfl, by show 6 ≤ 100000; decide, h⟩
theorem ex_d7 {P : List D → Prop} {a b c d e f g : D} (h : P [a, b, c, d, e, f, g]) : ∃ xs : List D, [DV.d a, DV.d b, DV.d c, DV.d d, DV.d e, DV.d f, DV.d g] = xs.map DV.d ∧ xs.length ≤ 100000 ∧ P xs := ⟨[a, b, c, d, e, f, g], rfl, by show 7 ≤ 100000; decide, h⟩
theorem ex_d8 {P : List D → Prop} {a b c d e f g i : D} (h : P [a, b, c, d, e, f, g, i]) : ∃ xs : List D, [DV.d a, DV.d b, DV.d c, DV.d d, DV.d e, DV.d f, DV.d g, DV.d i] = xs.map DV.d ∧ xs.length ≤ 100000 ∧ P xs := ⟨[a, b, c, d, e, f, g, i], rfl, by show 8 ≤ 100000; decide, h⟩
theorem m_and {M : Mu} {P : Prop} (h : P) : M = M ∧ P := ⟨rfl, h⟩
theorem i_t {A B : Prop} (h : A) : if true = true then A else B := by rw [if_pos rfl]; exact h
theorem i_f {A B : Prop} (h : B) : if false = true then A else B := by rw [if_neg Bool.false_ne_true]; exact h
theorem i_b {c : Bool} {A B : Prop} (h1 : c = true → A) (h2 : c = false → B) : if c = true then A else B := by
  cases c with
  | true => rw [if_pos rfl]; exact h1 rfl
  | false => rw [if_neg Bool.false_ne_true]; exact h2 rfl
theorem i_d {c : Prop} [Decidable c] {A B : Prop} (h1 : c → A) (h2 : ¬ c → B) : if decide c = true then A else B := by
  by_cases h : c
  · rw [decide_eq_true h, if_pos rfl]; exact h1 h
  · rw [decide_eq_false h, if_neg Bool.false_ne_true]; exact h2 h
theorem i_nt {A B : Prop} (h : B) : if (!true) = true then A else B := i_f h
theorem i_nf {A B : Prop} (h : A) : if (!false) = true then A else B := i_t h
theorem i_nd {c : Prop} [Decidable c] {A B : Prop} (h1 : ¬ c → A) (h2 : c → B) : if (!decide c) = true then A else B := by
  by_cases h : c
  · rw [decide_eq_true h]; exact i_nt (h2 h)
  · rw [decide_eq_false h]; exact i_nf (h1 h)
section
variable {G : Ctx} {W : WX} {ds : DS} {m m1 : Mu} {R : DV → Mu → Prop} {g : TG} {tt : TT} {te : TE} {vs : List Nat} {N : EndsD} {XR : Tag → DS → Mu → Prop} {tb : TS}
/-- the turns of a comprehension in all -/
def LcR (G : Ctx) (g : TG) (tt : TT) (te : TE) (vs : List Nat) (ds : DS) (R : List D → Prop) (xs : List DV) (gd : Mu → Prop) (m1 : Mu) : Prop :=
  (∀ M, Ext m1 M → gd M) ∧ ∃ (α : Type) (ys : List α) (enc : α → DV) (F : α → Option D), xs = ys.map enc ∧ ys.length ≤ 50000 ∧
      (∀ (i : Nat) (y : α) (M : Mu), ys[i]? = some y → Ext m1 M → ∃ ds2, TgRun G.K vs g (enc y) (wipeD ds vs) ds2 ∧ EvT G WF tt ds2 M (fun b M3 => M3 = M ∧ if b = true then EvD G WF te ds2 M (fun x M4 => M4 = M ∧ ∃ z, x = .d z ∧ F y = some z) XF else F y = none) XF) ∧ R (ys.filterMap F)
/-- [e y for y in ys] -/
theorem lcM {α : Type} {xs : List DV} {gd : Mu → Prop} {RL : List D → Prop} (ys : List α) (enc : α → DV) (e : α → D) (hx : xs = ys.map enc) (hz : ys.length ≤ 50000) (hs : ∀ y M, y ∈ ys → Ext m1 M → ∃ ds2, TgRun G.K vs g (enc y) (wipeD ds vs) ds2 ∧ EvD G WF te ds2 M (fun x M4 => M4 = M ∧ x = .d (e y)) XF)
    (hR : RL (ys.map e)) (hg : ∀ M, Ext m1 M → gd M := by first | exact fun _ _ => trivial | exact fun M hM => hM _ _ (by assumption)) : LcR G g tYes te vs ds RL xs gd m1 := by
  refine ⟨hg, α, ys, enc, fun y => some (e y), hx, hz, fun i y M hy hM => ?_, ?_⟩
  · obtain ⟨ds2, h1, h2⟩ := hs y M (List.mem_of_getElem? hy) hM
    refine ⟨ds2, h1, et_yes ⟨rfl, ?_⟩⟩
    rw [if_pos rfl]
    exact h2.imp (fun d m' ⟨a, b⟩ => ⟨a, _, b, rfl⟩) (fun _ _ z => z)
  · rw [List.filterMap_eq_map']
    exact hR
/-- [e y for y in ys if c y] -/
theorem lcF {α : Type} {xs : List DV} {gd : Mu → Prop} {RL : List D → Prop} (ys : List α) (enc : α → DV) (c : α → Bool) (e : α → D) (hx : xs = ys.map enc) (hz : ys.length ≤ 50000) (hs : ∀ y M, y ∈ ys → Ext m1 M → ∃ ds2, TgRun G.K vs g (enc y) (wipeD ds vs) ds2 ∧ EvT G WF tt ds2 M (fun b M3 => M3 = M ∧ b = c y) XF ∧ (c y = true → EvD G WF te ds2 M (fun x M4 => M4 = M ∧ x = .d (e y)) XF))
    (hR : RL ((ys.filter c).map e)) (hg : ∀ M, Ext m1 M → gd M := by first | exact fun _ _ => trivial | exact fun M hM => hM _ _ (by assumption)) : LcR G g tt te vs ds RL xs gd m1 := by
  refine ⟨hg, α, ys, enc, fun y => if c y = true then some (e y) else none, hx, hz, fun i y M hy hM => ?_, ?_⟩
  · obtain ⟨ds2, h1, h2, h3⟩ := hs y M (List.mem_of_getElem? hy) hM
    refine ⟨ds2, h1, fun σ H Q s r p x => h2 σ H Q s r (fun b H' m' t s' ⟨q1, q2⟩ => p b H' m' t s' ⟨q1, ?_⟩) x⟩
    subst q2
    cases hc : c y with
    | true =>
      rw [if_pos rfl]
      exact (h3 hc).imp (fun d m' ⟨a, b⟩ => ⟨a, _, b, by simp [hc]⟩) (fun _ _ z => z)
    | false => rw [if_neg Bool.false_ne_true]; simp [hc]
  · have e2 : ys.filterMap (fun y => if c y = true then some (e y) else none) = (ys.filter c).map e := by
      clear hs hx hz hR hg
      induction ys with
      | nil => rfl
      | cons y ys ih =>
        cases hc : c y with
        | true => simp [hc, ih]
        | false => simp [hc, ih]
    rw [e2]
    exact hR
theorem ev_lcl {ta : TE} {XRe : Tag → Mu → Prop} (h : EvD G W ta ds m (fun d m1 => ∃ xs, d = .d (.lst xs) ∧ LcR G g tt te vs ds (fun l => R (.d (.lst l)) m1) (xs.map DV.d) GT m1) XRe) : EvD G W (tLc (iList G.K ta) g tt te vs) ds m R XRe := ev_lc (ei_list h)
theorem ev_lct {ta : TE} {XRe : Tag → Mu → Prop} (h : EvD G W ta ds m (fun d m1 => ∃ xs, d = .d (.tup xs) ∧ LcR G g tt te vs ds (fun l => R (.d (.lst l)) m1) (xs.map DV.d) GT m1) XRe) : EvD G W (tLc (iTup G.K ta) g tt te vs) ds m R XRe := ev_lc (ei_tup h)
theorem ev_lcs {ta : TE} {XRe : Tag → Mu → Prop} (h : EvD G W ta ds m (fun d m1 => ∃ z, d = .d (.str z) ∧ LcR G g tt te vs ds (fun l => R (.d (.lst l)) m1) ((signs z).map DV.d) GT m1) XRe) : EvD G W (tLc (iStr ta) g tt te vs) ds m R XRe := ev_lc (ei_str h)
theorem ev_lc1 {ta : TA} {XRe : Tag → Mu → Prop} (h : EvA G W ta ds m (fun es m1 => ∃ n : Int, es = [.d (.int n)] ∧ -(2 ^ 62) ≤ n ∧ n < 2 ^ 62 ∧ LcR G g tt te vs ds (fun l => R (.d (.lst l)) m1) (rng 0 n.toNat) GT m1) XRe) : EvD G W (tLc (iRng1 ta) g tt te vs) ds m R XRe := ev_lc (ei_rng1 h)
theorem ev_lc2 {ta : TA} {XRe : Tag → Mu → Prop} (h : EvA G W ta ds m (fun es m1 => ∃ i n : Int, es = [.d (.int i), .d (.int n)] ∧ (-(2 ^ 62) ≤ i ∧ i < 2 ^ 62 ∧ -(2 ^ 62) ≤ n ∧ n < 2 ^ 62) ∧ LcR G g tt te vs ds (fun l => R (.d (.lst l)) m1) (rng i (n - i).toNat) GT m1) XRe) : EvD G W (tLc (iRng2 ta) g tt te vs) ds m R XRe := ev_lc (ei_rng2 h)
theorem ev_lclO {ta : TE} {XRe : Tag → Mu → Prop} (h : EvD G W ta ds m (fun d m1 => ∃ xs, d = .d (.lst xs) ∧ LcR G g tt te vs ds (fun l => ∀ a, m1 a = none → R (.r a) (mset m1 a (.lst l))) (xs.map DV.d) GT m1) XRe) : EvD G W (tLc (iList G.K ta) g tt te vs) ds m R XRe := ev_lcO (ei_list h)
theorem ev_lc1O {ta : TA} {XRe : Tag → Mu → Prop} (h : EvA G W ta ds m (fun es m1 => ∃ n : Int, es = [.d (.int n)] ∧ -(2 ^ 62) ≤ n ∧ n < 2 ^ 62 ∧ LcR G g tt te vs ds (fun l => ∀ a, m1 a = none → R (.r a) (mset m1 a (.lst l))) (rng 0 n.toNat) GT m1) XRe) : EvD G W (tLc (iRng1 ta) g tt te vs) ds m R XRe := ev_lcO (ei_rng1 h)
/-- for k in range(..) -/
def ForR (G : Ctx) (W : WX) (g : TG) (tb : TS) (ds : DS) (N : EndsD) (XR : Tag → DS → Mu → Prop) (xs : List DV) (gd : Mu → Prop) (m1 : Mu) : Prop :=
  ∃ P : Nat → DS → Mu → Prop, P 0 ds m1 ∧ (∀ i ds' m', P i ds' m' → gd m') ∧
      (∀ i x ds' m', xs[i]? = some x → P i ds' m' → GtD G g x ds' m' (fun ds2 m2 => StD G W tb ds2 m2 { nx := P (i + 1), rt := N.rt, bk := N.nx, ct := P (i + 1) } XR)) ∧
      (∀ ds' m', P xs.length ds' m' → N.nx ds' m')
theorem forN {lo : Int} {n : Nat} (P : Nat → DS → Mu → Prop) (h0 : P 0 ds m) (hs : ∀ i ds' m', i < n → P i ds' m' → GtD G g (.d (.int (lo + (i : Nat)))) ds' m' (fun ds2 m2 => StD G W tb ds2 m2 { nx := P (i + 1), rt := N.rt, bk := N.nx, ct := P (i + 1) } XR)) (hd : ∀ ds' m', P n ds' m' → N.nx ds' m') : ForR G W g tb ds N XR (rng lo n) GT m := by
  refine ⟨P, h0, fun _ _ _ _ => trivial, fun i x ds' m' hx p => ?_, fun ds' m' p => hd ds' m' (by rw [rng_len] at p; exact p)⟩
  have hi : i < n := by
    have := (List.getElem?_eq_some_iff.mp hx).1
    rw [rng_len] at this
    exact this
  rw [rng_get hi] at hx
  cases hx
  exact hs i ds' m' hi p
theorem forL {α : Type} {xs : List DV} {gd : Mu → Prop} (ys : List α) (enc : α → DV) (P : List α → DS → Mu → Prop) (hx : xs = ys.map enc) (h0 : P [] ds m) (hs : ∀ pre y post ds' m', ys = pre ++ y :: post → P pre ds' m' → GtD G g (enc y) ds' m' (fun ds2 m2 => StD G W tb ds2 m2 { nx := P (pre ++ [y]), rt := N.rt, bk := N.nx, ct := P (pre ++ [y]) } XR)) (hd : ∀ ds' m', P ys ds' m' → N.nx ds' m')
    (hg : ∀ pre ds' m', P pre ds' m' → gd m' := by exact fun _ _ _ _ => trivial) : ForR G W g tb ds N XR xs gd m := by
  subst hx
  exact for_pre P h0 hg hs hd
theorem st_forl {ta : TE} (h : EvD G W ta ds m (fun d m1 => ∃ xs, d = .d (.lst xs) ∧ ForR G W g tb ds N XR (xs.map DV.d) GT m1) (fun t m1 => XR t ds m1)) : StD G W (tFor (iList G.K ta) g tb) ds m N XR := st_for (ei_list h)
theorem st_fort {ta : TE} (h : EvD G W ta ds m (fun d m1 => ∃ xs, d = .d (.tup xs) ∧ ForR G W g tb ds N XR (xs.map DV.d) GT m1) (fun t m1 => XR t ds m1)) : StD G W (tFor (iTup G.K ta) g tb) ds m N XR := st_for (ei_tup h)
theorem st_fors {ta : TE} (h : EvD G W ta ds m (fun d m1 => ∃ z, d = .d (.str z) ∧ ForR G W g tb ds N XR ((signs z).map DV.d) GT m1) (fun t m1 => XR t ds m1)) : StD G W (tFor (iStr ta) g tb) ds m N XR := st_for (ei_str h)
theorem st_for1 {ta : TA} (h : EvA G W ta ds m (fun es m1 => ∃ n : Int, es = [.d (.int n)] ∧ -(2 ^ 62) ≤ n ∧ n < 2 ^ 62 ∧ ForR G W g tb ds N XR (rng 0 n.toNat) GT m1) (fun t m1 => XR t ds m1)) : StD G W (tFor (iRng1 ta) g tb) ds m N XR := st_for (ei_rng1 h)
theorem st_for2 {ta : TA} (h : EvA G W ta ds m (fun es m1 => ∃ i n : Int, es = [.d (.int i), .d (.int n)] ∧ (-(2 ^ 62) ≤ i ∧ i < 2 ^ 62 ∧ -(2 ^ 62) ≤ n ∧ n < 2 ^ 62) ∧ ForR G W g tb ds N XR (rng i (n - i).toNat) GT m1) (fun t m1 => XR t ds m1)) : StD G W (tFor (iRng2 ta) g tb) ds m N XR := st_for (ei_rng2 h)
end
end Lb

/-! LbS: list.count of data; sorted(set(a list of numbers)). -/
namespace Lb
open PySem L2
section
variable {X : Cx} {G : Ctx}
open PySem.Spec PyProof.Rows in
theorem mt_countD (hu : X.A.units + 65 < cLine) : MtR X "list.count" (rDM G countF) := by
  intro pins s σ H x xs v us Q I rx rxs h
  obtain ⟨dx, es, m, R, s0, r1, r2, h, p⟩ := h
  obtain ⟨val, ys, rfl, e, h1, h2, h⟩ := h
  · cases r2 with
    | cons q1 q2 =>
      cases q2
      have rr := vw_rp s0 r1 e
      cases rr with
      | lst a1 a2 =>
        cases rx
        obtain ⟨uy, rfl, ry⟩ := rxs.one
        obtain ⟨bs, rd⟩ := Dp.reads I _ _ uy (Rp.dp (K := X.K) _ _ (Rp.mono fz_ex _ _ q1)) ry
        have sh := (Sh.lst h1).shaped
        rw [toPy] at sh
        have lay : PyData.canLayAll0 (toPys ys) = true := SeqAt.canLay_of_shaped sh
        have room := PyProof.Rows.room_in_shaped (xs := toPys ys) h2.shaped hu
        obtain ⟨its, rv, ⟨ob, n, ho, hc, hdn, hdt⟩, hlen⟩ := I.list (SqL.of a1)
        obtain ⟨cls, dd, data, sl⟩ := ob
        simp only at hc hdt
        subst hc hdt
        obtain ⟨as, ra⟩ := Dp.readsAll I _ _ its (RpL.dp (K := X.K) _ _ a2) rv
        have hmap : its.map (SeqAt.readOf s.heap) = toPys ys := SeqAt.readsAll_map _ its as lay ra
        refine call_meets PySem.F.slot_list_count ⟨_, ho, rfl⟩ PySem.F.entry_list_count (PySem.F.args_list_count_2 _ _) (SeqAt.list_countAt _ its.toArray n dd sl uy fun u => PyData.eqv (SeqAt.readOf s.heap u) (toPy val)) ⟨ho, SeqAt.items_eqAt (vs := its.toArray) (show ReadsAll s.heap its.toArray.toList (toPys ys) as from ra) rd lay (SeqAt.canLay_of_shaped h2.shaped) room, ?_⟩
        refine ⟨V.int _, H, I.tok _, ⟨s.toks, rfl⟩, ?_⟩
        have ec : its.toArray.toList.countP (fun u => PyData.eqv (SeqAt.readOf s.heap u) (toPy val)) = ys.countP fun y => eqD y val := by
          show its.countP _ = _
          rw [show its.countP (fun u => PyData.eqv (SeqAt.readOf s.heap u) (toPy val)) = (its.map (SeqAt.readOf s.heap)).countP (fun z => PyData.eqv z (toPy val)) by rw [List.countP_map]; rfl, hmap, toPys_map, List.countP_map]
          rfl
        rw [ec]
        exact p.here s0 (RV.dat (Rp.int _)) h
end
section
variable {P : Program} {w : World} {A : Around} {E : Value → Shared → Prop} {s : Shared}
abbrev newSet (w : World) : Obj := { cls := .type "set", dict := none, data := .set #[] 0 (.fresh 0 0 (!w.params.followText "set-order")) }
open PySem.Spec PyProof.Rows in
/-- set(l), l a list of numbers -/
theorem set_of_list {l : Addr} {items : Array Value} (ns : List Int) {Q : Value → Shared → Prop} (hh : A.handled = none) (hl : s.heap.IsList l items) (hit : IntsAre items.toList ns) (hb : ns.length + 1 < scanBound)
    (h : ∀ (hp : Heap) (tk c : Nat), SetR w hp s.heap.objs.size (fun j => decide (j ∈ ns)) c → c ≤ ns.length → (∀ b o, s.heap.get? b = some o → hp.get? b = some o) → Q (.ref s.heap.objs.size) { s with heap := hp, toks := tk }) :
    wpAny (model P w) A (call (.type "set") [.ref l]) Q E s := by
  have size : items.size = ns.length := by have z := IntsAre.length hit; rw [Array.length_toList] at z; exact z
  obtain ⟨c, tl, hmro⟩ := F.called_set.mro
  obtain ⟨hmade, hsub, h1, h2, hct⟩ := And.intro F.called_set.made (And.intro F.called_set.sub (And.intro F.called_set.notType (And.intro F.called_set.canCreate (F.typeCall_set_1 (.ref l)))))
  refine wpAny_call (codeAny_of_tree (wpAny_pure ⟨Code.quiet_builtin _ (by decide +kernel), codeAny_builtin F.entry_type_call ?_⟩))
  rw [Around.under_plain (weight_type_call_type "set" [.ref l] []) rfl]
  repeat (any_goals (first | assumption | wp_step))

  refine codeAny_mono (code_set_led1 (.ref l) (E := E) (Q₁ := fun ob z => ob = .ref s.heap.objs.size ∧ z = { s with heap := s.heap.push (newSet w) }) ⟨rfl, rfl⟩) fun r z hr => ?_
  cases r with
  | error e => exact hr
  | ok fl =>
    cases fl with
    | ret ob =>
      obtain ⟨rfl, rfl⟩ := hr
      have gS : (s.heap.push (newSet w)).get? s.heap.objs.size = some (newSet w) := Heap.get?_push_size _ rfl
      have hT : Shared.TypeIs { s with heap := s.heap.push (newSet w) } (.ref s.heap.objs.size) "set" := ⟨_, gS, rfl⟩
      obtain ⟨hli, hbi⟩ := And.intro F.called_set.init.lookup (F.called_set.init.bind (.ref s.heap.objs.size))
      repeat (any_goals (first | assumption | wp_step))

      refine codeAny_mono (codeAny_call_builtin (R := wants (fun r z => r = .none ∧ ∃ hp tk c, z = { s with heap := hp, toks := tk } ∧ SetR w hp s.heap.objs.size (fun j => decide (j ∈ ns)) c ∧ c ≤ ns.length ∧ (∀ b o, s.heap.get? b = some o → hp.get? b = some o)) E) F.called_set.init.plain F.entry_set_init (check_set_init_1 hT ?inside)) fun r z hr => ?behind
      case inside =>
        obtain ⟨ol, hol, hcl, nl, hdl⟩ := hl
        obtain ⟨ocls, odict, odata, oslots⟩ := ol
        simp only at hcl hdl
        subst hcl hdl
        have hol2 : (s.heap.push (newSet w)).get? l = some { cls := .type "list", dict := odict, data := .seq items nl, slots := oslots } := Heap.get?_push_of_some _ hol
        obtain ⟨hsls, hslf, hne⟩ := And.intro F.sub_list_set (And.intro F.sub_list_frozenset (show (Value.type "list" == Value.type "dict") = false by decide))
        have hl1 : (s.heap.push (newSet w)).IsList l items := ⟨_, hol2, rfl, nl, rfl⟩
        unfold Builtin.«set.__init__» noKeywords Builtin.Frozenset.updateFrom
        generalize hPI : pyIter = PI
        wp_walk
        subst hPI
        refine wpAny_pyIter_list hl1 (wpAny_bind (wpAny_runValue ?_))
        have lS : l < s.heap.objs.size := Heap.lt_size hol
        have sz1 : (s.heap.push (newSet w)).objs.size = s.heap.objs.size + 1 := Heap.size_push ..
        have at_ : ∀ (i : Nat) (v : Value), items[i]? = some v → ∃ k t, ns[i]? = some k ∧ v = .int k t := fun i v hv => by
          have hi : i < ns.length := by rw [← size]; exact (Array.getElem?_eq_some_iff.mp hv).1
          obtain ⟨t, e⟩ := PyProof.Rows.IntsAre.int_at hit i v (by rw [Array.getElem?_toList]; exact hv)
          refine ⟨ns[i], t, List.getElem?_eq_getElem hi, ?_⟩
          rw [e, List.getD_eq_getElem?_getD, List.getElem?_eq_getElem hi]
          rfl
        refine set_update_ints ((Walks.list (by simp [hh]) _ l (by rw [sz1]; exact Nat.ne_of_lt (Nat.lt_succ_of_lt lS)) items).toS) s.heap.objs.size (by rw [sz1, List.mem_cons, List.mem_singleton]; exact fun z => z.elim (Nat.ne_of_lt (Nat.lt_succ_self _)) (Nat.ne_of_gt lS)) ns size hb at_ (items.size - 0) 0 _ (by omega) (Nat.zero_le _) ⟨⟨_, Heap.get?_push_size _ rfl, rfl, rfl⟩, (hl1.push _)⟩ ⟨0, Nat.le_refl 0, setR_new_at (Heap.get?_push_of_some _ gS)⟩ ?last
        intro z k hm hk hS
        obtain ⟨hp, g2, d2, tk2, os2⟩ := z
        obtain rfl : g2 = s.gens := hm.gens
        obtain rfl : d2 = s.drawn := hm.drawn
        obtain rfl : os2 = s.os := hm.os
        show wpAny _ _ _ _ _ _
        refine wpAny_pure ?_
        show wpAny _ _ (ret Value.none) _ _ _
        rw [size] at hk
        refine wpAny_pure ⟨rfl, hp, tk2, k, rfl, hS, hk, fun b o e => ?_⟩
        have hb0 : b < s.heap.objs.size := Heap.lt_size e
        exact hm.heap b o (by rw [sz1, List.mem_cons, List.mem_singleton]; exact fun z => z.elim (Nat.ne_of_lt hb0) (Nat.ne_of_lt (Nat.lt_succ_of_lt hb0))) (Heap.get?_push_of_some _ (Heap.get?_push_of_some _ e))
      case behind =>
        cases r with
        | error e => exact hr
        | ok fl2 =>
          cases fl2 with
          | ret v =>
            obtain ⟨rfl, hp, tk, k, rfl, hS, hk, keep⟩ := hr
            repeat (any_goals (first | assumption | wp_step))
            exact h _ _ _ hS hk keep
          | _ => exact hr.elim
    | _ => exact hr.elim
end
/-- sorted(set(l)) -/
def insI (k : Int) : List Int → List Int
  | [] => [k]
  | x :: xs => if k < x then k :: x :: xs else if k = x then x :: xs else x :: insI k xs
def sset : List Int → List Int
  | [] => []
  | x :: xs => insI x (sset xs)
theorem mem_insI {k j : Int} : ∀ {xs : List Int}, j ∈ insI k xs ↔ j = k ∨ j ∈ xs
  | [] => by simp [insI]
  | x :: xs => by
    unfold insI
    split
    · simp
    · split
      · rename_i h; subst h; simp
      · rw [List.mem_cons, mem_insI (xs := xs), List.mem_cons]
        exact ⟨fun h => h.elim (fun z => .inr (.inl z)) fun z => z.elim .inl fun y => .inr (.inr y), fun h => h.elim (fun z => .inr (.inl z)) fun z => z.elim .inl fun y => .inr (.inr y)⟩
theorem mem_sset {j : Int} : ∀ {xs : List Int}, j ∈ sset xs ↔ j ∈ xs
  | [] => by simp [sset]
  | x :: xs => by rw [sset, mem_insI, mem_sset (xs := xs), List.mem_cons]
theorem insI_pw {k : Int} : ∀ {xs : List Int}, xs.Pairwise (· < ·) → (insI k xs).Pairwise (· < ·)
  | [], _ => by simp [insI]
  | x :: xs, h => by
    obtain ⟨h1, h2⟩ := List.pairwise_cons.mp h
    unfold insI
    split
    · refine List.pairwise_cons.mpr ⟨fun y hy => ?_, h⟩
      rcases List.mem_cons.mp hy with rfl | hy
      · assumption
      · have := h1 y hy; omega
    · split
      · exact h
      · refine List.pairwise_cons.mpr ⟨fun y hy => ?_, insI_pw h2⟩
        rcases mem_insI.mp hy with rfl | hy
        · omega
        · exact h1 y hy
theorem sset_pw : ∀ xs : List Int, (sset xs).Pairwise (· < ·)
  | [] => List.Pairwise.nil
  | x :: xs => insI_pw (sset_pw xs)
theorem pw_unique : ∀ {xs ys : List Int}, xs.Pairwise (· < ·) → ys.Pairwise (· < ·) → (∀ k, k ∈ xs ↔ k ∈ ys) → xs = ys
  | [], [], _, _, _ => rfl
  | [], y :: ys, _, _, h => absurd ((h y).mpr List.mem_cons_self) (by simp)
  | x :: xs, [], _, _, h => absurd ((h x).mp List.mem_cons_self) (by simp)
  | x :: xs, y :: ys, hx, hy, h => by
    obtain ⟨x1, x2⟩ := List.pairwise_cons.mp hx
    obtain ⟨y1, y2⟩ := List.pairwise_cons.mp hy
    have e : x = y := by
      rcases List.mem_cons.mp ((h x).mp List.mem_cons_self) with e | e
      · exact e
      · rcases List.mem_cons.mp ((h y).mpr List.mem_cons_self) with e2 | e2
        · exact e2.symm
        · have := y1 x e; have := x1 y e2; omega
    subst e
    rw [pw_unique x2 y2 fun k => ?_]
    have hk := h k
    rw [List.mem_cons, List.mem_cons] at hk
    refine ⟨fun z => ?_, fun z => ?_⟩
    · rcases hk.mp (.inr z) with e | e
      · have := x1 k z; omega
      · exact e
    · rcases hk.mpr (.inr z) with e | e
      · have := y1 k z; omega
      · exact e
theorem insI_len {k : Int} : ∀ xs : List Int, (insI k xs).length ≤ xs.length + 1
  | [] => by simp [insI]
  | x :: xs => by
    unfold insI
    split
    · simp
    · split
      · simp
      · have := insI_len (k := k) xs; simp; omega
theorem sset_len : ∀ xs : List Int, (sset xs).length ≤ xs.length
  | [] => by simp [sset]
  | x :: xs => by have h1 := sset_len xs; have h2 := insI_len (k := x) (sset xs); rw [sset, List.length_cons]; omega
def ssetF (x : DV) (m : Mu) (R : DV → Mu → Prop) : Prop := ∃ ns : List Int, vw m x = some (dInts ns) ∧ ns.length < 64 ∧ R (.d (dInts (sset ns))) m
/-- the set made of it, and what sorted makes of that -/
def rSetL (G : Ctx) (w : World) : List V → Hp → VK → Prop := fun xs H Q => ∃ x dx m ns, xs = [x] ∧ S0 G H m ∧ RV G (fz H m) x dx ∧ vw m dx = some (dInts ns) ∧ ns.length < 64 ∧ ∀ p c, H p = none → c ≤ ns.length → Q (.ref p) (upd H p (SetO w p (fun j => decide (j ∈ ns)) c))
section
variable {X : Cx} {G : Ctx}
theorem cr_setL (hc : X.calm = true) : CallR X (.type "set") (rSetL G X.w) := by
  intro pins s σ H xs us Q I r h
  obtain ⟨x, dx, m, ns, rfl, s0, r1, e, hz, q⟩ := h
  have rr := vw_rp s0 r1 e
  cases rr with
  | lst a1 a2 =>
    have e2 := a2.ints
    subst e2
    rw [Vals.ref1 r]
    obtain ⟨its, rv, pl, _⟩ := I.list (SqL.of a1)
    refine set_of_list ns (I.ok.hd hc) pl.isList (Vals.ints rv) (by show ns.length + 1 < scanBound; unfold scanBound; omega) fun hp tk c hS hc' keep => ?_
    exact ⟨.ref _, _, I.laid (t' := tk) keep (Nat.le_refl _) (setO_new hS), rfl, q _ c (I.hok.fresh (Nat.le_refl _)) hc'⟩
end
def tSset (G : Ctx) (w : World) (ta : TA) : TE := tCB (rSortedSet w) (tCons (tCB (rSetL G w) ta) tNil)
theorem ev_sset {G : Ctx} {w : World} {W : WX} {ds : DS} {m : Mu} {R : DV → Mu → Prop} {XR : Tag → Mu → Prop} {te : TE} (h : EvD G W te ds m (fun x m1 => ssetF x m1 R) XR) : EvD G W (tSset G w (tCons te tNil)) ds m R XR := fun σ H Q s r p x =>
  h σ H _ s r (fun v H1 d m1 t1 s1 r1 ⟨ns, e, hz, q⟩ => ⟨v, d, m1, ns, rfl, s1, r1, e, hz, fun a c ha hc => by
    refine ⟨a, fun j => decide (j ∈ ns), c, rfl, upd_same, Nat.lt_of_le_of_lt hc hz, fun ks b pw mem _ hb => ?_⟩
    have ek : ks = sset ns := pw_unique pw (sset_pw ns) fun k => by rw [mem k, mem_sset]; simp
    subst ek
    obtain ⟨s2, t2, _⟩ := s1.lay (o := SetO w a (fun j => decide (j ∈ ns)) c) ha
    exact (p.tr (t1.trans t2)).lay s2 hb (RpL.ofInts _) q⟩) x
theorem pe_sset {X : Cx} {G : Ctx} {e : Expr} {ta : TA} {p1 p2 q1 q2 : Pos} (hc : X.calm = true) (g1 : Gl X "sorted") (g2 : Gl X "set") (m1 : X.mg "sorted" = none) (m2 : X.mg "set" = none) (ha : PA X [e] ta)
    (hs : starEach [.Call (.Name "set" p2) [e] [] q2] X.env = (false, eval (.Call (.Name "set" p2) [e] [] q2) X.env) :: starEach [] X.env := by rfl) (he : starEach [e] X.env = (false, eval e X.env) :: starEach [] X.env := by rfl) :
    PE X (.Call (.Name "sorted" p1) [.Call (.Name "set" p2) [e] [] q2] [] q1) (tSset G X.w ta) :=
  pe_callB (cr_sortedSet hc) g1 m1 bt_sorted (pa_cons (pe_callTy (cr_setL hc) g2 m2 bt_set ha (by decide) (by decide) he) pa_nil hs) (by decide) (by decide) hs
/-! ### by the view -/
section
variable {m : Mu} {R : DV → Mu → Prop} {x y : DV} {a b : D} {xs : List D}
theorem v_ne (h1 : vw m x = some a) (h2 : vw m y = some b) (s1 : Sh 63 a) (s2 : Sh 63 b) (k : R (.d (.bl (!eqD a b))) m) : neF x y m R := by
  unfold neF
  split
  · cases h1; cases h2; exact ⟨s1, s2, k⟩
  · exact ⟨a, b, h1, h2, s1, s2, k⟩
theorem v_eq (h1 : vw m x = some a) (h2 : vw m y = some b) (s1 : Sh 63 a) (s2 : Sh 63 b) (k : R (.d (.bl (eqD a b))) m) : eqF x y m R := by
  unfold eqF
  split
  · cases h1; cases h2; exact ⟨s1, s2, k⟩
  · exact ⟨a, b, h1, h2, s1, s2, k⟩
theorem vw_cases (h : vw m x = some (.lst xs)) : x = .d (.lst xs) ∨ ∃ a, x = .r a ∧ m a = some (.lst xs) := by
  cases x with
  | d z => cases h; exact .inl rfl
  | r a =>
    have h : moL (m a) = some (.lst xs) := h
    cases e : m a with
    | none => rw [e] at h; cases h
    | some o =>
      rw [e] at h
      cases o with
      | lst ys => cases h; exact .inr ⟨a, rfl, e⟩
      | ins c fs => cases h
      | exc t => cases h
      | tpl es => cases h
      | dic kvs => cases h
      | tdc kvs => cases h
  | scr ns => cases h
theorem v_tru {RB : Bool → Mu → Prop} (h : vw m x = some (.lst xs)) (k : RB (!xs.isEmpty) m) : truF x m RB := by
  rcases vw_cases h with rfl | ⟨a, rfl, e⟩
  · exact k
  · exact ⟨xs, e, k⟩
theorem v_idx {i : Int} {z : D} (h : vw m x = some (.lst xs)) (e : atI xs i = some z) (k : R (.d z) m) : idxF x (.d (.int i)) m R := by
  rcases vw_cases h with rfl | ⟨a, rfl, e2⟩
  · exact ⟨z, e, k⟩
  · exact ⟨xs, e2, z, e, k⟩
theorem v_len (h : vw m x = some (.lst xs)) (k : R (.d (.int xs.length)) m) : lenF [x] m R := by
  rcases vw_cases h with rfl | ⟨a, rfl, e2⟩
  · exact k
  · exact ⟨xs, e2, k⟩
theorem v_in {i : Int} {ns : List Int} (h : vw m x = some (dInts ns)) (k : R (.d (.bl (decide (i ∈ ns)))) m) : inF (.d (.int i)) x m R := by
  rcases vw_cases h with rfl | ⟨a, rfl, e2⟩
  · exact f_in k
  · exact ⟨_, e2, sh_int, sh_ints, by rw [any_int]; exact k⟩
theorem v_list (h : vw m x = some (.lst xs)) (k : R (.d (.lst xs)) m) : listF [x] m R := by
  rcases vw_cases h with rfl | ⟨a, rfl, e2⟩
  · exact k
  · exact ⟨xs, e2, k⟩
end
/-! ### equality of data by kind -/
theorem eqDs_ints : ∀ (a b : List Int), PyData.eqvAll (toPys (a.map D.int)) (toPys (b.map D.int)) = decide (a = b)
  | [], [] => by simp [toPys, PyData.eqvAll]
  | [], y :: ys => by simp [toPys, PyData.eqvAll]
  | x :: xs, [] => by simp [toPys, PyData.eqvAll]
  | x :: xs, y :: ys => by
    have e := eqD_int x y
    unfold eqD at e
    rw [List.map_cons, List.map_cons, toPys, toPys, PyData.eqvAll, eqDs_ints xs ys, e]
    by_cases h1 : x = y
    · subst h1; simp
    · simp [h1]
theorem eqD_ints (a b : List Int) : eqD (dInts a) (dInts b) = decide (a = b) := by
  unfold eqD dInts
  rw [toPy, toPy, PyData.eqv, eqDs_ints]
theorem eqD_tup (a b : List Int) : eqD (dTup a) (dTup b) = decide (a = b) := by
  unfold eqD dTup
  rw [toPy, toPy, PyData.eqv, eqDs_ints]
theorem eqD_str (a b : Str) : eqD (.str a) (.str b) = decide (a = b) := by
  unfold eqD toPy
  rw [PyData.eqv]
  exact Bool.beq_eq_decide_eq a b
end Lb

/-! LbE: the ends. -/
namespace Lb
open PySem L2
/-- a promise that nobody can ask for -/
theorem fnF_none {P : Program} {mg : Str → Option Value} {base : Heap} {G : Ctx} {x qual : Str} {st : Stmt} {ps : List Str} {k : Nat} {S : SpD} (F : DefAt G mg x qual st ps) (no : ∀ es m R XR, S es m R XR → False) : FnF P G mg base k x ps S := by
  obtain ⟨f, fd, F1, b, m⟩ := F
  exact ⟨f, fd, ⟨fun vs H Q E ⟨es, m, R, XR, _, _, h, _⟩ => (no es m R XR h).elim, fun A outer s H args us vs Q E _ _ _ _ ⟨es, m, R, XR, _, _, h, _⟩ => (no es m R XR h).elim⟩, m, F1.kp, b⟩
/-- the law's promise, as the row wants it -/
def sp_law (K : PySem.W.Frag) : Sp := fun vs H Q _ => ∃ (a : Addr) (ns : List Int), vs = [.ref a] ∧ SqL K H a (ns.map V.int) ∧ ns.length ≤ 63 ∧ ∀ H', Q (.bl true) H'
theorem s0_none {G : Ctx} {H : Hp} : S0 G H (fun _ => none) := fun a o h => by cases h
theorem fz_empty {H : Hp} : fz H (fun _ => none) = H := by funext a; rfl
theorem law_end {P : Program} {mg : Str → Option Value} {base : Heap} {G : Ctx} {k : Nat} {f : Addr} {fd : FuncData} {S : SpD} (hS : ∀ (ns : List Int), ns.length ≤ 63 → S [.scr ns] (fun _ => none) (fun d _ => d = .d (.bl true)) (fun _ _ => False))
    (F : FnOk P G.w G.K mg base (L2.CX P G.w) k f fd ["script"] (spL G S)) : FnOk P G.w G.K mg base (L2.CX P G.w) k f fd ["script"] (sp_law G.K) :=
  F.imp fun vs H Q E ⟨a, ns, e, hq, hl, q⟩ => ⟨[.scr ns], fun _ => none, _, _, s0_none, by rw [e, fz_empty]; exact .cons ⟨a, rfl, hq⟩ .nil, hS ns hl, fun v H' d m' _ _ r hd => by
    subst hd
    cases r
    exact q H', fun _ _ _ _ _ _ z => z.elim⟩
theorem no_cx {P : Program} {w : World} {H : Hp} {s s' : Shared} {e : Value} (c : L2.CX P w [] H s (fun _ _ _ => False) e s') : False := by
  obtain ⟨a, B, H', cls, d, _, _, _, _, _, _, _, z⟩ := c
  exact z
end Lb

/-! LbT: lists of texts and the like. -/
namespace Lb
open PySem L2
theorem kit_ll : kitB "list" "list" = some true := by decide +kernel
theorem kit_bb : kitB "bool" "bool" = some true := by decide +kernel
theorem kit_ii : kitB "int" "int" = some true := by decide +kernel
theorem kit_ib : kitB "int" "bool" = some false := by decide +kernel
theorem sh_strs {n : Nat} {ss : List Str} (h : ss.all PyData.strOk = true) : Sh (n + 1) (.lst (ss.map D.str)) := by
  show ∀ x ∈ ss.map D.str, Sh n x
  intro x hx
  obtain ⟨s, hs, rfl⟩ := List.mem_map.mp hx
  have := List.all_eq_true.mp h s hs
  unfold Sh
  exact this
theorem sh_str {n : Nat} {s : Str} (h : PyData.strOk s = true) : Sh n (.str s) := by unfold Sh; exact h
theorem eqD_strs (a b : List Str) : eqD (.lst (a.map D.str)) (.lst (b.map D.str)) = decide (a = b) := by
  unfold eqD
  rw [toPy, toPy, PyData.eqv]
  induction a generalizing b with
  | nil => cases b <;> simp [toPys, PyData.eqvAll]
  | cons x xs ih =>
    cases b with
    | nil => simp [toPys, PyData.eqvAll]
    | cons y ys =>
      have e := eqD_str x y
      unfold eqD at e
      rw [List.map_cons, List.map_cons, toPys, toPys, PyData.eqvAll, ih, e]
      by_cases h : x = y
      · subst h; simp
      · simp [h]
/-- alike lists of texts -/
theorem ne_strs {R : DV → Mu → Prop} {m : Mu} (ss : List Str) (hs : ss.all PyData.strOk = true) {x y : DV} (hx : vw m x = some (.lst (ss.map D.str))) (hy : vw m y = some (.lst (ss.map D.str))) (h : R (.d (.bl false)) m) : neF x y m R := by
  refine v_ne hx hy (sh_strs hs) (sh_strs hs) ?_
  rw [eqD_strs, decide_eq_true rfl]
  exact h
theorem eq_strs {R : DV → Mu → Prop} {m : Mu} (ss : List Str) (hs : ss.all PyData.strOk = true) {x y : DV} (hx : vw m x = some (.lst (ss.map D.str))) (hy : vw m y = some (.lst (ss.map D.str))) (h : R (.d (.bl true)) m) : eqF x y m R := by
  refine v_eq hx hy (sh_strs hs) (sh_strs hs) ?_
  rw [eqD_strs, decide_eq_true rfl]
  exact h
/-! ### xs[::-1] -/
def tRev (G : Ctx) (te : TE) : TE := tRevL G.K te
theorem pe_rev {X : Cx} {G : Ctx} {e : Expr} {te : TE} {k : Nat} {p1 p2 p3 pos : Pos} (hK : X.K = G.K) (h : PE X e te) : PE X (.Subscript e (.Slice none none (some (.UnaryOp .USub (.Constant (.int 1) k p1) p2)) p3) pos) (tRev G te) := by
  unfold tRev
  rw [← hK]
  exact pe_revL h
theorem ev_rev {G : Ctx} {W : WX} {ds : DS} {m : Mu} {R : DV → Mu → Prop} {XR : Tag → Mu → Prop} {te : TE} (h : EvD G W te ds m (fun d m1 => ∃ xs, vw m1 d = some (.lst xs) ∧ R (.d (.lst xs.reverse)) m1) XR) : EvD G W (tRev G te) ds m R XR := fun σ H Q s r p x =>
  h σ H _ s r (fun v H1 d m1 t1 s1 r1 ⟨xs, e, q⟩ => by
    rcases vw_cases e with rfl | ⟨a, rfl, e2⟩
    · cases r1 with
      | lst h1 h2 => exact ⟨_, _, rfl, SqL.of (fz_ex _ _ h1), fun b hb => (p.tr t1).lay s1 hb h2.rev q⟩
    · cases r1
      obtain ⟨vs, h1, h2⟩ := s1 a _ e2
      exact ⟨_, _, rfl, SqL.of h1, fun b hb => (p.tr t1).lay s1 hb h2.rev q⟩) x
theorem f_notin {m : Mu} {R : DV → Mu → Prop} {k : Int} {ns : List Int} (h : R (.d (.bl (!decide (k ∈ ns)))) m) : notinF (.d (.int k)) (.d (dInts ns)) m R := by
  refine ⟨sh_int, sh_ints, ?_⟩
  rw [any_int]
  exact h
end Lb

/-! LbU: small things of use everywhere. -/
namespace Lb
open PySem L2
theorem ev_drop {G : Ctx} {W : WX} {ds : DS} {m : Mu} {R : DV → Mu → Prop} {XR : Tag → Mu → Prop} {te : TE} (h : EvD G W te ds m (fun d m1 => ∃ m2, Sub m2 m1 ∧ R d m2) XR) : EvD G W te ds m R XR := fun σ H Q s r p x =>
  h σ H _ s r (fun v H1 d m1 t1 s1 r1 ⟨m2, b, q⟩ => by
    obtain ⟨s2, t2⟩ := s1.sub b
    exact p v H1 d m2 (t1.trans t2) s2 (r1.mono t2) q) x
theorem sub_mset {m : Mu} {a : Addr} {o : MO} (h : m a = none) : Sub m (mset m a o) := fun b => by
  by_cases e : b = a
  · subst e; exact .inl h
  · exact .inr (mset_ne e).symm
theorem flatten_rep {α : Type} (x : α) : ∀ n : Nat, (List.replicate n [x]).flatten = List.replicate n x
  | 0 => rfl
  | n + 1 => by rw [List.replicate_succ, List.flatten_cons, flatten_rep x n]; rfl
theorem atI_lst {α : Type} {xs : List α} {x : α} (h : xs.getLast? = some x) : atI xs (-1) = some x := by
  have hl : 0 < xs.length := by
    cases xs with
    | nil => cases h
    | cons _ _ => exact Nat.succ_pos _
  unfold atI ixN
  rw [if_neg (by decide), if_pos (by omega)]
  have e : (-1 + (xs.length : Int)).toNat = xs.length - 1 := by omega
  rw [e]
  rw [List.getLast?_eq_getElem?] at h
  exact h
theorem map_set_range (f : Nat → D) (v : D) (n j : Nat) : ((List.range n).map f).set j v = (List.range n).map fun k => if k = j then v else f k := by
  apply List.ext_getElem?
  intro i
  by_cases hj : j = i
  · subst hj
    by_cases hi : j < n
    · rw [List.getElem?_set_self (by rw [List.length_map, List.length_range]; exact hi), List.getElem?_map, List.getElem?_range hi]
      simp
    · rw [List.getElem?_eq_none (by rw [List.length_set, List.length_map, List.length_range]; omega), List.getElem?_eq_none (by rw [List.length_map, List.length_range]; omega)]
  · rw [List.getElem?_set_ne hj, List.getElem?_map, List.getElem?_map]
    by_cases hi : i < n
    · rw [List.getElem?_range hi]
      simp [Ne.symm hj]
    · rw [List.getElem?_eq_none (by rw [List.length_range]; omega)]
      rfl
theorem atI_map_range (f : Nat → D) {n k : Nat} (h : k < n) : atI ((List.range n).map f) ((k : Nat) : Int) = some (f k) := by
  apply atI_nat
  rw [List.getElem?_map, List.getElem?_range h]
  rfl
theorem ixN_in {n j : Nat} (hj : j < n) : ixN n (j : Int) = some j := by
  unfold ixN
  rw [if_pos (by omega), if_pos (by omega), Int.toNat_natCast]
theorem atI_is {cs : List Int} {k : Nat} (h : k < cs.length) : atI (cs.map D.int) (0 + (k : Int)) = some (.int (cs.getD k 0)) := by
  rw [Int.zero_add]
  apply atI_nat
  rw [List.getElem?_map, List.getD_eq_getElem?_getD, List.getElem?_eq_getElem h]
  rfl
theorem getD_mem {cs : List Int} {k : Nat} (h : k < cs.length) : cs.getD k 0 ∈ cs := by
  rw [List.getD_eq_getElem?_getD, List.getElem?_eq_getElem h]
  exact List.getElem_mem h
theorem range_cons {α : Type} (f : Nat → α) (n : Nat) : (List.range (n + 1)).map f = f 0 :: (List.range n).map fun k => f (k + 1) := by
  rw [List.range_succ_eq_map, List.map_cons, List.map_map]
  rfl
theorem getD_map_range (f : Nat → Int) {n k : Nat} (h : k < n) : ((List.range n).map f).getD k 0 = f k := by
  rw [List.getD_eq_getElem?_getD, List.getElem?_map, List.getElem?_range h]
  rfl
structure Two (m : Mu) (a b : Addr) (Y N : List D) (m' : Mu) : Prop where
  y : m' a = some (.lst Y)
  n : m' b = some (.lst N)
  o : ∀ c, c ≠ a → c ≠ b → m' c = m c
theorem Two.setY {m m' : Mu} {a b : Addr} {Y N : List D} (t : Two m a b Y N m') (h : a ≠ b) (Z : List D) : Two m a b Z N (mset m' a (.lst Z)) := ⟨mset_same, by rw [mset_ne h.symm]; exact t.n, fun c h1 h2 => by rw [mset_ne h1]; exact t.o c h1 h2⟩
theorem Two.setN {m m' : Mu} {a b : Addr} {Y N : List D} (t : Two m a b Y N m') (h : a ≠ b) (Z : List D) : Two m a b Y Z (mset m' b (.lst Z)) := ⟨by rw [mset_ne h]; exact t.y, mset_same, fun c h1 h2 => by rw [mset_ne h2]; exact t.o c h1 h2⟩
theorem Two.done {m m' : Mu} {a b : Addr} {Y N : List D} (t : Two m a b Y N m') (ha : m a = none) (hb : m b = none) : mdel (mdel m' a) b = m := by
  funext c
  by_cases h2 : c = b
  · subst h2; rw [mdel_same, hb]
  · rw [mdel_ne h2]
    by_cases h1 : c = a
    · subst h1; rw [mdel_same, ha]
    · rw [mdel_ne h1]; exact t.o c h1 h2
theorem atI_js {cs : List Int} {k : Nat} (h : k < cs.length) : atI (cs.map D.int) (k : Int) = some (.int (cs.getD k 0)) := by
  have := atI_is h
  rwa [Int.zero_add] at this
def XAll (G : Ctx) : Prop := ∀ t, G.has t = true → PySem.W.exmOne G.K (.ref (G.ex t)) (.ref G.le) = some true
abbrev NL (R : DV → Mu → Prop) : EndsD := { nx := fun _ m' => R (.d .non) m', rt := R }
abbrev dBls (bs : List Bool) : D := .lst (bs.map D.bl)
theorem atI_qs {qs : List (List Int)} {t : Nat} (ht : t < qs.length) : atI (qs.map dInts) (0 + (t : Int)) = some (dInts (qs.getD t [])) := by
  rw [Int.zero_add]
  apply atI_nat
  rw [List.getElem?_map, List.getD_eq_getElem?_getD, List.getElem?_eq_getElem ht]
  rfl
theorem atI_bs {bs : List Bool} {t : Nat} (ht : t < bs.length) : atI (bs.map D.bl) (0 + (t : Int)) = some (D.bl (bs.getD t false)) := by
  rw [Int.zero_add]
  apply atI_nat
  rw [List.getElem?_map, List.getD_eq_getElem?_getD, List.getElem?_eq_getElem ht]
  rfl
theorem snoc_ind {α : Type} {P : List α → Prop} (nil : P []) (snoc : ∀ xs x, P xs → P (xs ++ [x])) (xs : List α) : P xs := by
  have h : ∀ ys : List α, P ys.reverse := by
    intro ys
    induction ys with
    | nil => exact nil
    | cons y ys ih => rw [List.reverse_cons]; exact snoc _ _ ih
  have := h xs.reverse
  rwa [List.reverse_reverse] at this
theorem cut_from {α : Type} (xs : List α) (k : Nat) : cut xs (some (k : Int)) none = xs.drop k := by
  unfold cut
  rw [HT.sIx_nat, HT.sIx_none]
  by_cases h : k ≤ xs.length
  · rw [Nat.min_eq_left h, List.take_of_length_le (by rw [List.length_drop]; exact Nat.le_refl _)]
  · rw [Nat.min_eq_right (by omega), List.drop_of_length_le (Nat.le_refl _), List.drop_of_length_le (by omega), List.take_nil]
theorem cut_to {α : Type} (xs : List α) (k : Nat) : cut xs none (some (k : Int)) = xs.take k := by
  unfold cut
  have e1 : HT.sIx xs.length 0 none = 0 := HT.sIx_none _ _
  rw [e1, HT.sIx_nat, List.drop_zero, Nat.sub_zero]
  by_cases h : k ≤ xs.length
  · rw [Nat.min_eq_left h]
  · rw [Nat.min_eq_right (by omega), List.take_length, List.take_of_length_le (by omega)]
theorem cut_tail {α : Type} (x : α) (xs : List α) : cut (x :: xs) (some 1) none = xs := cut_from (x :: xs) 1
theorem foldl_range_succ {α : Type} (f : α → Nat → α) (a : α) (n : Nat) : (List.range (n + 1)).foldl f a = f ((List.range n).foldl f a) n := by
  rw [List.range_succ, List.foldl_append]
  rfl
/-- a comprehension within another one: the outer block's names as they were told -/
theorem lookup_relabel {env : Env} : ∀ {names : List (Str × NameKind)} {x : Str}, (names.lookup x = some .cell ∨ names.lookup x = some .free) →
    (names.map fun (n, k) => if (k == NameKind.free && env.scope.kind == .function && env.kindOf n == some .cell) then (n, NameKind.cell) else (n, k)).lookup x = some .cell ∨
    (names.map fun (n, k) => if (k == NameKind.free && env.scope.kind == .function && env.kindOf n == some .cell) then (n, NameKind.cell) else (n, k)).lookup x = some .free
  | [], _, h => by simp at h
  | (n, k) :: r, x, h => by
    have ih := @lookup_relabel env r x
    show List.lookup x ((if (k == NameKind.free && env.scope.kind == .function && env.kindOf n == some .cell) = true then (n, NameKind.cell) else (n, k)) :: _) = _ ∨ List.lookup x ((if (k == NameKind.free && env.scope.kind == .function && env.kindOf n == some .cell) = true then (n, NameKind.cell) else (n, k)) :: _) = _
    cases hx : x == n with
    | true =>
      simp only [List.lookup_cons, hx] at h
      by_cases hc : (k == NameKind.free && env.scope.kind == .function && env.kindOf n == some .cell) = true
      · rw [if_pos hc]; simp only [List.lookup_cons, hx]; exact .inl trivial
      · rw [if_neg hc]; simp only [List.lookup_cons, hx]; exact h
    | false =>
      simp only [List.lookup_cons, hx] at h
      by_cases hc : (k == NameKind.free && env.scope.kind == .function && env.kindOf n == some .cell) = true
      · rw [if_pos hc]; simp only [List.lookup_cons, hx]; exact ih h
      · rw [if_neg hc]; simp only [List.lookup_cons, hx]; exact ih h
theorem blkOk_re {N : List Str} {sc scope : Scope} {env : Env} {own : List (Str × Nat)} (h : BlkOk N sc scope own) : BlkOk N (relabel sc env) scope own :=
  ⟨h.kind, h.uniq, h.ix, fun y hy e => lookup_relabel (h.free y hy e), h.own⟩
end Lb

/-! LbV: tuples that hold lists of our own. -/
namespace Lb
open PySem L2
theorem RVs.len {G : Ctx} {F : Hp} : ∀ {vs : List V} {es : List DV}, RVs G F vs es → vs.length = es.length
  | _, _, .nil => rfl
  | _, _, .cons _ t => by rw [List.length_cons, List.length_cons, RVs.len t]
theorem RVs.get {G : Ctx} {F : Hp} : ∀ {vs : List V} {ds : List DV} {i : Nat} {d : DV}, RVs G F vs ds → ds[i]? = some d → ∃ v, vs[i]? = some v ∧ RV G F v d
  | _, _, _, _, .nil, e => by simp at e
  | _, _, 0, _, .cons r _, e => by simp at e; subst e; exact ⟨_, rfl, r⟩
  | _, _, i + 1, d, .cons _ t, e => by
    obtain ⟨u, h1, h2⟩ := RVs.get (i := i) (d := d) t (by simpa using e)
    exact ⟨u, by simpa using h1, h2⟩
section
variable {G : Ctx} {W : WX} {ds : DS} {m : Mu} {R : DV → Mu → Prop} {XR : Tag → Mu → Prop}
/-- a tuple of which some things are our own -/
theorem ev_tupO {t : TA} (h : EvA G W t ds m (fun es m1 => es.length ≤ 100000 ∧ ∀ a, m1 a = none → R (.r a) (mset m1 a (.tpl es))) XR) : EvD G W (tTup t) ds m R XR := fun σ H Q s r p x =>
  h σ H _ s r (fun vs H1 es m1 t1 s1 r1 ⟨l, q⟩ => by
    refine ⟨sz_of (by rw [r1.len]; exact l), fun a ha => ?_⟩
    have ma := s1.free ha
    obtain ⟨s2, t2⟩ := s1.put (p := a) (o := .tup vs) (x := .tpl es) (by rw [fz_none ma]; exact ha) ⟨_, upd_same, r1⟩
    exact p _ _ (.r a) _ (t1.trans t2) s2 rfl (q a ma)) x
/-- a pair of a list of our own and data becomes data -/
theorem ev_frT {te : TE} (h : EvD G W te ds m (fun d m1 => ∃ a b xs x, d = .r b ∧ m1 b = some (.tpl [.r a, .d x]) ∧ m1 a = some (.lst xs) ∧ R (.d (.tup [.lst xs, x])) (mdel (mdel m1 a) b)) XR) : EvD G W te ds m R XR := fun σ H Q s r p x =>
  h σ H _ s r (fun v H1 d m1 t1 s1 r1 ⟨a, b, xs, x, e, eb, ea, q⟩ => by
    subst e
    cases r1
    obtain ⟨vs, e1, e2⟩ := s1 a _ ea
    obtain ⟨us, f1, f2⟩ := s1 b _ eb
    obtain ⟨s', tr⟩ := s1.del (p := a)
    obtain ⟨s2, tr2⟩ := s'.del (p := b)
    have hab : a ≠ b := fun z => by rw [z, eb] at ea; cases ea
    cases f2 with
    | cons g1 f2 =>
      cases f2 with
      | cons g2 f2 =>
        cases f2
        cases g1
        have t3 := tr.trans tr2
        refine p _ H1 _ _ (t1.trans t3) s2 (RV.dat (Rp.tup (by rw [fz_none mdel_same]; exact f1) (.cons (Rp.lst (by rw [fz_none (by rw [mdel_ne hab]; exact mdel_same)]; exact e1) (RpL.mono t3 _ _ e2)) (.cons (Rp.mono t3 _ _ g2) .nil)))) q) x
end
def idxT : F2
  | .r a, .d (.int i), m, R => ∃ es e, m a = some (.tpl es) ∧ atI es i = some e ∧ R e m
  | _, _, _, _ => False
theorem atI_rv {G : Ctx} {F : Hp} {vs : List V} {es : List DV} {i : Int} {e : DV} (r : RVs G F vs es) (h : atI es i = some e) : ∃ v, atI vs i = some v ∧ RV G F v e := by
  unfold atI at h ⊢
  rw [r.len]
  cases q : ixN es.length i with
  | none => rw [q] at h; cases h
  | some j =>
    rw [q] at h
    exact r.get h
theorem ix_T {X : Cx} {G : Ctx} : IxR X (rD2 G idxT) := by
  intro ve se pins s σ H x y v u Q I rx ry h hsub
  obtain ⟨dx, dy, m, R, s0, r1, r2, h, p⟩ := h
  unfold idxT at h
  split at h
  · obtain ⟨es, e, em, ee, h⟩ := h
    cases r2
    cases r1
    obtain ⟨vs, h1, h2⟩ := s0 _ _ em
    obtain ⟨z, e2, rz⟩ := atI_rv h2 ee
    exact ix_tup ve se pins s σ H _ _ v u Q I rx ry ⟨_, _, _, z, rfl, rfl, SqT.of h1, e2, p.here s0 rz h⟩ hsub
  · exact h.elim
end Lb

/-! LbO: objects of the program's own classes: fields, methods, making. -/
namespace Lb
open PySem L2
/-! ### fields -/
def putD (f : Str) (v : DV) : List (Str × DV) → List (Str × DV)
  | [] => [(f, v)]
  | (g, x) :: r => if g = f then (g, v) :: r else (g, x) :: putD f v r
theorem RF.look {G : Ctx} {F : Hp} {f : Str} {d : DV} : ∀ {vs : List (Str × V)} {fs : List (Str × DV)}, PySem.Paired (RF G F) vs fs → fs.lookup f = some d → ∃ v, vs.lookup f = some v ∧ RV G F v d
  | _, _, .nil, e => by cases e
  | (g, x) :: vs, (g', x') :: fs, .cons h t, e => by
    have h1 : g = g' := h.1
    subst h1
    rw [List.lookup_cons] at e ⊢
    cases q : f == g with
    | true =>
      rw [q] at e
      cases e
      exact ⟨x, rfl, h.2⟩
    | false =>
      rw [q] at e
      exact RF.look t e
theorem RF.lookN {G : Ctx} {F : Hp} {f : Str} : ∀ {vs : List (Str × V)} {fs : List (Str × DV)}, PySem.Paired (RF G F) vs fs → fs.lookup f = none → vs.lookup f = none
  | _, _, .nil, _ => rfl
  | (g, x) :: vs, (g', x') :: fs, .cons h t, e => by
    have h1 : g = g' := h.1
    subst h1
    rw [List.lookup_cons] at e ⊢
    cases q : f == g with
    | true => rw [q] at e; cases e
    | false => rw [q] at e; exact RF.lookN t e
theorem RF.put {G : Ctx} {F : Hp} {f : Str} {v : V} {d : DV} (r : RV G F v d) : ∀ {vs : List (Str × V)} {fs : List (Str × DV)}, PySem.Paired (RF G F) vs fs → PySem.Paired (RF G F) (putF f v vs) (putD f d fs)
  | _, _, .nil => .cons ⟨rfl, r⟩ .nil
  | (g, x) :: vs, (g', x') :: fs, .cons h t => by
    have h1 : g = g' := h.1
    subst h1
    unfold putF putD
    by_cases q : g = f
    · rw [if_pos q, if_pos q]; exact .cons ⟨rfl, r⟩ t
    · rw [if_neg q, if_neg q]; exact .cons h (RF.put r t)
theorem RF.len {G : Ctx} {F : Hp} : ∀ {vs : List (Str × V)} {fs : List (Str × DV)}, PySem.Paired (RF G F) vs fs → vs.length = fs.length
  | _, _, .nil => rfl
  | _, _, .cons _ t => by rw [List.length_cons, List.length_cons, RF.len t]
/-- what the top has made of a class -/
structure ClOk (G : Ctx) (c : CT) : Prop where
  cls : Cls G.K (G.cl c)
/-- o.f -/
def tFldD (G : Ctx) (c : CT) (ta : TE) (f : Str) : TE := fun σ H Q => ta σ H fun x H1 => ∃ a dx fs v, x = .ref a ∧ H1 a = some (.ins (G.cl c) dx fs) ∧ fs.lookup f = some v ∧ Q v H1
theorem pe_fldD {X : Cx} {G : Ctx} {c : CT} {e : Expr} {f : Str} {pos : Pos} {ta : TE} (hK : X.K = G.K) (cl : ClOk G c) (n : NoAttr G.K (G.cl c) f) (he : PE X e ta) (hb : attributeBase e f X.env (eval e X.env) = eval e X.env := by rfl) : PE X (.Attribute e f pos) (tFldD G c ta f) := by
  refine ⟨fun pins s σ H Q I h => ?_⟩
  refine attr_of hb (thn (he.run pins s σ H _ I h) fun u s1 ⟨x, H1, I1, rx, a, dx, fs, v, ex, ea, l, q⟩ => ?_)
  subst ex
  obtain rfl : u = Value.ref a := rx
  exact getattr_ok I1 ea (by rw [hK]; exact cl.cls) (by rw [hK]; exact n) l fun u' s2 I2 ru => ⟨v, H1, I2, ru, q⟩
/-- o.f = e -/
def sFldD (G : Ctx) (c : CT) (ta tv : TE) (f : Str) : TS := fun D σ H => tv σ H fun y H1 => ta σ H1 fun x H2 => ∃ a dx fs, x = .ref a ∧ H2 a = some (.ins (G.cl c) dx fs) ∧ fs.length < 1000 ∧ D.nx σ (upd H2 a (.ins (G.cl c) dx (putF f y fs)))
theorem ps_fldD {X : Cx} {G : Ctx} {c : CT} {o value : Expr} {f : Str} {pos pos' : Pos} {ta tv : TE} (hK : X.K = G.K) (cl : ClOk G c) (n : NoAttr G.K (G.cl c) f) (ha : PE X o ta) (hv : PE X value tv) (hs : swapsWith value (some (.Attribute o f pos')) pos.line X.env = pure false := by rfl) : PS X (.Assign [.Attribute o f pos'] value pos) (sFldD G c ta tv f) := by
  refine ⟨fun pins s σ H D I h => ?_⟩
  refine PySem.plainObj_wpAny_Assign_Attribute (thn (hv.run pins s σ H _ I h) fun u s1 ⟨y, H1, I1, ry, q⟩ => thn (ha.run pins s1 σ H1 _ I1 q) fun ov s2 ⟨x, H2, I2, rx, a, dx, fs, ex, ea, l, q2⟩ => ?_) hs
  subst ex
  obtain rfl : ov = Value.ref a := rx
  exact setattr_ok I2 ea (by rw [hK]; exact cl.cls) (by rw [hK]; exact n) l ry fun s3 I3 => ⟨σ, _, I3, q2⟩
section
variable {G : Ctx} {W : WX} {ds : DS} {m : Mu} {R : DV → Mu → Prop} {XR : Tag → Mu → Prop} {N : EndsD} {XS : Tag → DS → Mu → Prop} {c : CT} {ta tv : TE} {f : Str}
theorem ev_fld (h : EvD G W ta ds m (fun d m1 => ∃ a fs v, d = .r a ∧ m1 a = some (.ins c fs) ∧ fs.lookup f = some v ∧ R v m1) XR) : EvD G W (tFldD G c ta f) ds m R XR := fun σ H Q s r p x =>
  h σ H _ s r (fun v H1 d m1 t1 s1 r1 ⟨a, fs, dv, e, em, el, q⟩ => by
    subst e
    cases r1
    obtain ⟨dx, vs, h1, h2⟩ := s1 a _ em
    obtain ⟨u, e1, ru⟩ := RF.look h2 el
    exact ⟨a, dx, vs, u, rfl, h1, e1, p _ H1 _ m1 t1 s1 ru q⟩) x
theorem st_fld (h : EvD G W tv ds m (fun v m1 => EvD G W ta ds m1 (fun d m2 => ∃ a fs, d = .r a ∧ m2 a = some (.ins c fs) ∧ fs.length < 1000 ∧ N.nx ds (mset m2 a (.ins c (putD f v fs)))) (fun t m1 => XS t ds m1)) (fun t m1 => XS t ds m1)) : StD G W (sFldD G c ta tv f) ds m N XS := fun σ H E s r p =>
  h σ H _ s r (fun y H1 dy m1 t1 s1 r1 q1 => q1 σ H1 _ s1 (r.mono t1) (fun v H2 d m2 t2 s2 r2 ⟨a, fs, e, em, el, q⟩ => by
    subst e
    cases r2
    obtain ⟨dx, vs, h1, h2⟩ := s2 a _ em
    obtain ⟨s3, t3⟩ := s2.put (p := a) (o := .ins (G.cl c) dx (putF f y vs)) (x := .ins c (putD f dy fs)) (fz_some em) ⟨dx, _, upd_same, RF.put (r1.mono t2) h2⟩
    have t13 := (t1.trans t2).trans t3
    exact ⟨a, dx, vs, rfl, h1, by rw [RF.len h2]; exact el, p.nx _ _ _ _ t13 s3 (r.mono t13) q⟩) ((p.x r).tr t1)) (p.x r)
end
/-! ### methods -/
/-- a method stands in its class -/
def MethAt (G : Ctx) (c : CT) (x qual : Str) (st : Stmt) (ps : List Str) : Prop := ∃ f fd, Fun G.K x qual st f fd ∧ Binds G.K fd ps [] ∧ Meth G.K (G.cl c) x f
/-- .. and keeps its promise -/
def FnM (P : Program) (G : Ctx) (mg : Str → Option Value) (base : Heap) (k : Nat) (c : CT) (x : Str) (ps : List Str) (S : SpD) : Prop :=
  ∃ f fd, FnOk P G.w G.K mg base (L2.CX P G.w) k f fd ps (spL G S) ∧ Meth G.K (G.cl c) x f ∧ Binds G.K fd ps []
theorem fnM_mk {P : Program} {mg : Str → Option Value} {base : Heap} {G : Ctx} {c : CT} {x qual : Str} {st : Stmt} {N ps : List Str} {k : Nat} {S : SpD} {rd : WX → TS} (F : MethAt G c x qual st ps) (sc : FnScope N ps (defScope st))
    (len : ∀ es m R XR, S es m R XR → es.length = ps.length) (sem : BodyD G N.length rd S)
    (hbody : ∀ (f : Addr) (cdv : Value) (A : Around) (outer : List Env) (s : Shared) (H : Hp) (E : XK), Room k (A.deeper (PyProof.Rows.envOfC qual (defScope st) s.heap.objs.size f cdv)) →
      PSs (cxOf (L2.CX P G.w) P G.w G.K mg base N qual (defScope st) f cdv A outer s H E) (defBody st) (rd fun c d _ H' => E c d H')) : FnM P G mg base (k + 1) c x ps S := by
  obtain ⟨f, fd, F1, b, m⟩ := F
  exact ⟨f, fd, fn_D F1 sc len sem (hbody f), m, b⟩
theorem fnM_none {P : Program} {mg : Str → Option Value} {base : Heap} {G : Ctx} {c : CT} {x qual : Str} {st : Stmt} {ps : List Str} {k : Nat} {S : SpD} (F : MethAt G c x qual st ps) (no : ∀ es m R XR, S es m R XR → False) : FnM P G mg base k c x ps S := by
  obtain ⟨f, fd, F1, b, m⟩ := F
  exact ⟨f, fd, ⟨fun vs H Q E ⟨es, m, R, XR, _, _, h, _⟩ => (no es m R XR h).elim, fun A outer s H args us vs Q E _ _ _ _ ⟨es, m, R, XR, _, _, h, _⟩ => (no es m R XR h).elim⟩, m, b⟩
theorem FnM.up {P : Program} {mg : Str → Option Value} {base : Heap} {G : Ctx} {c : CT} {x : Str} {ps : List Str} {j k : Nat} {S : SpD} (h : FnM P G mg base j c x ps S) (hk : j ≤ k) : FnM P G mg base k c x ps S := by
  obtain ⟨f, fd, F, r⟩ := h
  exact ⟨f, fd, F.mono hk, r⟩
/-- o.m(..) -/
def tMethD (G : Ctx) (c : CT) (mn : Str) (sp : Sp) (E : L2.St → XK) (ta : TE) (t : TA) : TE := fun σ H Q => ta σ H fun x H1 => ∃ a dx fs, x = .ref a ∧ H1 a = some (.ins (G.cl c) dx fs) ∧ fs.lookup mn = none ∧ t σ H1 fun vs H2 => sp (x :: vs) H2 Q (E σ)
section
variable {X : Cx} {G : Ctx} {W : WX} {k : Nat} {c : CT} {ps : List Str} {S : SpD} {mn : Str} {pos apos : Pos} {e o : Expr} {es : List Expr} {ta : TE} {t : TA}
theorem pe_methD {pl : Sem Bool} (h : FnM X.prog G X.mg X.base k c mn ps S) (hK : X.K = G.K) (hw : X.w = G.w) (cl : ClOk G c) (hr : Room k X.A) (tk : Takes X W) (he : PE X o ta) (ha : PA X (e :: es) t)
    (hst : starEach (e :: es) X.env = (false, eval e X.env) :: starEach es X.env := by rfl) (hpl : (backTo pos (starEach es X.env)).any (·.1) = false := by rfl)
    (ht : eval (.Call (.Attribute o mn apos) (e :: es) [] pos) X.env = (do
      let ov ← eval o X.env
      standAt apos.atName
      let (f, first) ← holding [ov] (getMethod ov mn pl)
      callWith pos f first (backTo pos (starEach (e :: es) X.env)) (backToKw pos (keywordEach [] X.env))) := by rfl) :
    PE X (.Call (.Attribute o mn apos) (e :: es) [] pos) (tMethD G c mn (spL G S) (WE W) ta t) := by
  obtain ⟨f, fd, F, mt, b⟩ := h
  rw [← hK, ← hw] at F
  rw [← hK] at mt b
  have c1 := cl.cls
  rw [← hK] at c1
  refine ⟨fun pins s σ H Q I h => ?_⟩
  refine PySem.W.methodCall_KW (pl := pl) (thn (he.run pins s σ H _ I h) fun u s1 ⟨x, H1, I1, rx, a, dx, fs, ex, ea, l, q⟩ => ?_) ht
  subst ex
  obtain rfl : u = Value.ref a := rx
  refine getmeth_ok I1 ea c1 mt l ?_
  refine PySem.W.callWith_K (first := [.ref a]) (h₀ := X.base) I.ok.mod.kin mt.kp (thn (ha.run pos pins s1 σ H1 _ I1 q) fun us s2 ⟨vs, H2, I2, r, q2⟩ => ⟨I2.kIn, ?_⟩) hst hpl
  exact run_fnS (us := .ref a :: us) (vs := .ref a :: vs) F hr b (passAt tk σ) I2 (.cons rfl r) q2
theorem pe_methD0 {pl : Sem Bool} (h : FnM X.prog G X.mg X.base k c mn ps S) (hK : X.K = G.K) (hw : X.w = G.w) (cl : ClOk G c) (hr : Room k X.A) (tk : Takes X W) (he : PE X o ta)
    (ht : eval (.Call (.Attribute o mn apos) [] [] pos) X.env = (do
      let ov ← eval o X.env
      standAt apos.atName
      let (f, first) ← holding [ov] (getMethod ov mn pl)
      callWith pos f first (backTo pos (starEach [] X.env)) (backToKw pos (keywordEach [] X.env))) := by rfl) :
    PE X (.Call (.Attribute o mn apos) [] [] pos) (tMethD G c mn (spL G S) (WE W) ta tNil) := by
  obtain ⟨f, fd, F, mt, b⟩ := h
  rw [← hK, ← hw] at F
  rw [← hK] at mt b
  have c1 := cl.cls
  rw [← hK] at c1
  refine ⟨fun pins s σ H Q I h => ?_⟩
  refine PySem.W.methodCall_KW (pl := pl) (thn (he.run pins s σ H _ I h) fun u s1 ⟨x, H1, I1, rx, a, dx, fs, ex, ea, l, q⟩ => ?_) ht
  subst ex
  obtain rfl : u = Value.ref a := rx
  refine getmeth_ok I1 ea c1 mt l ?_
  exact PySem.W.callWith_K0 (first := [.ref a]) I1.kIn mt.kp (run_fnS (us := [.ref a]) (vs := [.ref a]) F hr b (passAt tk σ) I1 (.cons rfl .nil) q)
end
/-! ### making -/
structure MkOk (G : Ctx) (mg : Str → Option Value) (c : CT) (x : Str) : Prop where
  g : mg x = some (.ref (G.cl c))
  makes : PySem.W.makesIn G.K (G.cl c) = true
  kp : PySem.W.keepIn G.K (.ref (G.cl c)) = true
def tMakeS (G : Ctx) (c : CT) (sp : Sp) (E : L2.St → XK) (t : TA) : TE := fun σ H Q => t σ H fun vs H1 => ∀ x dx, H1 x = none → H1 dx = none → dx ≠ x →
  sp (.ref x :: vs) (upd (upd H1 dx (.own x)) x (.ins (G.cl c) dx [])) (fun v H2 => v = .non ∧ Q (.ref x) H2) (E σ)
section
variable {X : Cx} {CX : CXT} {k : Nat} {f C : Addr} {fd : FuncData} {ps : List Str} {sp : Sp} {E : L2.St → XK}
theorem run_makeS {pins : List (Addr × Obj)} {σ : L2.St} {H : Hp} {s : Shared} {Q : VK} {us : List Value} {vs : List V} (M : Mk X.K C f) (F : FnOk X.prog X.w X.K X.mg X.base CX k f fd ps sp) (hr : Room (k + 1) X.A) (hb : Binds X.K fd ps [])
    (hx : PassesAt CX X σ (E σ)) (I : L2.Inv X pins σ H s) (r : Vals vs us)
    (h : ∀ x dx, H x = none → H dx = none → dx ≠ x → sp (.ref x :: vs) (upd (upd H dx (.own x)) x (.ins C dx [])) (fun v H2 => v = .non ∧ Q (.ref x) H2) (E σ)) :
    wpAny (model X.prog X.w) X.A (call (.ref C) us) (EP X pins σ Q) X.xe s := by
  have hq := h (s.heap.objs.size + 1) s.heap.objs.size (I.hok.fresh (Nat.le_succ _)) (I.hok.fresh (Nat.le_refl _)) (Nat.ne_of_lt (Nat.lt_succ_self _))
  have I2 := Inv.made (C := C) I
  have r2 : Vals (V.ref (s.heap.objs.size + 1) :: vs) (Value.ref (s.heap.objs.size + 1) :: us) := .cons rfl r
  have hl : (Value.ref (s.heap.objs.size + 1) :: us).length = ps.length := by
    have e := r2.length
    rw [F.len _ _ _ _ hq] at e
    exact e.symm
  have b := hb { s with heap := (s.heap.push PySem.W.emptyDict).push (PySem.W.instObj C s.heap.objs.size) } (Value.ref (s.heap.objs.size + 1) :: us) I2.kIn (by rw [List.append_nil]; exact hl)
  rw [List.append_nil] at b
  refine wpAny_call (make_map (f := f) I.kIn M.makes M.init (beq_iff_eq.mp M.fn) (codeAny_mono (F.run _ X.stack _ _ ⟨Value.ref (s.heap.objs.size + 1) :: us, []⟩ (Value.ref (s.heap.objs.size + 1) :: us) _ _ (E σ) (hr.make C us [])
    (I2.env0.make C us []) b r2 hq) fun r s' hq' => ?_))
  cases r with
  | error e => exact hx pins _ _ e s' I2 hq'
  | ok fl =>
    cases fl with
    | ret u =>
      obtain ⟨v, H', I3, rv, ev, q3⟩ := I2.after hq'
      subst ev
      exact ⟨rv, ⟨V.ref (s.heap.objs.size + 1), H', I3, rfl, q3⟩⟩
    | next => exact False.elim hq'
    | brk => exact False.elim hq'
    | cont => exact False.elim hq'
end
section
variable {X : Cx} {G : Ctx} {W : WX} {k : Nat} {c : CT} {ps : List Str} {S : SpD} {x : Str} {p pos : Pos} {e : Expr} {es : List Expr} {t : TA}
theorem pe_makeS (h : FnM X.prog G X.mg X.base k c "__init__" ps S) (hK : X.K = G.K) (hw : X.w = G.w) (M : MkOk G X.mg c x) (hr : Room (k + 1) X.A) (tk : Takes X W) (hg : Gl X x) (ha : PA X (e :: es) t)
    (hdb : (x == ("__debug__" : Str)) = false := by decide) (he : starEach (e :: es) X.env = (false, eval e X.env) :: starEach es X.env := by rfl) (hpl : (backTo pos (starEach es X.env)).any (·.1) = false := by rfl) :
    PE X (.Call (.Name x p) (e :: es) [] pos) (tMakeS G c (spL G S) (WE W) t) := by
  obtain ⟨f, fd, F, mt, b⟩ := h
  rw [← hK, ← hw] at F
  rw [← hK] at mt b
  have M1 : Mk X.K (G.cl c) f := ⟨by rw [hK]; exact M.makes, mt.at_, mt.fn, by rw [hK]; exact M.kp⟩
  refine ⟨fun pins s σ H Q I h => ?_⟩
  refine wpAny_Call_Name_kw (ld_glob I hg M.g ?_ hdb)
  refine PySem.W.callWith_K (h₀ := X.base) I.ok.mod.kin M1.kp (thn (ha.run pos pins s σ H _ I h) fun us s1 ⟨vs, H1, I1, r, q⟩ => ⟨I1.kIn, ?_⟩) he hpl
  exact run_makeS M1 F hr b (passAt tk σ) I1 r q
theorem pe_makeS0 (h : FnM X.prog G X.mg X.base k c "__init__" ps S) (hK : X.K = G.K) (hw : X.w = G.w) (M : MkOk G X.mg c x) (hr : Room (k + 1) X.A) (tk : Takes X W) (hg : Gl X x)
    (hdb : (x == ("__debug__" : Str)) = false := by decide) :
    PE X (.Call (.Name x p) [] [] pos) (tMakeS G c (spL G S) (WE W) tNil) := by
  obtain ⟨f, fd, F, mt, b⟩ := h
  rw [← hK, ← hw] at F
  rw [← hK] at mt b
  have M1 : Mk X.K (G.cl c) f := ⟨by rw [hK]; exact M.makes, mt.at_, mt.fn, by rw [hK]; exact M.kp⟩
  refine ⟨fun pins s σ H Q I h => ?_⟩
  refine wpAny_Call_Name_kw (ld_glob I hg M.g ?_ hdb)
  exact PySem.W.callWith_K0 I.kIn M1.kp (run_makeS (us := []) M1 F hr b (passAt tk σ) I .nil h)
end
section
variable {G : Ctx} {W : WX} {ds : DS} {m : Mu} {R : DV → Mu → Prop} {XR : Tag → Mu → Prop} {c : CT} {ta : TE} {t : TA} {mn : Str} {S : SpD}
theorem ev_meth (h : EvD G W ta ds m (fun d m1 => ∃ a fs, d = .r a ∧ m1 a = some (.ins c fs) ∧ fs.lookup mn = none ∧ EvA G W t ds m1 (fun es m2 => S (.r a :: es) m2 R XR) XR) XR) : EvD G W (tMethD G c mn (spL G S) (WE W) ta t) ds m R XR := fun σ H Q s r p x =>
  h σ H _ s r (fun v H1 d m1 t1 s1 r1 ⟨a, fs, e, em, el, q1⟩ => by
    subst e
    cases r1
    obtain ⟨dx, vs, h1, h2⟩ := s1 a _ em
    exact ⟨a, dx, vs, rfl, h1, RF.lookN h2 el, q1 σ H1 _ s1 (r.mono t1) (fun us H2 es m2 t2 s2 r2 q2 => ⟨.r a :: es, m2, R, XR, s2, .cons rfl r2, q2, p.tr (t1.trans t2), x.tr (t1.trans t2)⟩) (x.tr t1)⟩) x
/-- C(..); an error leaves what was made behind -/
theorem ev_make (h : EvA G W t ds m (fun es m1 => ∀ a, m1 a = none → S (.r a :: es) (mset m1 a (.ins c [])) (fun d m2 => d = .d .non ∧ R (.r a) m2) (fun t m2 => ∃ m3, Sub m3 m2 ∧ XR t m3)) XR) : EvD G W (tMakeS G c (spL G S) (WE W) t) ds m R XR := fun σ H Q s r p x =>
  h σ H _ s r (fun vs H1 es m1 t1 s1 r1 q1 a dx ha hdx hne => by
    obtain ⟨s2, t2, e2⟩ := s1.lay (p := dx) (o := .own a) hdx
    have ha2 : upd H1 dx (.own a) a = none := by rw [upd_ne (Ne.symm hne)]; exact ha
    have ma := s1.free ha
    obtain ⟨s3, t3⟩ := s2.put (p := a) (o := .ins (G.cl c) dx []) (x := .ins c []) (by rw [fz_none ma]; exact ha2) ⟨dx, [], upd_same, .nil⟩
    have t23 := t2.trans t3
    refine ⟨.r a :: es, mset m1 a (.ins c []), _, _, s3, .cons rfl (RVs.mono t23 r1), q1 a ma, ?_, ?_⟩
    · rintro v H2 d m2 t4 s4 r4 ⟨rfl, q⟩
      cases r4
      exact ⟨rfl, p _ H2 (.r a) m2 ((t1.trans t23).trans t4) s4 rfl q⟩
    · rintro tg htg H2 m2 t4 s4 ⟨m3, hsub, q⟩
      obtain ⟨s5, t5⟩ := s4.sub hsub
      exact x tg htg H2 m3 (((t1.trans t23).trans t4).trans t5) s5 q) x
/-- walks over a list of our own -/
theorem ev_lcm {g : TG} {tt : TT} {te : TE} {vs : List Nat} (h : EvD G W ta ds m (fun d m1 => ∃ a xs, d = .r a ∧ m1 a = some (.lst xs) ∧ LcR G g tt te vs ds (fun l => R (.d (.lst l)) m1) (xs.map DV.d) (fun m => m a = some (.lst xs)) m1) XR) : EvD G W (tLc (iList G.K ta) g tt te vs) ds m R XR := ev_lc (ei_mut h)
theorem ev_lcmO {g : TG} {tt : TT} {te : TE} {vs : List Nat} (h : EvD G W ta ds m (fun d m1 => ∃ a xs, d = .r a ∧ m1 a = some (.lst xs) ∧ LcR G g tt te vs ds (fun l => ∀ b, m1 b = none → R (.r b) (mset m1 b (.lst l))) (xs.map DV.d) (fun m => m a = some (.lst xs)) m1) XR) : EvD G W (tLc (iList G.K ta) g tt te vs) ds m R XR := ev_lcO (ei_mut h)
theorem st_form {N : EndsD} {XS : Tag → DS → Mu → Prop} {g : TG} {tb : TS} (h : EvD G W ta ds m (fun d m1 => ∃ a xs, d = .r a ∧ m1 a = some (.lst xs) ∧ ForR G W g tb ds N XS (xs.map DV.d) (fun m => m a = some (.lst xs)) m1) (fun t m1 => XS t ds m1)) : StD G W (tFor (iList G.K ta) g tb) ds m N XS := st_for (ei_mut h)
end
theorem x_fld {m : Mu} {a : Addr} {c : CT} {fs : List (Str × DV)} {f : Str} {v : DV} {P : DV → Prop} (hm : m a = some (.ins c fs)) (hl : fs.lookup f = some v) (h : P v) : ∃ a' fs' v', DV.r a = .r a' ∧ m a' = some (.ins c fs') ∧ fs'.lookup f = some v' ∧ P v' := ⟨a, fs, v, rfl, hm, hl, h⟩
theorem x_meth {m : Mu} {a : Addr} {c : CT} {fs : List (Str × DV)} {f : Str} {P : Addr → Prop} (hm : m a = some (.ins c fs)) (hl : fs.lookup f = none) (h : P a) : ∃ a' fs', DV.r a = .r a' ∧ m a' = some (.ins c fs') ∧ fs'.lookup f = none ∧ P a' := ⟨a, fs, rfl, hm, hl, h⟩
theorem x_set {m : Mu} {a : Addr} {c : CT} {fs : List (Str × DV)} {P : Addr → List (Str × DV) → Prop} (hm : m a = some (.ins c fs)) (hl : fs.length < 1000) (h : P a fs) : ∃ a' fs', DV.r a = .r a' ∧ m a' = some (.ins c fs') ∧ fs'.length < 1000 ∧ P a' fs' := ⟨a, fs, rfl, hm, hl, h⟩
/-- a display that is to be our own -/
def tLstO (t : TA) : TE := tLst t
theorem pe_lstO {X : Cx} {es : List Expr} {t : TA} {pos : Pos} (h : PA X es t) : PE X (.List es pos) (tLstO t) := pe_lst h
theorem ev_lstP {G : Ctx} {W : WX} {ds : DS} {m : Mu} {R : DV → Mu → Prop} {XR : Tag → Mu → Prop} {t : TA} (h : EvA G W t ds m (fun es m1 => ∃ xs : List D, es = xs.map DV.d ∧ xs.length ≤ 100000 ∧ ∀ a, m1 a = none → R (.r a) (mset m1 a (.lst xs))) XR) : EvD G W (tLstO t) ds m R XR := ev_lstO h
end Lb

/-! LbW: more small things. -/
namespace Lb
open PySem L2
theorem ne_new {m : Mu} {a b : Addr} {o : MO} (h : m a = some o) (hb : m b = none) : a ≠ b := fun e => by rw [e, hb] at h; cases h
theorem vw_new {m : Mu} {x : DV} {xs : List D} {d : Addr} {o : MO} (h : vw m x = some (.lst xs)) (hd : m d = none) : vw (mset m d o) x = some (.lst xs) := by
  rcases vw_cases h with rfl | ⟨a, rfl, e⟩
  · rfl
  · exact vw_r (by rw [mset_ne (ne_new e hd)]; exact e)
theorem none_mset {m : Mu} {d e : Addr} {o : MO} (h : mset m d o e = none) : e ≠ d ∧ m e = none := by
  by_cases z : e = d
  · subst z; rw [mset_same] at h; cases h
  · rw [mset_ne z] at h; exact ⟨z, h⟩
theorem Sub.refl (m : Mu) : Sub m m := fun _ => .inr rfl
theorem Sub.new {m m1 : Mu} {x : Addr} {o : MO} (h : Sub m m1) (hx : m x = none) : Sub m (mset m1 x o) := fun b => by
  by_cases e : b = x
  · subst e; exact .inl hx
  · rw [mset_ne e]; exact h b
mutual
theorem eqD_refl : ∀ d : D, eqD d d = true
  | .non => by unfold eqD; rw [toPy, PyData.eqv]
  | .bl b => by rw [eqD_bl]; exact beq_self_eq_true b
  | .int i => by rw [eqD_int]; exact decide_eq_true rfl
  | .str s => by rw [eqD_str]; exact decide_eq_true rfl
  | .lst xs => by unfold eqD; rw [toPy, PyData.eqv]; exact eqDs_refl xs
  | .tup xs => by unfold eqD; rw [toPy, PyData.eqv]; exact eqDs_refl xs
theorem eqDs_refl : ∀ xs : List D, PyData.eqvAll (toPys xs) (toPys xs) = true
  | [] => by rw [toPys, PyData.eqvAll]
  | x :: xs => by
    have h := eqD_refl x
    unfold eqD at h
    rw [toPys, PyData.eqvAll, h, eqDs_refl xs]
    rfl
end
theorem ne_self {R : DV → Mu → Prop} {m : Mu} {x y : DV} (a : D) (hx : vw m x = some a) (hy : vw m y = some a) (hs : Sh 63 a) (h : R (.d (.bl false)) m) : neF x y m R := by
  refine v_ne hx hy hs hs ?_
  rw [eqD_refl]
  exact h
theorem eq_self {R : DV → Mu → Prop} {m : Mu} {x y : DV} (a : D) (hx : vw m x = some a) (hy : vw m y = some a) (hs : Sh 63 a) (h : R (.d (.bl true)) m) : eqF x y m R := by
  refine v_eq hx hy hs hs ?_
  rw [eqD_refl]
  exact h
abbrev sc0 (ns : List Int) : Option DV := some (.scr ns)
abbrev sN (n : Nat) : Option DV := some (.d (.int (n : Nat)))
end Lb

/-! LbD: dicts whose keys are tuples, nested. -/
namespace Lb
open PySem L2
/-! ### data as keys -/
mutual
theorem key_is {P : Program} {w : World} {H : Hp} {h : Heap} (ok : HOk P w H h) : ∀ (d : D) (v : V) (u : Value), isKey d = true → Rp H v d → RelV v u → NestedIs h (toKey d) u
  | .non, _, _, _, r, q => by
    cases r
    cases (show _ = Value.none from q)
    rw [toKey]
    exact .none
  | .bl b, _, _, _, r, q => by
    cases r
    cases (show _ = Value.bool b from q)
    rw [toKey]
    exact .bool rfl
  | .int i, _, _, _, r, q => by
    cases r
    obtain ⟨t, rfl⟩ := (show ∃ t, _ = Value.int i t from q)
    rw [toKey]
    exact .int i t
  | .str x, _, _, _, r, q => by
    cases r
    obtain ⟨t, rfl⟩ := (show ∃ t, _ = Value.str x t from q)
    rw [toKey]
    exact .text x t
  | .lst _, _, _, z, _, _ => by rw [isKey] at z; cases z
  | .tup xs, _, _, z, r, q => by
    cases r with
    | tup h1 h2 =>
      cases (show _ = Value.ref _ from q)
      obtain ⟨_, its, rr, o, e1, e2, n, e3⟩ := (show ObjOk P w H h _ (.tup _) from ok _ _ h1)
      rw [toKey]
      rw [isKey] at z
      exact .tup e1 e2 e3 (by simpa using keys_are ok xs _ its z h2 rr)
theorem keys_are {P : Program} {w : World} {H : Hp} {h : Heap} (ok : HOk P w H h) : ∀ (ds : List D) (vs : List V) (us : List Value), isKeys ds = true → RpL H vs ds → Vals vs us → NestedAll h (toKeys ds) us
  | [], _, _, _, r, q => by
    cases r
    cases q
    rw [toKeys]
    exact .nil
  | d :: ds, _, _, z, r, q => by
    cases r with
    | cons a b =>
      cases q with
      | cons a' b' =>
        rw [isKeys, Bool.and_eq_true] at z
        rw [toKeys]
        exact .cons (key_is ok d _ _ z.1 a a') (keys_are ok ds _ _ z.2 b b')
end
/-! ### dicts by data -/
def dgetN (kvs : List (D × D)) (k : D) : Option D := (kvs.find? fun p => decide (toKey p.1 = toKey k)).map (·.2)
def dputN (kvs : List (D × D)) (k v : D) : List (D × D) := if (dgetN kvs k).isSome then kvs.map fun p => if toKey p.1 = toKey k then (p.1, v) else p else kvs ++ [(k, v)]
theorem RKs.get {F : Hp} {k : D} : ∀ {xs : List (NestedKey × Addr × Value)} {kvs : List (D × D)}, RKs F xs kvs →
    (∃ p d v, atKey xs (toKey k) = some p ∧ dgetN kvs k = some d ∧ Rp F v d ∧ RelV v p.2) ∨ (atKey xs (toKey k) = none ∧ dgetN kvs k = none)
  | _, _, .nil => .inr ⟨rfl, rfl⟩
  | (k1, a1, v1) :: xs, (d1, e1) :: kvs, .cons h t => by
    have hk : k1 = toKey d1 := h.k
    by_cases e : toKey d1 = toKey k
    · left
      obtain ⟨v, hv1, hv2⟩ := h.v
      refine ⟨(a1, v1), e1, v, ?_, ?_, hv1, hv2⟩
      · unfold atKey
        rw [List.find?_cons_of_pos (by rw [hk]; exact decide_eq_true e)]
        rfl
      · unfold dgetN
        rw [List.find?_cons_of_pos (by exact decide_eq_true e)]
        rfl
    · have ih := RKs.get (k := k) t
      have q1 : atKey ((k1, a1, v1) :: xs) (toKey k) = atKey xs (toKey k) := by
        unfold atKey
        rw [List.find?_cons_of_neg (by rw [decide_eq_true_eq, hk]; exact e)]
      have q2 : dgetN ((d1, e1) :: kvs) k = dgetN kvs k := by
        unfold dgetN
        rw [List.find?_cons_of_neg (by rw [decide_eq_true_eq]; exact e)]
      rw [q1, q2]
      exact ih
theorem RKs.len {F : Hp} : ∀ {xs : List (NestedKey × Addr × Value)} {kvs : List (D × D)}, RKs F xs kvs → xs.length = kvs.length
  | _, _, .nil => rfl
  | _, _, .cons _ t => by rw [List.length_cons, List.length_cons, RKs.len t]
theorem RKs.app {F : Hp} : ∀ {xs ys : List (NestedKey × Addr × Value)} {kvs lvs : List (D × D)}, RKs F xs kvs → RKs F ys lvs → RKs F (xs ++ ys) (kvs ++ lvs)
  | _, _, _, _, .nil, s => s
  | _, _, _, _, .cons r t, s => .cons r (RKs.app t s)
theorem RKs.over {F : Hp} {k d : D} {v : V} {u : Value} (hv : Rp F v d) (hu : RelV v u) : ∀ {xs : List (NestedKey × Addr × Value)} {kvs : List (D × D)}, RKs F xs kvs → RKs F (xs.map (putAt (toKey k) u)) (kvs.map fun p => if toKey p.1 = toKey k then (p.1, d) else p)
  | _, _, .nil => .nil
  | (k1, a1, v1) :: xs, (d1, e1) :: kvs, .cons h t => by
    have hk : k1 = toKey d1 := h.k
    refine .cons ?_ (RKs.over hv hu t)
    show RK F (putAt (toKey k) u (k1, a1, v1)) (if toKey d1 = toKey k then (d1, d) else (d1, e1))
    unfold putAt
    by_cases e : toKey d1 = toKey k
    · rw [if_pos (by show k1 = toKey k; rw [hk]; exact e), if_pos e]
      exact ⟨h.k, h.d, h.i, h.a, v, hv, hu⟩
    · rw [if_neg (by show ¬ k1 = toKey k; rw [hk]; exact e), if_neg e]
      exact h
theorem RKs.put {F : Hp} {k d : D} {a : Addr} {v : V} {u : Value} {xs : List (NestedKey × Addr × Value)} {kvs : List (D × D)} (r : RKs F xs kvs) (hk : isKey k = true) (hd : (toKey k).depth ≤ 8) (ha : Rp F (.ref a) k) (hv : Rp F v d) (hu : RelV v u) : RKs F (storedH xs (toKey k) a u) (dputN kvs k d) := by
  unfold dputN
  rcases RKs.get (k := k) r with ⟨p, d', v', h1, h2, _⟩ | ⟨h1, h2⟩
  · rw [storedH_old h1, h2]
    exact RKs.over hv hu r
  · rw [storedH_new h1, h2]
    exact r.app (.cons ⟨rfl, hd, hk, ha, v, hv, hu⟩ .nil)
/-- a dict of the store is a dict of the heap -/
theorem dic_of {P : Program} {w : World} {H F : Hp} {h : Heap} {a : Addr} {xs : List (NestedKey × Addr × Value)} {kvs : List (D × D)} (ok : HOk P w H h) (hF : Ex F H) (e : H a = some (NDo w a xs)) (nd : (xs.map (·.1)).Nodup) (r : RKs F xs kvs) : h.DictOfH (nestedKind P w) a xs := by
  obtain ⟨⟨o, es, ep, h1, h2, h3, h4⟩, _, _⟩ := (show ObjOk P w H h a (NDo w a xs) from ok a _ e)
  refine ⟨o, es, ep, h1, h2, h3, h4, ?_, nd⟩
  have all : ∀ {xs : List (NestedKey × Addr × Value)} {kvs : List (D × D)}, RKs F xs kvs → ∀ x ∈ xs, (nestedKind P w).is h x.1 x.2.1 := by
    intro xs kvs r
    induction r with
    | nil => intro x hx; exact nomatch hx
    | @cons p q ps qs hq t ih =>
      intro x hx
      rcases List.mem_cons.mp hx with e | hx
      · subst e
        refine ⟨?_, hq.d⟩
        rw [hq.k]
        exact key_is ok _ _ _ hq.i (Rp.mono hF _ _ hq.a) rfl
      · exact ih x hx
  exact all r
theorem ndo_ok {P : Program} {w : World} {H : Hp} {h : Heap} {a : Addr} {xs : List (NestedKey × Addr × Value)} (d : ∃ o es ep, h.get? a = some o ∧ o.ExactDict ∧ o.data = .dict es ep ∧ es.toList = xs.map fun x => (⟨x.1.hash w, .ref x.2.1, x.2.2⟩ : DictEntry)) : ObjOk P w H h a (NDo w a xs) :=
  ⟨d, let ⟨o, _, _, h1, _⟩ := d; ⟨o, h1⟩, fun h1 h2 ⟨o, es, ep, e1, e2⟩ k => ⟨o, es, ep, k o e1, e2⟩⟩
structure TupKey (k : D) : Prop where
  t : ∃ xs, k = .tup xs
  i : isKey k = true
  d : (toKey k).depth ≤ 8
/-! ### {} -/
def tDNew (G : Ctx) : TE := fun _ H Q => ∀ p, H p = none → (p == sysModules) = false → Q (.ref p) (upd H p (NDo G.w p []))
theorem pe_dnew {X : Cx} {G : Ctx} {pos : Pos} (hw : X.w = G.w) : PE X (.Dict [] [] pos) (tDNew G) := ⟨fun pins s σ H Q I h => by
  unfold tDNew at h
  refine wpAny_Dict_empty ⟨.ref s.heap.objs.size, _, I.laid (a := s.heap.objs.size) (o := NDo X.w s.heap.objs.size []) (t' := s.toks) (fun _ _ q => Heap.get?_push_of_some _ q) (Nat.le_refl _) (ndo_ok ⟨_, #[], 0, Heap.get?_push_size _ rfl, ⟨rfl, rfl, rfl⟩, rfl, rfl⟩), rfl, ?_⟩
  have := h _ (I.hok.fresh (Nat.le_refl _)) (beq_eq_false_iff_ne.mpr (Ne.symm (Nat.ne_of_lt I.big)))
  rw [show G.w = X.w from hw.symm] at this
  exact this⟩
theorem ev_dnew {G : Ctx} {W : WX} {ds : DS} {m : Mu} {R : DV → Mu → Prop} {XR : Tag → Mu → Prop} (h : ∀ a, m a = none → R (.r a) (mset m a (.dic []))) : EvD G W (tDNew G) ds m R XR := fun σ H Q s r p x a ha hs => by
  have ma := s.free ha
  obtain ⟨s2, t2⟩ := s.put (p := a) (o := NDo G.w a []) (x := .dic []) (by rw [fz_none ma]; exact ha) ⟨[], upd_same, hs, List.nodup_nil, .nil⟩
  exact p _ _ (.r a) _ t2 s2 rfl (h a ma)
/-! ### k in d, k not in d, d[k] -/
def inD : F2
  | .d k, .r a, m, R => ∃ kvs, m a = some (.dic kvs) ∧ TupKey k ∧ R (.d (.bl (dgetN kvs k).isSome)) m
  | _, _, _, _ => False
def notinD : F2
  | .d k, .r a, m, R => ∃ kvs, m a = some (.dic kvs) ∧ TupKey k ∧ R (.d (.bl (!(dgetN kvs k).isSome))) m
  | _, _, _, _ => False
def idxD : F2
  | .r a, .d k, m, R => ∃ kvs v, m a = some (.dic kvs) ∧ TupKey k ∧ dgetN kvs k = some v ∧ R (.d v) m
  | _, _, _, _ => False
section
variable {X : Cx} {G : Ctx}
theorem room8 {A : Around} (h : A.units + 65 < cLine) {P : Program} {w : World} : (nestedKind P w).room A.in1 := by
  show A.units + 1 + 8 < cLine
  omega
theorem or_inD (hK : X.w = G.w) (hu : X.A.units + 65 < cLine) : OpR X (compareOp .In) (rD2 G inD) := by
  intro pins s σ H x y v u Q I rx ry h
  obtain ⟨dx, dy, m, R, s0, r1, r2, h, p⟩ := h
  unfold inD at h
  split at h
  · obtain ⟨kvs, e, hk, h⟩ := h
    obtain ⟨ks, rfl⟩ := hk.t
    cases r2
    cases (show u = Value.ref _ from ry)
    cases r1 with
    | tup h1 h2 =>
      cases (show v = Value.ref _ from rx)
      obtain ⟨xs, e1, e2, e3, e4⟩ := s0 _ _ e
      rw [← hK] at e1
      have dd := dic_of I.hok fz_ex e1 e3 e4
      refine wpAny_in_heap (room8 hu) ⟨key_is I.hok _ _ _ hk.i (Rp.tup (fz_ex _ _ h1) (RpL.mono fz_ex _ _ h2)) rfl, hk.d⟩ e2 dd ?_
      refine ⟨.bl _, H, I.tok _, rfl, ?_⟩
      have q : (atKey xs (toKey (.tup ks))).isSome = (dgetN kvs (.tup ks)).isSome := by
        rcases RKs.get (k := .tup ks) e4 with ⟨p, d, v, q1, q2, _⟩ | ⟨q1, q2⟩
        · rw [q1, q2]; rfl
        · rw [q1, q2]; rfl
      rw [q]
      exact p.here s0 (RV.dat (Rp.bl _)) h
  · exact h.elim
theorem or_notinD (hK : X.w = G.w) (hu : X.A.units + 65 < cLine) : OpR X (compareOp .NotIn) (rD2 G notinD) := by
  intro pins s σ H x y v u Q I rx ry h
  obtain ⟨dx, dy, m, R, s0, r1, r2, h, p⟩ := h
  unfold notinD at h
  split at h
  · obtain ⟨kvs, e, hk, h⟩ := h
    obtain ⟨ks, rfl⟩ := hk.t
    cases r2
    cases (show u = Value.ref _ from ry)
    cases r1 with
    | tup h1 h2 =>
      cases (show v = Value.ref _ from rx)
      obtain ⟨xs, e1, e2, e3, e4⟩ := s0 _ _ e
      rw [← hK] at e1
      have dd := dic_of I.hok fz_ex e1 e3 e4
      refine PyProof.Rows.wpAny_notIn_heap (room8 hu) ⟨key_is I.hok _ _ _ hk.i (Rp.tup (fz_ex _ _ h1) (RpL.mono fz_ex _ _ h2)) rfl, hk.d⟩ e2 dd ?_
      refine ⟨.bl _, H, I.tok _, rfl, ?_⟩
      have q : (atKey xs (toKey (.tup ks))).isSome = (dgetN kvs (.tup ks)).isSome := by
        rcases RKs.get (k := .tup ks) e4 with ⟨p, d, v, q1, q2, _⟩ | ⟨q1, q2⟩
        · rw [q1, q2]; rfl
        · rw [q1, q2]; rfl
      rw [q]
      exact p.here s0 (RV.dat (Rp.bl _)) h
  · exact h.elim
theorem ix_DD (hK : X.w = G.w) (hu : X.A.units + 65 < cLine) : IxR X (rD2 G idxD) := by
  intro ve se pins s σ H x y v u Q I rx ry h hsub
  obtain ⟨dx, dy, m, R, s0, r1, r2, h, p⟩ := h
  unfold idxD at h
  split at h
  · obtain ⟨kvs, vv, e, hk, hg, h⟩ := h
    obtain ⟨ks, rfl⟩ := hk.t
    cases r1
    cases (show v = Value.ref _ from rx)
    cases r2 with
    | tup h1 h2 =>
      cases (show u = Value.ref _ from ry)
      obtain ⟨xs, e1, e2, e3, e4⟩ := s0 _ _ e
      rw [← hK] at e1
      have dd := dic_of I.hok fz_ex e1 e3 e4
      rcases RKs.get (k := .tup ks) e4 with ⟨q, d, v, q1, q2, q3, q4⟩ | ⟨q1, q2⟩
      · rw [hg] at q2
        cases q2
        refine PyProof.Rows.subscriptTail_builtinR (x := q.2) dd.typeIs PySem.F.slot_dict_getitem.lookup (wpAny_getItem_heap (room8 hu) ⟨key_is I.hok _ _ _ hk.i (Rp.tup (fz_ex _ _ h1) (RpL.mono fz_ex _ _ h2)) rfl, hk.d⟩ dd q1 ?_) hsub
        exact ⟨rfl, v, H, I.tok _, q4, p.here s0 (RV.dat q3) h⟩
      · rw [q2] at hg
        cases hg
  · exact h.elim
end
/-! ### d[k] = v -/
def sDSet (G : Ctx) (to ti tv : TE) : TS := fun D σ H => tv σ H fun y H1 => to σ H1 fun x H2 => ti σ H2 fun i H3 => ∃ a b xs k, x = .ref a ∧ i = .ref b ∧ H3 a = some (NDo G.w a xs) ∧ (xs.map (·.1)).Nodup ∧ xs.length ≤ sizeLine ∧ (∃ F kvs d, Ex F H3 ∧ F a = none ∧ RKs F xs kvs ∧ k = toKey d ∧ isKey d = true ∧ k.depth ≤ 8 ∧ Rp F (.ref b) d) ∧
  ∀ u, RelV y u → ((storedH xs k b u).map (·.1)).Nodup → D.nx σ (upd H3 a (NDo G.w a (storedH xs k b u)))
theorem ps_dset {X : Cx} {G : Ctx} {o i value : Expr} {pos pos' : Pos} {to ti tv : TE} (hw : X.w = G.w) (hu : X.A.units + 65 < cLine) (ho : PE X o to) (hi : PE X i ti) (hv : PE X value tv) (hs : swapsWith value (some (.Subscript o i pos')) pos.line X.env = pure false := by rfl) : PS X (.Assign [.Subscript o i pos'] value pos) (sDSet G to ti tv) := by
  refine ⟨fun pins s σ H D I h => ?_⟩
  refine wpAny_Assign_Subscript (thn (hv.run pins s σ H _ I h) fun r s1 ⟨v, H1, I1, rv, q1⟩ => thn (ho.run pins s1 σ H1 _ I1 q1) fun u s2 ⟨x, H2, I2, rx, q2⟩ => thn (hi.run pins s2 σ H2 _ I2 q2) fun iv s3 ⟨y, H3, I3, ry, a, b, xs, k, ex, ey, e1, nd, hz, ⟨F, kvs, d, f1, f2, f3, f4, f5, f6, f7⟩, q3⟩ => ?_) hs
  subst ex ey f4
  obtain rfl : u = Value.ref a := rx
  obtain rfl : iv = Value.ref b := ry
  rw [← hw] at e1
  have dd := dic_of I3.hok f1 e1 nd f3
  refine wpAny_setItem_heap (hsz := hz) (room8 hu) ⟨key_is I3.hok _ _ _ f5 (Rp.mono f1 _ _ f7) rfl, f6⟩ dd fun h' dd' hs => ?_
  obtain ⟨q, es, ep, hq, h2, h3, h4, _, h5⟩ := dd'
  refine ⟨σ, _, d_write I3 (by rw [e1]; exact True.intro) hs ⟨q, hq⟩ (ndo_ok ⟨q, es, ep, hq, h2, h3, h4⟩), ?_⟩
  rw [hw]
  exact q3 r rv h5
theorem st_dset {G : Ctx} {W : WX} {ds : DS} {m : Mu} {N : EndsD} {XS : Tag → DS → Mu → Prop} {to ti tv : TE} (h : EvD G W tv ds m (fun v m1 => EvD G W to ds m1 (fun o m2 => EvD G W ti ds m2 (fun i m3 => ∃ a k x kvs, o = .r a ∧ i = .d k ∧ v = .d x ∧ m3 a = some (.dic kvs) ∧ TupKey k ∧ kvs.length ≤ 16000000 ∧ N.nx ds (mset m3 a (.dic (dputN kvs k x)))) (fun t m1 => XS t ds m1)) (fun t m1 => XS t ds m1)) (fun t m1 => XS t ds m1)) : StD G W (sDSet G to ti tv) ds m N XS := fun σ H E s r p =>
  h σ H _ s r (fun v H1 d m1 t1 s1 r1 q1 => q1 σ H1 _ s1 (r.mono t1) (fun o H2 e m2 t2 s2 r2 q2 => q2 σ H2 _ s2 (r.mono (t1.trans t2)) (fun iv H3 f m3 t3 s3 r3 ⟨a, k, x, kvs, e1, e2, e3, em, hk, hz, q3⟩ => by
    subst e1 e2 e3
    obtain ⟨ks, rfl⟩ := hk.t
    cases r2
    cases r3 with
    | tup h1 h2 =>
      obtain ⟨xs, g1, g2, g3, g4⟩ := s3 _ _ em
      have hb : Rp (fz H3 m3) (.ref _) (.tup ks) := Rp.tup h1 h2
      refine ⟨a, _, xs, toKey (.tup ks), rfl, rfl, g1, g3, by rw [g4.len]; exact Nat.le_trans hz (by decide), ⟨fz H3 m3, kvs, .tup ks, fz_ex, fz_some em, g4, rfl, hk.i, hk.d, hb⟩, fun u ru nd => ?_⟩
      have r1' : Rp (fz H3 m3) v x := (r1.mono t2).mono t3
      obtain ⟨s4, t4⟩ := s3.put (p := a) (o := NDo G.w a (storedH xs (toKey (.tup ks)) _ u)) (x := .dic (dputN kvs (.tup ks) x)) (fz_some em) ⟨_, upd_same, g2, nd, g4.put hk.i hk.d hb r1' ru⟩
      have t14 := ((t1.trans t2).trans t3).trans t4
      exact p.nx _ _ _ _ t14 s4 (r.mono t14) q3) ((p.x r).tr (t1.trans t2))) ((p.x r).tr t1)) (p.x r)
/-! ### comprehensions whose turns change the store -/
theorem ev_lcS {G : Ctx} {W : WX} {ds : DS} {m : Mu} {R : DV → Mu → Prop} {XR : Tag → Mu → Prop} {wi : TI} {g : TG} {tt : TT} {te : TE} {vs : List Nat} (h : EvI G W wi ds m (fun xs gd m1 => ∀ Dn, m1 Dn = none → ∃ P : Nat → List D → Mu → Prop, P 0 [] (mset m1 Dn (.lst [])) ∧ (∀ i l M, P i l M → M Dn = some (.lst l) ∧ gd M ∧ l.length ≤ 50000) ∧
      (∀ i x l M, xs[i]? = some x → P i l M → ∃ ds2, TgRun G.K vs g x (wipeD ds vs) ds2 ∧ EvT G WF tt ds2 M (fun b M3 => if b = true then EvD G WF te ds2 M3 (fun y M4 => ∃ z, y = .d z ∧ M4 Dn = some (.lst l) ∧ P (i + 1) (l ++ [z]) (mset M4 Dn (.lst (l ++ [z])))) XF else P (i + 1) l M3) XF) ∧
      (∀ l M, P xs.length l M → R (.r Dn) M)) XR) : EvD G W (tLc wi g tt te vs) ds m R XR := fun σ H Q s r p x =>
  h σ H _ s r (fun J H1 m1 xs gd good t1 s1 it g1 hh Dn hD => by
    have mD : m1 Dn = none := s1.free hD
    obtain ⟨P, hP0, hP1, hP2, hP3⟩ := hh Dn mD
    have fD : fz H1 m1 Dn = none := by rw [fz_none mD]; exact hD
    obtain ⟨s2, t2⟩ := s1.put (p := Dn) (o := .lst []) (x := .lst []) fD ⟨[], upd_same, .nil⟩
    refine ⟨fun i k H' => k = xs.length - i ∧ i ≤ xs.length ∧ ∃ l M, P i l M ∧ S0 G H' M ∧ Tr H m H' M ∧ good H' M,
      ⟨xs.length, by simp, Nat.zero_le _, [], _, hP0, s2, t1.trans t2, it.keep _ _ _ _ t2 g1 (hP1 _ _ _ hP0).2.1⟩, ?_⟩
    rintro i k H' ⟨rfl, hi, l, M, hP, s', t', g'⟩
    by_cases hlt : i < xs.length
    · refine .inr ⟨it.go i H' _ s' g' hlt, fun H2 => ∃ l M, P (i + 1) l M ∧ S0 G H2 M ∧ Tr H m H2 M ∧ good H2 M, fun H2 q => ⟨xs.length - (i + 1), by omega, rfl, hlt, q⟩, fun xv H2 y => ?_⟩
      obtain ⟨rfl, d, ed, rd⟩ := it.yld i H' _ xv H2 s' g' y hlt
      obtain ⟨ds2, tg, ev2⟩ := hP2 i d l M ed hP
      have fin : ∀ (σ3 : L2.St) (ds3 : DS) (_ : REnv G (fz H2 M) σ3 ds3) (_ : EvT G WF tt ds3 M (fun b M3 => if b = true then EvD G WF te ds3 M3 (fun y M4 => ∃ z, y = .d z ∧ M4 Dn = some (.lst l) ∧ P (i + 1) (l ++ [z]) (mset M4 Dn (.lst (l ++ [z])))) XF else P (i + 1) l M3) XF),
          tt σ3 H2 fun b H3 => if b = true then te σ3 H3 fun y H4 => ∃ acc, H4 Dn = some (.lst acc) ∧ acc.length < sizeLine ∧ (∃ l M, P (i + 1) l M ∧ S0 G (upd H4 Dn (.lst (acc ++ [y]))) M ∧ Tr H m (upd H4 Dn (.lst (acc ++ [y]))) M ∧ good (upd H4 Dn (.lst (acc ++ [y]))) M) else
            (∃ l M, P (i + 1) l M ∧ S0 G H3 M ∧ Tr H m H3 M ∧ good H3 M) := fun σ3 ds3 r3 ev => by
        refine ev σ3 H2 _ s' r3 (fun b H3 M3 t3 s3 q3 => ?_) (fun _ _ _ _ _ _ z => z.elim)
        cases b with
        | true =>
          rw [if_pos rfl] at q3 ⊢
          refine q3 σ3 H3 _ s3 (r3.mono t3) (fun yv H4 dy M4 t4 s4 r4 ⟨z, ez, hM4, hPn⟩ => ?_) (fun _ _ _ _ _ _ z => z.elim)
          subst ez
          obtain ⟨acc, a1, a2⟩ := s4 Dn _ hM4
          obtain ⟨s5, t5⟩ := s4.put (p := Dn) (o := .lst (acc ++ [yv])) (x := .lst (l ++ [z])) (fz_some hM4) ⟨_, upd_same, a2.app (RpL.one r4)⟩
          exact ⟨acc, a1, sz_lt (by rw [a2.length]; have := (hP1 _ _ _ hP).2.2; omega), _, _, hPn, s5, ((t'.trans t3).trans t4).trans t5, it.keep _ _ _ _ ((t3.trans t4).trans t5) g' (hP1 _ _ _ hPn).2.1⟩
        | false =>
          rw [if_neg Bool.false_ne_true] at q3 ⊢
          exact ⟨_, _, q3, s3, t'.trans t3, it.keep _ _ _ _ t3 g' (hP1 _ _ _ q3).2.1⟩
      have rw0 : REnv G (fz H2 M) (L2.wipe σ vs) (wipeD ds vs) := (r.mono t').wipe vs
      cases tg with
      | name hj => exact ⟨wipe_set hj _, fin _ _ (rw0.set _ rd) ev2⟩
      | pair hi hj =>
        cases rd with
        | tup h1 h2 =>
          cases h2 with
          | cons a1 h2 =>
            cases h2 with
            | cons a2 h2 =>
              cases h2
              exact ⟨_, _, rfl, SqT.of (fz_ex _ _ h1), rfl, _, _, rfl, _, _, rfl, rfl, wipe_set2 hi hj _ _, fin _ _ ((rw0.set _ (RV.dat a1)).set _ (RV.dat a2)) ev2⟩
    · have e : i = xs.length := by omega
      subst e
      exact .inl ⟨it.stop _ H' _ s' g' (Nat.le_refl _), p _ H' (.r Dn) M t' s' rfl (hP3 l M hP)⟩) x
/-! ### memos -/
theorem nodup_len : ∀ (N : Nat) (l : List Nat), l.Nodup → (∀ x ∈ l, x < N) → l.length ≤ N
  | 0, l, _, h => by
    cases l with
    | nil => simp
    | cons x _ => exact absurd (h x List.mem_cons_self) (Nat.not_lt_zero _)
  | N + 1, l, nd, h => by
    by_cases hm : N ∈ l
    · have ih := nodup_len N (l.erase N) (nd.erase N) fun x hx => by
        have h1 := h x (List.mem_of_mem_erase hx)
        have h2 : x ≠ N := fun e => by
          rw [e] at hx
          exact (List.Nodup.mem_erase_iff nd).mp hx |>.1 rfl
        omega
      rw [List.length_erase_of_mem hm] at ih
      omega
    · have ih := nodup_len N l nd fun x hx => by
        have h1 := h x hx
        have h2 : x ≠ N := fun e => hm (by rw [← e]; exact hx)
        omega
      omega
/-- a dict that remembers: of each key that counts, what it should be -/
structure Memo {K : Type} (key : K → D) (val : K → D) (ok good : K → Prop) (kvs : List (D × D)) : Prop where
  nd : (kvs.map fun p => toKey p.1).Nodup
  each : ∀ p ∈ kvs, ∃ k, ok k ∧ p.1 = key k ∧ (good k → p.2 = val k)
section
variable {K : Type} {key val : K → D} {ok good good' : K → Prop} {kvs : List (D × D)}
theorem Memo.nil : Memo key val ok good [] := ⟨List.nodup_nil, fun _ h => nomatch h⟩
theorem Memo.weaken (h : Memo key val ok good kvs) (w : ∀ k, ok k → good' k → good k) : Memo key val ok good' kvs := ⟨h.nd, fun p hp => let ⟨k, h1, h2, h3⟩ := h.each p hp; ⟨k, h1, h2, fun g => h3 (w k h1 g)⟩⟩
theorem dget_mem {k v : D} (h : dgetN kvs k = some v) : ∃ p ∈ kvs, toKey p.1 = toKey k ∧ p.2 = v := by
  unfold dgetN at h
  obtain ⟨p, hp, rfl⟩ := Option.map_eq_some_iff.mp h
  exact ⟨p, List.mem_of_find?_eq_some hp, by have := List.find?_some hp; exact of_decide_eq_true this, rfl⟩
theorem Memo.get (h : Memo key val ok good kvs) (inj : ∀ k k', ok k → ok k' → toKey (key k) = toKey (key k') → k = k') {k : K} (hk : ok k) (hg : good k) {v : D} (e : dgetN kvs (key k) = some v) : v = val k := by
  obtain ⟨p, hp, h1, rfl⟩ := dget_mem e
  obtain ⟨k', g1, g2, g3⟩ := h.each p hp
  rw [g2] at h1
  have := inj k' k g1 hk h1
  subst this
  exact g3 hg
theorem dget_none {k : D} (h : dgetN kvs k = none) : ∀ p ∈ kvs, toKey p.1 ≠ toKey k := fun p hp e => by
  unfold dgetN at h
  rw [Option.map_eq_none_iff, List.find?_eq_none] at h
  exact h p hp (decide_eq_true e)
theorem Memo.putV (h : Memo key val ok good kvs) (inj : ∀ k k', ok k → ok k' → toKey (key k) = toKey (key k') → k = k') {k : K} (hk : ok k) {v : D} (hv : good' k → v = val k) (w : ∀ k', ok k' → good' k' → k' ≠ k → good k') : Memo key val ok good' (dputN kvs (key k) v) := by
  unfold dputN
  cases e : dgetN kvs (key k) with
  | none =>
    refine ⟨?_, fun p hp => ?_⟩
    · show (List.map _ (kvs ++ [(key k, v)])).Nodup
      rw [List.map_append, List.nodup_append]
      refine ⟨h.nd, by simp, fun a ha b hb => ?_⟩
      obtain ⟨p, hp, rfl⟩ := List.mem_map.mp ha
      simp at hb
      subst hb
      exact dget_none e p hp
    · rcases List.mem_append.mp (show p ∈ kvs ++ [(key k, v)] from hp) with z | z
      · obtain ⟨k', g1, g2, g3⟩ := h.each p z
        refine ⟨k', g1, g2, fun g => g3 (w k' g1 g fun e' => ?_)⟩
        subst e'
        exact dget_none e p z (by rw [g2])
      · rw [List.mem_singleton.mp z]
        exact ⟨k, hk, rfl, hv⟩
  | some v0 =>
    refine ⟨?_, fun p hp => ?_⟩
    · show (List.map _ (List.map _ kvs)).Nodup
      rw [List.map_map]
      have : (kvs.map ((fun p => toKey p.1) ∘ fun p => if toKey p.1 = toKey (key k) then (p.1, v) else p)) = kvs.map fun p => toKey p.1 := by
        apply List.map_congr_left
        intro p _
        show toKey (if toKey p.1 = toKey (key k) then (p.1, v) else p).1 = _
        split <;> rfl
      rw [this]
      exact h.nd
    · obtain ⟨q, hq, rfl⟩ := List.mem_map.mp (show p ∈ List.map _ kvs from hp)
      obtain ⟨k', g1, g2, g3⟩ := h.each q hq
      by_cases c : toKey q.1 = toKey (key k)
      · rw [if_pos c]
        have : k' = k := inj k' k g1 hk (by rw [← g2]; exact c)
        subst this
        exact ⟨k', g1, g2, hv⟩
      · rw [if_neg c]
        exact ⟨k', g1, g2, fun g => g3 (w k' g1 g fun e' => c (by rw [g2, e']))⟩
theorem dget_put {k v : D} : dgetN (dputN kvs k v) k = some v := by
  unfold dputN
  cases e : dgetN kvs k with
  | none =>
    show dgetN (kvs ++ [(k, v)]) k = some v
    unfold dgetN
    rw [List.find?_append]
    unfold dgetN at e
    rw [Option.map_eq_none_iff] at e
    rw [e]
    simp
  | some v0 =>
    show dgetN (kvs.map fun p => if toKey p.1 = toKey k then (p.1, v) else p) k = some v
    have : ∀ kvs : List (D × D), (dgetN kvs k).isSome = true → dgetN (kvs.map fun p => if toKey p.1 = toKey k then (p.1, v) else p) k = some v := by
      intro kvs
      induction kvs with
      | nil => intro z; cases z
      | cons p ps ih =>
        intro z
        rw [List.map_cons]
        by_cases c : toKey p.1 = toKey k
        · rw [if_pos c]
          unfold dgetN
          rw [List.find?_cons_of_pos (by exact decide_eq_true c)]
          rfl
        · rw [if_neg c]
          unfold dgetN at z ih ⊢
          rw [List.find?_cons_of_neg (by rw [decide_eq_true_eq]; exact c)] at z ⊢
          exact ih z
    exact this kvs (by rw [e]; rfl)
theorem Memo.len (h : Memo key val ok good kvs) {code : K → Nat} {N : Nat} (hb : ∀ k, ok k → code k < N) (hc : ∀ k k', ok k → ok k' → code k = code k' → toKey (key k) = toKey (key k')) : kvs.length ≤ N := by
  have ex : ∃ ks : List K, kvs.map (·.1) = ks.map key ∧ ∀ k ∈ ks, ok k := by
    have : ∀ kvs : List (D × D), (∀ p ∈ kvs, ∃ k, ok k ∧ p.1 = key k ∧ (good k → p.2 = val k)) → ∃ ks : List K, kvs.map (·.1) = ks.map key ∧ ∀ k ∈ ks, ok k := by
      intro kvs
      induction kvs with
      | nil => exact fun _ => ⟨[], rfl, fun _ z => nomatch z⟩
      | cons p ps ih =>
        intro hh
        obtain ⟨ks, e, ho⟩ := ih fun q hq => hh q (List.mem_cons_of_mem _ hq)
        obtain ⟨k, h1, h2, _⟩ := hh p List.mem_cons_self
        refine ⟨k :: ks, by rw [List.map_cons, List.map_cons, e, h2], fun k' hk' => ?_⟩
        rcases List.mem_cons.mp hk' with rfl | z
        · exact h1
        · exact ho k' z
    exact this kvs h.each
  obtain ⟨ks, e, ho⟩ := ex
  have nd : (ks.map fun k => toKey (key k)).Nodup := by
    have := h.nd
    rw [show (fun p : D × D => toKey p.1) = toKey ∘ (·.1) from rfl, ← List.map_map, e, List.map_map] at this
    exact this
  have nd2 : (ks.map code).Nodup := by
    clear e
    induction ks with
    | nil => exact List.nodup_nil
    | cons k ks ih =>
      rw [List.map_cons, List.nodup_cons] at nd ⊢
      refine ⟨fun z => ?_, ih (fun k' hk' => ho k' (List.mem_cons_of_mem _ hk')) nd.2⟩
      obtain ⟨k', hk', ek⟩ := List.mem_map.mp z
      exact nd.1 (List.mem_map.mpr ⟨k', hk', hc k' k (ho k' (List.mem_cons_of_mem _ hk')) (ho k List.mem_cons_self) ek⟩)
  have := nodup_len N _ nd2 fun x hx => by
    obtain ⟨k, hk, rfl⟩ := List.mem_map.mp hx
    exact hb k (ho k hk)
  rw [List.length_map] at this
  have e2 := congrArg List.length e
  rw [List.length_map, List.length_map] at e2
  omega
end
end Lb

/-! LbP: sorted, of pairs of a number and a tuple of numbers. -/
namespace Lb
open PySem PyProof.Rows Srt SrtO
section
variable {prog : Program} {w : World} {A : Around} {E : Value → Shared → Prop} {s : Shared}
/-- a pair: a number, a tuple of numbers -/
def IsPT (h : Heap) (v : Value) (ks : List Int) : Prop := ∃ (x : Int) (ns : List Int) (a : Addr) (o : Obj) (t : Tok) (b : Addr) (items : Array Value) (n : Nat), ks = x :: ns ∧ v = .ref a ∧ h.get? a = some o ∧ o.cls = .type "tuple" ∧ o.data = .seq #[.int x t, .ref b] n ∧ IsTup h b items ∧ IntsAre items.toList ns
theorem isTup_keeps {h h' : Heap} {b : Addr} {items : Array Value} (p : IsTup h b items) (k : ∀ b o, h.get? b = some o → o.cls = .type "tuple" → h'.get? b = some o) : IsTup h' b items := by
  obtain ⟨o, h1, h2, h3⟩ := p
  exact ⟨o, k _ _ h1 h2, h2, h3⟩
theorem IsPT.keeps {h h' : Heap} {v : Value} {ks : List Int} (p : IsPT h v ks) (k : ∀ b o, h.get? b = some o → o.cls = .type "tuple" → h'.get? b = some o) : IsPT h' v ks := by
  obtain ⟨x, ns, a, o, t, b, items, n, e1, e2, e3, e4, e5, e6, e7⟩ := p
  exact ⟨x, ns, a, o, t, b, items, n, e1, e2, k _ _ e3 e4, e4, e5, isTup_keeps e6 k, e7⟩
theorem nested_ints {h : Heap} : ∀ {vs : List Value} {ns : List Int}, IntsAre vs ns → NestedAll h (ns.map .num) vs
  | _, _, .nil => .nil
  | _, _, .cons _ _ r => .cons (.int _ _) (nested_ints r)
theorem nested_tup {h : Heap} {b : Addr} {items : Array Value} {ns : List Int} (p : IsTup h b items) (q : IntsAre items.toList ns) : NestedIs h (.tup (ns.map .num)) (.ref b) := by
  obtain ⟨o, h1, h2, n, h3⟩ := p
  exact .tup h1 h2 h3 (nested_ints q)
theorem depth_nums : ∀ ns : List Int, NestedKey.depthAll (ns.map .num) = 0
  | [] => rfl
  | n :: ns => by rw [List.map_cons, NestedKey.depthAll, depth_nums ns]; rfl
theorem beq_nums : ∀ ns ms : List Int, NestedKey.beqAll (ns.map .num) (ms.map .num) = decide (ns = ms)
  | [], [] => rfl
  | [], _ :: _ => by simp [NestedKey.beqAll]
  | _ :: _, [] => by simp [NestedKey.beqAll]
  | n :: ns, m :: ms => by
    rw [List.map_cons, List.map_cons, NestedKey.beqAll, beq_nums ns ms, NestedKey.beq]
    by_cases e : n = m
    · subst e; simp
    · simp [e]
theorem eq_tups {b b' : Addr} {items items' : Array Value} {ns ms : List Int} (h1 : IsTup s.heap b items) (q1 : IntsAre items.toList ns) (h2 : IsTup s.heap b' items') (q2 : IntsAre items'.toList ms) (hu : A.units + 1 < cLine) : SeqAt.EqAt A s (.ref b) (.ref b') (decide (ns = ms)) := by
  have := eqAt_key _ _ A s _ _ (nested_tup h1 q1) (nested_tup h2 q2) (by rw [NestedKey.depth, NestedKey.depth, depth_nums, depth_nums]; exact hu)
  rw [NestedKey.beq, beq_nums] at this
  exact this
theorem lexLt_irr : ∀ ns : List Int, HT.lexLt ns ns = false
  | [] => rfl
  | n :: ns => by rw [HT.lexLt_cons, if_pos rfl]; exact lexLt_irr ns
theorem pt_cmp {vs : List Value} {k : Value → List Int} (hu : A.units + 1 < cLine) (hp : ∀ v ∈ vs, IsPT s.heap v (k v)) : Cmp prog w A s (tuples' true) (fun p => p.1 ∈ vs) (lt2 fun v u => HT.lexLt (k v) (k u)) := by
  intro p q hm hm'
  have h1 := hp _ hm
  have h2 := hp _ hm'
  show wpAny (model prog w) A (keyLt' (tuples' true) p.1 q.1) (fun r s' => s' = s ∧ r = HT.lexLt (k p.1) (k q.1)) (fun _ _ => False) s
  obtain ⟨x, ns, a, o, t, b, items, n, e1, e2, e3, e4, e5, e6, e7⟩ := h1
  obtain ⟨x', ms, a', o', t', b', items', n', e1', e2', e3', e4', e5', e6', e7'⟩ := h2
  rw [e1, e1', e2, e2', HT.lexLt_cons]
  refine PySem.W.kat_lt e3 e5 e3' e5' ?_
  show PySem.W.KatLex prog w A true (decide (2 < 2)) _ [(.int x t, .int x' t'), (.ref b, .ref b')] 0 s
  refine PySem.W.kat_cons (SeqAt.EqAt.int_int x t x' t' prog w _ _ ?_)
  refine PySem.W.kat_go (fun c1 => ?_) (fun c1 => ?_)
  · have ex : x = x' := by simpa using c1
    rw [if_pos ex]
    refine PySem.W.kat_yes (PySem.W.kat_cons (eq_tups e6 e7 e6' e7' hu prog w _ _ ?_))
    refine PySem.W.kat_go (fun c2 => ?_) (fun c2 => ?_)
    · have ey : ns = ms := by simpa using c2
      refine PySem.W.kat_yes (PySem.W.kat_nil ⟨rfl, ?_⟩)
      rw [ey, lexLt_irr]
      rfl
    · refine PySem.W.kat_no (PySem.W.kat_one _ _ (HT.lt_tupInts e6 e6' e7 e7' (by omega) ?_))
      exact (show s = s ∧ HT.lexLt ns ms = HT.lexLt ns ms from ⟨rfl, rfl⟩)
  · have ex : ¬ x = x' := by simpa using c1
    rw [if_neg ex]
    exact PySem.W.kat_no (oneLt_int ⟨rfl, rfl⟩)
theorem firsts_pt {h : Heap} : ∀ {vs : List Value}, (∀ v ∈ vs, ∃ ks, IsPT h v ks) → ∃ fs : List Value, PySem.W.KatTups h vs fs ∧ fs.length = vs.length ∧ ∀ f ∈ fs, ∃ x t, f = Value.int x t
  | [], _ => ⟨[], PySem.W.KatTups.nil, rfl, fun _ hm => by simp at hm⟩
  | v :: vs, hp => by
    obtain ⟨fs, h1, h2, h3⟩ := firsts_pt (vs := vs) fun v' hm => hp v' (List.mem_cons_of_mem _ hm)
    obtain ⟨ks, x, ns, a, o, t, b, items, n, e1, e2, e3, e4, e5, e6, e7⟩ := hp v (List.mem_cons_self ..)
    subst e2
    refine ⟨.int x t :: fs, PySem.W.KatTups.cons e3 e4 e5 rfl h1, by rw [List.length_cons, List.length_cons, h2], fun f hm => ?_⟩
    rcases List.mem_cons.mp hm with rfl | hm
    · exact ⟨x, t, rfl⟩
    · exact h3 f hm
theorem pt_sortable {a : Addr} {vs : List Value} {k : Value → List Int} (hu : A.units + 1 < cLine) (h0 : 0 < vs.length) (hp : ∀ v ∈ vs, IsPT s.heap v (k v)) (ha : ∀ o, s.heap.get? a = some o → o.cls ≠ .type "tuple") : SortableO prog w A s a vs fun v u => HT.lexLt (k v) (k u) := by
  intro h' keep
  have hp' : ∀ v ∈ vs, IsPT h' v (k v) := fun v hm => (hp v hm).keeps fun b o e c => keep b o (fun z => by subst z; exact ha o e c) e
  obtain ⟨fs, h1, h2, h3⟩ := firsts_pt fun v hm => ⟨_, hp' v hm⟩
  refine ⟨tuples' true, fun Q E hq => ?_, pt_cmp hu hp'⟩
  refine PySem.W.kat_kind (T := .type "int") h1 (by omega) (fun f hm => ?_) (by rfl) ?_
  · obtain ⟨x, t, rfl⟩ := h3 f hm
    exact PySem.W.Looks.now
  · have e : (Value.type "int" != Value.type "tuple") = true := by first | decide +kernel | rfl | decide
    rw [e]
    exact hq
theorem sorted_pt {l : Addr} {vs : List Value} {k : Value → List Int} {Q : Value → Shared → Prop} (hu : A.units + 100 < cLine) (hl : s.heap.IsList l vs.toArray) (hz : vs.length ≤ sizeLine) (hp : ∀ v ∈ vs, IsPT s.heap v (k v))
    (h : ∀ (h' : Heap) (d : Addr) (out : List Value), Srtd (fun v u => HT.lexLt (k v) (k u)) out → Stb (fun v u => HT.lexLt (k v) (k u)) out vs → (∀ b o, s.heap.get? b = some o → h'.get? b = some o) → s.heap.objs.size ≤ d → (∃ n, h'.get? d = some (seqObj "list" out.toArray n)) → Q (.ref d) { s with heap := h' }) :
    wpAny (model prog w) A (call (.builtin "sorted") [.ref l]) Q E s := by
  refine sorted_ord (NtL.swo_lexL k) hl hz (fun h2 h₁ a ha kk => ?_) fun out hs hb => ?_
  · refine pt_sortable (s := { s with heap := h₁ }) ?_ (by omega) (fun v hm => (hp v hm).keeps fun b o e _ => (kk b o e).2) fun o e => ?_
    · first
      | omega
      | (show A.units + 1 + 1 < cLine; omega)
      | (show A.units + 2 + 1 < cLine; omega)
      | (show A.units + 3 + 1 < cLine; omega)
    have e' : some o = some (seqObj "list" vs.toArray 0) := e.symm.trans ha
    cases e'
    intro c
    exact absurd (Value.type.inj c) (by decide)
  · exact h _ _ out hs hb (fun b o e => sortedAll_old e) (Nat.le_succ _) (sortedAll_at s.heap vs out.toArray)
end
/-! ### as a rule of data -/
open L2
abbrev encP (p : Int × List Int) : D := .tup [.int p.1, dTup p.2]
def sortPF : FN
  | [.d (.lst xs)], m, R => ∃ ps : List (Int × List Int), xs = ps.map encP ∧ ∀ qs : List (Int × List Int), qs.Perm ps → qs.Pairwise (fun a b => HT.lexLt (b.1 :: b.2) (a.1 :: a.2) = false) → R (.d (.lst (qs.map encP))) m
  | _, _, _ => False
theorem IsPT.uniq {h : Heap} {v : Value} {ks ks' : List Int} (p : IsPT h v ks) (q : IsPT h v ks') : ks = ks' := by
  obtain ⟨x, ns, a, o, t, b, items, n, e1, e2, e3, e4, e5, e6, e7⟩ := p
  obtain ⟨x', ms, a', o', t', b', items', n', e1', e2', e3', e4', e5', e6', e7'⟩ := q
  subst e2
  cases e2'
  rw [e3] at e3'
  cases e3'
  rw [e5] at e5'
  injection e5' with e5' _
  have e8 := congrArg Array.toList e5'
  simp at e8
  obtain ⟨⟨rfl, _⟩, rfl⟩ := e8
  have := NestedIs.inj _ _ _ (nested_tup e6 e7) (nested_tup e6' e7')
  injection this with this
  have inj : ns = ms := by
    have h3 := beq_nums ns ms
    rw [this, NestedKey.beqAll_self] at h3
    exact of_decide_eq_true h3.symm
  rw [e1, e1', inj]
theorem RpL.of_all {F : Hp} {f : Value → V} {g : Value → D} : ∀ {us : List Value}, (∀ u ∈ us, Rp F (f u) (g u)) → RpL F (us.map f) (us.map g)
  | [], _ => .nil
  | u :: us, h => .cons (h u List.mem_cons_self) (RpL.of_all fun x hx => h x (List.mem_cons_of_mem _ hx))
theorem cr_sortP {X : Cx} {G : Ctx} (hu : X.A.units + 100 < cLine) : CallR X (.builtin "sorted") (rDn G sortPF) := by
  intro pins s σ H xs us Q I r h
  obtain ⟨dx, m, R, s0, r1, h, p⟩ := h
  unfold sortPF at h
  split at h
  · obtain ⟨ps, rfl, h⟩ := h
    cases r1 with
    | cons q1 q2 =>
      cases q2
      cases q1 with
      | lst h1 h2 =>
        rename_i a vs
        obtain ⟨its, rv, hl, hz⟩ := I.list (SqL.of (fz_ex _ _ h1))
        obtain ⟨u, rfl, ru⟩ := vals1 r
        obtain rfl : u = Value.ref a := ru
        have all : ∀ {vs : List V} {ps : List (Int × List Int)} {its : List Value}, RpL (fz H m) vs (ps.map encP) → Vals vs its → Paired (fun (u : Value) (p : Int × List Int) => IsPT s.heap u (p.1 :: p.2) ∧ (∃ a, u = .ref a) ∧ Rp (fz H m) (backV u) (encP p)) its ps := by
          intro vs ps
          induction ps generalizing vs with
          | nil =>
            intro its h hv
            cases h
            cases hv
            exact .nil
          | cons p ps ih =>
            intro its h hv
            cases h with
            | cons ha hb =>
              cases hv with
              | cons va vb =>
                refine .cons ?_ (ih hb vb)
                cases id ha with
                | tup g1 g2 =>
                  rename_i t ws
                  cases (show _ = Value.ref _ from va)
                  cases g2 with
                  | cons c1 g2 =>
                    cases c1
                    cases g2 with
                    | cons c2 g2 =>
                      cases g2
                      cases c2 with
                      | tup d1 d2 =>
                        have e := d2.ints
                        subst e
                        obtain ⟨_, its2, r2, o, ho, hc, n, hd⟩ := I.hok _ _ (fz_ex _ _ g1)
                        obtain ⟨u1, u2, rfl, ri, rj⟩ := vals2 r2
                        obtain ⟨t1, rfl⟩ := ri
                        cases (show u2 = Value.ref _ from rj)
                        obtain ⟨_, its3, r3, tup3⟩ := I.hok _ _ (fz_ex _ _ d1)
                        exact ⟨⟨p.1, p.2, _, o, t1, _, its3.toArray, n, rfl, rfl, ho, hc, hd, tup3, by simpa using Vals.ints r3⟩, ⟨_, rfl⟩, ha⟩
        have pr := all h2 rv
        have hex : ∀ v ∈ its, ∃ p : Int × List Int, IsPT s.heap v (p.1 :: p.2) ∧ (∃ a, v = .ref a) ∧ Rp (fz H m) (backV v) (encP p) := by
          clear h h1 h2 rv hl hz
          induction pr with
          | nil => intro v hv; exact nomatch hv
          | @cons u p us ps hp t ih =>
            intro v hv
            rcases List.mem_cons.mp hv with rfl | hv
            · exact ⟨p, hp⟩
            · exact ih v hv
        let dec : Value → Int × List Int := fun v => if hv : v ∈ its then Classical.choose (hex v hv) else (0, [])
        have hdec : ∀ v ∈ its, IsPT s.heap v ((dec v).1 :: (dec v).2) ∧ (∃ a, v = .ref a) ∧ Rp (fz H m) (backV v) (encP (dec v)) := fun v hv => by
          have e : dec v = Classical.choose (hex v hv) := dif_pos hv
          rw [e]
          exact Classical.choose_spec (hex v hv)
        have emap : its.map dec = ps := by
          have : ∀ {us : List Value} {ps : List (Int × List Int)}, Paired (fun (u : Value) (p : Int × List Int) => IsPT s.heap u (p.1 :: p.2) ∧ (∃ a, u = .ref a) ∧ Rp (fz H m) (backV u) (encP p)) us ps → (∀ u ∈ us, u ∈ its) → us.map dec = ps := by
            intro us ps pr
            induction pr with
            | nil => intro _; rfl
            | @cons u p us ps hp t ih =>
              intro hs
              rw [List.map_cons, ih fun x hx => hs x (List.mem_cons_of_mem _ hx)]
              have e := (hdec u (hs u List.mem_cons_self)).1.uniq hp.1
              injection e with e1 e2
              congr 1
              exact Prod.ext e1 e2
          exact this pr fun _ h => h
        refine sorted_pt (k := fun v => (dec v).1 :: (dec v).2) hu hl.isList (by rw [← rv.length]; exact hz) (fun v hv => (hdec v hv).1) fun h' d out k1 k2 kp hd hn => ?_
        have hmem : ∀ u ∈ out, u ∈ its := fun u hu => k2.perm.mem_iff.mp hu
        have h3 : ∀ u ∈ out, ∃ a, u = Value.ref a := fun u hu => (hdec u (hmem u hu)).2.1
        obtain ⟨n, hn⟩ := hn
        have hlen : out.length = its.length := k2.perm.length_eq
        have hperm : (out.map dec).Perm ps := by rw [← emap]; exact k2.perm.map dec
        have hsort : (out.map dec).Pairwise (fun a b => HT.lexLt (b.1 :: b.2) (a.1 :: a.2) = false) := List.pairwise_map.mpr k1
        have rp : RpL (fz H m) (out.map backV) ((out.map dec).map encP) := by
          rw [List.map_map]
          exact RpL.of_all fun u hu => (hdec u (hmem u hu)).2.2
        have nd : H d = none := I.hok.fresh hd
        refine ⟨.ref d, upd H d (.lst (out.map backV)), I.laid (t' := s.toks) kp hd ⟨?_, out, n, vals_back h3, hn⟩, rfl, p.lay s0 nd rp (h _ hperm hsort)⟩
        rw [List.length_map, hlen, ← rv.length]
        exact hz
  · exact h.elim
theorem Room.u100 {k : Nat} {A : Around} (r : Room k A) : A.units + 100 < cLine := by have := r.un; omega
end Lb

/-! LbB: return alone; sorted of a dict's keys, pairs of a tuple of numbers and a number. -/
namespace Lb
open PySem PyProof.Rows Srt SrtO
theorem st_retN {G : Ctx} {W : L2.WX} {ds : DS} {m : Mu} {N : EndsD} {XR : Tag → DS → Mu → Prop} (k : N.rt (.d .non) m) : StD G W L2.tRetN ds m N XR := fun σ H E s r p => p.rt .non H (.d .non) m (Ex.refl _) s (RV.dat Rp.non) k
section
variable {prog : Program} {w : World} {A : Around} {E : Value → Shared → Prop} {s : Shared}
/-- a pair: a tuple of numbers, a number; told as the numbers in a row -/
def IsTP (h : Heap) (v : Value) (ks : List Int) : Prop := ∃ (ns : List Int) (x : Int) (a : Addr) (o : Obj) (t : Tok) (b : Addr) (items : Array Value) (n : Nat), ks = ns ++ [x] ∧ v = .ref a ∧ h.get? a = some o ∧ o.cls = .type "tuple" ∧ o.data = .seq #[.ref b, .int x t] n ∧ IsTup h b items ∧ IntsAre items.toList ns
theorem IsTP.keeps {h h' : Heap} {v : Value} {ks : List Int} (p : IsTP h v ks) (k : ∀ b o, h.get? b = some o → o.cls = .type "tuple" → h'.get? b = some o) : IsTP h' v ks := by
  obtain ⟨x, ns, a, o, t, b, items, n, e1, e2, e3, e4, e5, e6, e7⟩ := p
  exact ⟨x, ns, a, o, t, b, items, n, e1, e2, k _ _ e3 e4, e4, e5, isTup_keeps e6 k, e7⟩
theorem lexLt_snoc : ∀ (ns ms : List Int) (x y : Int), ns.length = ms.length → HT.lexLt (ns ++ [x]) (ms ++ [y]) = if ns = ms then decide (x < y) else HT.lexLt ns ms
  | [], [], x, y, _ => by
    rw [if_pos rfl, List.nil_append, List.nil_append, HT.lexLt_cons]
    by_cases e : x = y
    · subst e; rw [if_pos rfl, decide_eq_false (by omega)]; rfl
    · rw [if_neg e]
  | n :: ns, m :: ms, x, y, h => by
    rw [List.cons_append, List.cons_append, HT.lexLt_cons, HT.lexLt_cons]
    by_cases e : n = m
    · subst e
      rw [if_pos rfl, if_pos rfl, lexLt_snoc ns ms x y (by simpa using h)]
      by_cases e2 : ns = ms
      · rw [if_pos e2, if_pos (by rw [e2])]
      · rw [if_neg e2, if_neg (fun z => e2 (by injection z))]
    · rw [if_neg e, if_neg e, if_neg (fun z => e (by injection z))]
  | [], _ :: _, _, _, h => by simp at h
  | _ :: _, [], _, _, h => by simp at h
theorem tp_cmp {vs : List Value} {k : Value → List Int} {L : Nat} (hu : A.units + 1 < cLine) (hp : ∀ v ∈ vs, IsTP s.heap v (k v) ∧ (k v).length = L) : Cmp prog w A s (tuples' false) (fun p => p.1 ∈ vs) (lt2 fun v u => HT.lexLt (k v) (k u)) := by
  intro p q hm hm'
  obtain ⟨h1, l1⟩ := hp _ hm
  obtain ⟨h2, l2⟩ := hp _ hm'
  show wpAny (model prog w) A (keyLt' (tuples' false) p.1 q.1) (fun r s' => s' = s ∧ r = HT.lexLt (k p.1) (k q.1)) (fun _ _ => False) s
  obtain ⟨ns, x, a, o, t, b, items, n, e1, e2, e3, e4, e5, e6, e7⟩ := h1
  obtain ⟨ms, x', a', o', t', b', items', n', e1', e2', e3', e4', e5', e6', e7'⟩ := h2
  have hl : ns.length = ms.length := by
    rw [e1, List.length_append] at l1
    rw [e1', List.length_append] at l2
    simp at l1 l2
    omega
  rw [e1, e1', e2, e2', lexLt_snoc ns ms x x' hl]
  refine PySem.W.kat_lt e3 e5 e3' e5' ?_
  show PySem.W.KatLex prog w A false (decide (2 < 2)) _ [(.ref b, .ref b'), (.int x t, .int x' t')] 0 s
  refine PySem.W.kat_cons (eq_tups e6 e7 e6' e7' hu prog w _ _ ?_)
  refine PySem.W.kat_go (fun c1 => ?_) (fun c1 => ?_)
  · have ex : ns = ms := by simpa using c1
    rw [if_pos ex]
    refine PySem.W.kat_yes (PySem.W.kat_cons (SeqAt.EqAt.int_int x t x' t' prog w _ _ ?_))
    refine PySem.W.kat_go (fun c2 => ?_) (fun c2 => ?_)
    · have ey : x = x' := by simpa using c2
      refine PySem.W.kat_yes (PySem.W.kat_nil ⟨rfl, ?_⟩)
      rw [decide_eq_false (show ¬ x < x' by omega)]
      rfl
    · refine PySem.W.kat_no (PySem.W.kat_one _ _ (PyProof.Rows.lt_int ?_))
      exact (show s = s ∧ decide (x < x') = decide (x < x') from ⟨rfl, rfl⟩)
  · have ex : ¬ ns = ms := by simpa using c1
    rw [if_neg ex]
    refine PySem.W.kat_no (PySem.W.kat_one _ _ (HT.lt_tupInts e6 e6' e7 e7' (by omega) ?_))
    exact (show s = s ∧ HT.lexLt ns ms = HT.lexLt ns ms from ⟨rfl, rfl⟩)
theorem firsts_tp {h : Heap} : ∀ {vs : List Value}, (∀ v ∈ vs, ∃ ks, IsTP h v ks) → ∃ fs : List Value, PySem.W.KatTups h vs fs ∧ fs.length = vs.length ∧ ∀ f ∈ fs, ∃ b o, f = Value.ref b ∧ h.get? b = some o ∧ o.cls = .type "tuple"
  | [], _ => ⟨[], PySem.W.KatTups.nil, rfl, fun _ hm => by simp at hm⟩
  | v :: vs, hp => by
    obtain ⟨fs, h1, h2, h3⟩ := firsts_tp (vs := vs) fun v' hm => hp v' (List.mem_cons_of_mem _ hm)
    obtain ⟨ks, ns, x, a, o, t, b, items, n, e1, e2, e3, e4, e5, e6, e7⟩ := hp v (List.mem_cons_self ..)
    subst e2
    refine ⟨.ref b :: fs, PySem.W.KatTups.cons e3 e4 e5 rfl h1, by rw [List.length_cons, List.length_cons, h2], fun f hm => ?_⟩
    rcases List.mem_cons.mp hm with rfl | hm
    · obtain ⟨ob, g1, g2, _⟩ := e6
      exact ⟨b, ob, rfl, g1, g2⟩
    · exact h3 f hm
theorem tp_sortable {a : Addr} {vs : List Value} {k : Value → List Int} {L : Nat} (hu : A.units + 1 < cLine) (h0 : 0 < vs.length) (hp : ∀ v ∈ vs, IsTP s.heap v (k v) ∧ (k v).length = L) (ha : ∀ o, s.heap.get? a = some o → o.cls ≠ .type "tuple") : SortableO prog w A s a vs fun v u => HT.lexLt (k v) (k u) := by
  intro h' keep
  have hp' : ∀ v ∈ vs, IsTP h' v (k v) ∧ (k v).length = L := fun v hm => ⟨(hp v hm).1.keeps fun b o e c => keep b o (fun z => by subst z; exact ha o e c) e, (hp v hm).2⟩
  obtain ⟨fs, h1, h2, h3⟩ := firsts_tp fun v hm => ⟨_, (hp' v hm).1⟩
  refine ⟨tuples' false, fun Q E hq => ?_, tp_cmp hu hp'⟩
  refine PySem.W.kat_kind (T := .type "tuple") h1 (by omega) (fun f hm => ?_) (by rfl) ?_
  · obtain ⟨b, o, rfl, g1, g2⟩ := h3 f hm
    rw [← g2]
    exact (show PySem.W.Looks (model prog w) h' (typeOf (.ref b)) o.cls from (PySem.W.Looks.ld g1).andThen PySem.W.Looks.now)
  · have e : (Value.type "tuple" != Value.type "tuple") = false := by first | decide +kernel | rfl | decide
    rw [e]
    exact hq
end
/-! ### as a rule of data -/
open L2
abbrev encT (p : List Int × Int) : D := .tup [dTup p.1, .int p.2]
def sortDF : FN
  | [.r d], m, R => ∃ (kvs : List (D × D)) (ps : List (List Int × Int)) (L : Nat), m d = some (.dic kvs) ∧ kvs.map (·.1) = ps.map encT ∧ (∀ p ∈ ps, p.1.length = L) ∧ kvs.length ≤ 16000000 ∧ ∀ qs : List (List Int × Int), qs.Perm ps → R (.d (.lst (qs.map encT))) m
  | _, _, _ => False
theorem IsTP.uniq {h : Heap} {v : Value} {ks ks' : List Int} (p : IsTP h v ks) (q : IsTP h v ks') : ks = ks' := by
  obtain ⟨ns, x, a, o, t, b, items, n, e1, e2, e3, e4, e5, e6, e7⟩ := p
  obtain ⟨ms, x', a', o', t', b', items', n', e1', e2', e3', e4', e5', e6', e7'⟩ := q
  subst e2
  cases e2'
  rw [e3] at e3'
  cases e3'
  rw [e5] at e5'
  injection e5' with e5' _
  have e8 := congrArg Array.toList e5'
  simp at e8
  obtain ⟨rfl, rfl, _⟩ := e8
  have := NestedIs.inj _ _ _ (nested_tup e6 e7) (nested_tup e6' e7')
  injection this with this
  have inj : ns = ms := by
    have h3 := beq_nums ns ms
    rw [this, NestedKey.beqAll_self] at h3
    exact of_decide_eq_true h3.symm
  rw [e1, e1', inj]
theorem cr_sortD {X : Cx} {G : Ctx} (hc : X.calm = true) (hu : X.A.units + 100 < cLine) : CallR X (.builtin "sorted") (rDn G sortDF) := by
  intro pins s σ H xs us Q I r h
  obtain ⟨dx, m, R, s0, r1, h, p⟩ := h
  unfold sortDF at h
  split at h
  · rename_i d
    obtain ⟨kvs, ps, L, hm, hks, hL, hz, h⟩ := h
    cases r1 with
    | cons q1 q2 =>
      cases q2
      cases (show _ = V.ref d from q1)
      obtain ⟨u, rfl, ru⟩ := vals1 r
      obtain rfl : u = Value.ref d := ru
      obtain ⟨zs, e1, e2, e3, e4⟩ := s0 d _ hm
      obtain ⟨⟨o, es, ep, ho, hx, hd, hes⟩, _, _⟩ := (show ObjOk X.prog X.w H s.heap d (NDo G.w d zs) from I.hok d _ e1)
      have hzl : zs.length = kvs.length := by
        have : ∀ {zs : List (NestedKey × Addr × Value)} {kvs : List (D × D)}, RKs (fz H m) zs kvs → zs.length = kvs.length := by
          intro zs kvs r
          induction r with
          | nil => rfl
          | cons _ _ ih => rw [List.length_cons, List.length_cons, ih]
        exact this e4
      have hel : es.size = zs.length := by
        have := congrArg List.length hes
        rw [Array.length_toList, List.length_map] at this
        exact this
      have hsz : es.size ≤ sizeLine := by rw [sizeLine_eq]; omega
      -- the keys as they stand
      have keys : ∀ {zs : List (NestedKey × Addr × Value)} {kvs : List (D × D)} {ps : List (List Int × Int)}, RKs (fz H m) zs kvs → kvs.map (·.1) = ps.map encT → Paired (fun (z : NestedKey × Addr × Value) (p : List Int × Int) => IsTP s.heap (.ref z.2.1) (p.1 ++ [p.2]) ∧ Rp (fz H m) (.ref z.2.1) (encT p)) zs ps := by
        intro zs kvs ps r
        induction r generalizing ps with
        | nil =>
          intro e
          cases ps with
          | nil => exact .nil
          | cons p ps => simp at e
        | @cons z kv zs kvs hk t ih =>
          intro e
          cases ps with
          | nil => simp at e
          | cons p ps =>
            rw [List.map_cons, List.map_cons] at e
            injection e with ea eb
            refine .cons ?_ (ih eb)
            have rk := hk.a
            rw [ea] at rk
            refine ⟨?_, rk⟩
            cases id rk with
            | tup g1 g2 =>
              cases g2 with
              | cons c1 g2 =>
                cases g2 with
                | cons c2 g2 =>
                  cases g2
                  cases c2
                  cases c1 with
                  | tup d1 d2 =>
                    have e := d2.ints
                    subst e
                    obtain ⟨_, its2, r2, ob, hob, hcb, n, hdb⟩ := I.hok _ _ (fz_ex _ _ g1)
                    obtain ⟨u1, u2, rfl, ri, rj⟩ := vals2 r2
                    obtain ⟨t1, rfl⟩ := rj
                    cases (show u1 = Value.ref _ from ri)
                    obtain ⟨_, its3, r3, tup3⟩ := I.hok _ _ (fz_ex _ _ d1)
                    exact ⟨p.1, p.2, _, ob, t1, _, its3.toArray, n, rfl, rfl, hob, hcb, hdb, tup3, by simpa using Vals.ints r3⟩
      have pr := keys e4 hks
      refine Calls.call_function_entry PyProof.Rows.kind_sorted PyProof.Rows.plain_sorted PyProof.Rows.entry_sorted (PyProof.Rows.args_sorted1 _) ?_
      unfold Builtin.«sorted»
      refine wpAny_bind (m := checkCount "sorted" 1 1 _) (wpAny_pure ?_)
      refine wpAny_bind (PySem.W.kdu_collect (A := X.A.in1) (kdl_raw e2 hx hd) (I.ok.hd hc) ho hsz fun h' tk acc hk hacc => ?_)
      have eacc : acc.toList = zs.map fun z => Value.ref z.2.1 := by
        apply List.ext_getElem
        · rw [Array.length_toList, hacc.1, hel, List.length_map]
        · intro i h1 h2
          obtain ⟨en, g1, g2⟩ := hacc.2 i (acc.toList[i]) (by rw [← Array.getElem?_toList, List.getElem?_eq_getElem h1])
          rw [g2, List.getElem_map]
          have g3 : es.toList[i]? = some en := by rw [Array.getElem?_toList]; exact g1
          rw [hes, List.getElem?_map] at g3
          have hi : i < zs.length := by rw [List.length_map] at h2; exact h2
          rw [List.getElem?_eq_getElem hi] at g3
          cases g3
          rfl
      generalize acc.toList = its at eacc
      subst eacc
      generalize hits : (zs.map fun z => Value.ref z.2.1) = its
      have hil : its.length = zs.length := by rw [← hits, List.length_map]
      have pr2 : Paired (fun (u : Value) (p : List Int × Int) => IsTP s.heap u (p.1 ++ [p.2]) ∧ (∃ a, u = .ref a) ∧ Rp (fz H m) (backV u) (encT p)) its ps := by
        have gen : ∀ {zs : List (NestedKey × Addr × Value)} {ps : List (List Int × Int)}, Paired (fun (z : NestedKey × Addr × Value) (p : List Int × Int) => IsTP s.heap (.ref z.2.1) (p.1 ++ [p.2]) ∧ Rp (fz H m) (.ref z.2.1) (encT p)) zs ps → Paired (fun (u : Value) (p : List Int × Int) => IsTP s.heap u (p.1 ++ [p.2]) ∧ (∃ a, u = .ref a) ∧ Rp (fz H m) (backV u) (encT p)) (zs.map fun z => Value.ref z.2.1) ps := by
          intro zs ps pr
          induction pr with
          | nil => exact .nil
          | cons hp _ ih => exact .cons ⟨hp.1, ⟨_, rfl⟩, hp.2⟩ ih
        rw [← hits]
        exact gen pr
      have hex : ∀ v ∈ its, ∃ p : List Int × Int, p ∈ ps ∧ IsTP s.heap v (p.1 ++ [p.2]) ∧ (∃ a, v = .ref a) ∧ Rp (fz H m) (backV v) (encT p) := by
        clear hits hil pr hL h hks
        induction pr2 with
        | nil => intro v hv; exact nomatch hv
        | @cons u p us ps hp t ih =>
          intro v hv
          rcases List.mem_cons.mp hv with rfl | hv
          · exact ⟨p, List.mem_cons_self, hp⟩
          · obtain ⟨q, q1, q2⟩ := ih v hv
            exact ⟨q, List.mem_cons_of_mem _ q1, q2⟩
      let dec : Value → List Int × Int := fun v => if hv : v ∈ its then Classical.choose (hex v hv) else ([], 0)
      have hdec : ∀ v ∈ its, dec v ∈ ps ∧ IsTP s.heap v ((dec v).1 ++ [(dec v).2]) ∧ (∃ a, v = .ref a) ∧ Rp (fz H m) (backV v) (encT (dec v)) := fun v hv => by
        have e : dec v = Classical.choose (hex v hv) := dif_pos hv
        rw [e]
        exact Classical.choose_spec (hex v hv)
      have emap : its.map dec = ps := by
        have : ∀ {us : List Value} {ps : List (List Int × Int)}, Paired (fun (u : Value) (p : List Int × Int) => IsTP s.heap u (p.1 ++ [p.2]) ∧ (∃ a, u = .ref a) ∧ Rp (fz H m) (backV u) (encT p)) us ps → (∀ u ∈ us, u ∈ its) → us.map dec = ps := by
          intro us ps pr
          induction pr with
          | nil => intro _; rfl
          | @cons u p us ps hp t ih =>
            intro hs
            rw [List.map_cons, ih fun x hx => hs x (List.mem_cons_of_mem _ hx)]
            have e := (hdec u (hs u List.mem_cons_self)).2.1.uniq hp.1
            have e1 := List.append_inj' e rfl
            congr 1
            refine Prod.ext e1.1 ?_
            have := e1.2
            simpa using this
        exact this pr2 fun _ h => h
      have I1 : Inv X pins σ H { s with heap := h', toks := tk } := I.kept hk
      have hzz : its.length ≤ sizeLine := by rw [hil, ← hel]; exact hsz
      refine wpAny_bind (wpAny_newList ?_ hzz)
      have hoL : (h'.push (seqObj "list" its.toArray 0)).get? h'.objs.size = some (seqObj "list" its.toArray 0) := Heap.get?_push_size _ rfl
      show wpAny _ _ _ _ _ { s with heap := h'.push (seqObj "list" its.toArray 0), toks := tk }
      refine wpAny_bind (wpAny_holding (wpAny_call_entry PyProof.Rows.slot_list_sort ⟨_, hoL, rfl⟩ PyProof.Rows.entry_list_sort
        (list_sort_ord (s := { s with heap := h'.push (seqObj "list" its.toArray 0), toks := tk }) (NtL.swo_lexL fun v => (dec v).1 ++ [(dec v).2]) hoL hzz (fun h2 => ?_) fun out hs hb => ⟨_, rfl, ?_⟩) (PyProof.Rows.args_list_sort _)))
      · refine tp_sortable (L := L + 1) ?_ (by omega) (fun v hv => ⟨(hdec v hv).2.1.keeps fun b o e _ => Heap.get?_push_of_some _ (hk b o e), ?_⟩) fun o e => ?_
        · first
          | omega
          | (show X.A.units + 1 + 1 < cLine; omega)
          | (show X.A.units + 2 + 1 < cLine; omega)
          | (show X.A.units + 3 + 1 < cLine; omega)
        · rw [List.length_append, hL _ (hdec v hv).1]
          rfl
        · have e' : some o = some (seqObj "list" its.toArray 0) := e.symm.trans hoL
          cases e'
          intro c
          exact absurd (Value.type.inj c) (by decide)
      · obtain ⟨e', he'⟩ := PyProof.Rows.sortedHeap_at (vs := its) (out := out.toArray) hoL
        have hmem : ∀ u ∈ out, u ∈ its := fun u hu => hb.perm.mem_iff.mp hu
        have h3 : ∀ u ∈ out, ∃ a, u = Value.ref a := fun u hu => (hdec u (hmem u hu)).2.2.1
        have hlen : out.length = its.length := hb.perm.length_eq
        have hperm : (out.map dec).Perm ps := by rw [← emap]; exact hb.perm.map dec
        have rp : RpL (fz H m) (out.map backV) ((out.map dec).map encT) := by
          rw [List.map_map]
          exact RpL.of_all fun u hu => (hdec u (hmem u hu)).2.2.2
        have nd : H h'.objs.size = none := I1.hok.fresh (Nat.le_refl _)
        refine wpAny_pure ⟨_, rfl, .ref h'.objs.size, upd H h'.objs.size (.lst (out.map backV)), I1.laid (t' := tk) (fun b u e => ?_) (Nat.le_refl _) ⟨?_, out, e', vals_back h3, he'⟩, rfl, p.lay s0 nd rp (h _ hperm)⟩
        · have hb : b < h'.objs.size := Heap.lt_size e
          rw [PyProof.Rows.sortedHeap_old (Nat.ne_of_lt hb) (by rw [size_push']; exact Nat.lt_succ_of_lt hb)]
          exact Heap.get?_push_of_some _ e
        · rw [List.length_map, hlen]
          exact hzz
  · exact h.elim
end Lb

/-! LbX: texts: join, split, str of a number, int of a text. -/
namespace Lb
open PySem L2 SX
theorem rpl_strs {F : Hp} : ∀ {ys : List Str} {vs : List V}, RpL F vs (ys.map D.str) → vs = ys.map V.str
  | [], _, .nil => rfl
  | y :: ys, _, .cons h t => by cases h; rw [rpl_strs t]; rfl
theorem rpl_strs' {F : Hp} : ∀ (ys : List Str), RpL F (ys.map V.str) (ys.map D.str)
  | [] => .nil
  | y :: ys => .cons (.str y) (rpl_strs' ys)
def joinF : FM
  | .d (.str a), [y], m, R => ∃ ys : List Str, vw m y = some (.lst (ys.map D.str)) ∧ (ys.map (·.length)).sum + ys.length * a.length ≤ 16777216 ∧ R (.d (.str (Txt.join a ys))) m
  | _, _, _, _ => False
def splitF : FM
  | .d (.str a), [.d (.str b)], m, R => (b.length == 0) = false ∧ a.length ≤ 100000 ∧ R (.d (.lst ((Txt.split a b).map D.str))) m
  | _, _, _, _ => False
def strF : FN
  | [.d (.int i)], m, R => i.natAbs.log2 < 1920 ∧ R (.d (.str (Str.ofString (toString i)))) m
  | _, _, _ => False
def intSF : FN
  | [.d (.str a)], m, R => ∃ n, PySem.intText? a = some n ∧ a.length ≤ 640 ∧ R (.d (.int n)) m
  | _, _, _ => False
section
variable {X : Cx} {G : Ctx}
theorem mt_joinD : MtR X "str.join" (rDM G joinF) := by
  intro pins s σ H x xs v us Q I rx rxs h
  obtain ⟨dx, es, m, R, s0, r1, r2, h, p⟩ := h
  unfold joinF at h
  split at h
  · obtain ⟨ys, e, hz, h⟩ := h
    cases r1
    cases r2 with
    | cons q1 q2 =>
      cases q2
      have rr := vw_rp s0 q1 e
      cases rr with
      | lst a1 a2 =>
        have e2 := rpl_strs a2
        subst e2
        exact mt_join pins s σ H _ _ v us Q I rx rxs ⟨_, _, ys, rfl, rfl, .inl (SqL.of a1), hz, p.here s0 (RV.dat (Rp.str _)) h⟩
  · exact h.elim
theorem mt_splitD : MtR X "str.split" (rDM G splitF) := by
  intro pins s σ H x xs v us Q I rx rxs h
  obtain ⟨dx, es, m, R, s0, r1, r2, h, p⟩ := h
  unfold splitF at h
  split at h
  · obtain ⟨hb, hz, h⟩ := h
    cases r1
    cases r2 with
    | cons q1 q2 =>
      cases q2
      cases q1
      exact mt_split pins s σ H _ _ v us Q I rx rxs ⟨_, _, rfl, rfl, hb, (by have : sizeLine = 16777216 := rfl; omega), fun l hl => p.lay s0 hl (rpl_strs' _) h⟩
  · exact h.elim
theorem cr_strD : CallR X (.type "str") (rDn G strF) := by
  intro pins s σ H xs us Q I r h
  obtain ⟨dx, m, R, s0, r1, h, p⟩ := h
  unfold strF at h
  split at h
  · cases r1 with
    | cons q1 q2 =>
      cases q2
      cases q1
      exact call_str_int pins s σ H _ us Q I r ⟨_, rfl, h.1, p.here s0 (RV.dat (Rp.str _)) h.2⟩
  · exact h.elim
theorem cr_intS : CallR X (.type "int") (rDn G intSF) := by
  intro pins s σ H xs us Q I r h
  obtain ⟨dx, m, R, s0, r1, h, p⟩ := h
  unfold intSF at h
  split at h
  · obtain ⟨n, h1, h2, h⟩ := h
    cases r1 with
    | cons q1 q2 =>
      cases q2
      cases q1
      exact call_int_str pins s σ H _ us Q I r ⟨_, _, rfl, h1, h2, p.here s0 (RV.dat (Rp.int _)) h⟩
  · exact h.elim
end
section
variable {G : Ctx} {W : WX} {ds : DS} {m : Mu} {R : DV → Mu → Prop} {XR : Tag → Mu → Prop} {to te : TE} {f : FM}
theorem ev_m1 (h : EvD G W to ds m (fun x m1 => (∃ a, x = .d (.str a)) ∧ EvD G W te ds m1 (fun y m2 => f x [y] m2 R) XR) XR) : EvD G W (tM1 (rDM G f) to te) ds m R XR := fun σ H Q s r p x =>
  h σ H _ s r (fun v H1 d m1 t1 s1 r1 ⟨⟨a, e⟩, q1⟩ => ⟨by subst e; cases r1; exact ⟨_, rfl⟩, q1 σ H1 _ s1 (r.mono t1) (fun u H2 y m2 t2 s2 r2 q2 => ⟨d, [y], m2, R, s2, r1.mono t2, .cons r2 .nil, q2, p.tr (t1.trans t2)⟩) (x.tr t1)⟩) x
end
/-! ### texts by their signs -/
theorem mk1 (c : Nat) : (⟨#[c]⟩ : Str) = S [c] := rfl
theorem S_strOk {l : List Nat} (h : ∀ c ∈ l, c < 128) : PyData.strOk (S l) = true := by
  unfold PyData.strOk
  rw [← Array.all_toList]
  exact List.all_eq_true.mpr fun c hc => decide_eq_true (by have := h c hc; omega)
theorem sh_S {n : Nat} {l : List Nat} (h : ∀ c ∈ l, c < 128) : Sh n (.str (S l)) := sh_str (S_strOk h)
theorem eqD_S (a b : List Nat) : eqD (.str (S a)) (.str (S b)) = decide (a = b) := by
  rw [eqD_str]
  by_cases h : a = b
  · subst h; simp
  · rw [decide_eq_false h]
    exact decide_eq_false fun e => h (S_inj e)
def figs : List Nat := [48, 49, 50, 51, 52, 53, 54, 55, 56, 57]
theorem figs_S : Str.ofString "0123456789" = S figs := by decide +kernel
theorem mem_figs (c : Nat) : c ∈ figs ↔ 48 ≤ c ∧ c ≤ 57 := by
  unfold figs
  simp
  omega
theorem f_in_figs {m : Mu} {R : DV → Mu → Prop} {c : Nat} (h : R (.d (.bl (decide (c ∈ figs)))) m) : inF (.d (.str (S [c]))) (.d (.str (S figs))) m R := by
  show R (.d (.bl (!(Builtin.Str.occurrences (S figs) (S [c]) 0 (S figs).length 1).isEmpty))) m
  rw [in_one]
  exact h
theorem f_in_none {m : Mu} {R : DV → Mu → Prop} (h : R (.d (.bl true)) m) : inF (.d (.str (S []))) (.d (.str (S figs))) m R := by
  show R (.d (.bl (!(Builtin.Str.occurrences (S figs) (S []) 0 (S figs).length 1).isEmpty))) m
  rw [show (!(Builtin.Str.occurrences (S figs) (S []) 0 (S figs).length 1).isEmpty) = true by decide +kernel]
  exact h
theorem st_xdrop' {G : Ctx} {W : WX} {ds : DS} {m : Mu} {N : EndsD} {XR : Tag → DS → Mu → Prop} {t : TS} (h : StD G W t ds m N (fun c ds1 m1 => ∃ m2, Sub m2 m1 ∧ XR c ds1 m2)) : StD G W t ds m N XR := fun σ H E s r p =>
  h σ H E s r ⟨p.nx, p.rt, p.bk, p.ct, fun c hc σ' H' ds' m' tr s' r' ⟨m2, b, q⟩ => by
    obtain ⟨s2, t2⟩ := s'.sub b
    exact p.xe c hc σ' H' ds' m2 (tr.trans t2) s2 (r'.mono t2) q⟩
theorem cutS_mid (l : List Nat) (i j : Nat) : cutS (S l) (some (i : Int)) (some (j : Int)) = S ((l.drop i).take (j - i)) := by
  unfold cutS
  rw [HT.sIx_nat, HT.sIx_nat, S_len]
  show S _ = S _
  congr 1
  show (l.drop (min i l.length)).take (min j l.length - min i l.length) = _
  by_cases h : i ≤ l.length
  · rw [Nat.min_eq_left h]
    by_cases h2 : j ≤ l.length
    · rw [Nat.min_eq_left h2]
    · rw [Nat.min_eq_right (by omega), List.take_of_length_le (by rw [List.length_drop]; omega), List.take_of_length_le (by rw [List.length_drop]; omega)]
  · rw [Nat.min_eq_right (a := i) (by omega), List.drop_eq_nil_of_le (Nat.le_refl _), List.drop_eq_nil_of_le (i := i) (by omega)]
    simp
theorem cutS_to (l : List Nat) (j : Nat) : cutS (S l) none (some (j : Int)) = S (l.take j) := by
  unfold cutS
  rw [HT.sIx_none, HT.sIx_nat, S_len]
  show S _ = S _
  congr 1
  show (l.drop 0).take (min j l.length - 0) = _
  rw [List.drop_zero, Nat.sub_zero]
  by_cases h2 : j ≤ l.length
  · rw [Nat.min_eq_left h2]
  · rw [Nat.min_eq_right (by omega), List.take_of_length_le (Nat.le_refl _), List.take_of_length_le (by omega)]
theorem cutS_from (l : List Nat) (i : Nat) : cutS (S l) (some (i : Int)) none = S (l.drop i) := by
  unfold cutS
  rw [HT.sIx_nat, HT.sIx_none, S_len]
  show S _ = S _
  congr 1
  show (l.drop (min i l.length)).take (l.length - min i l.length) = _
  by_cases h : i ≤ l.length
  · rw [Nat.min_eq_left h, List.take_of_length_le (by rw [List.length_drop]; omega)]
  · rw [Nat.min_eq_right (by omega), List.drop_eq_nil_of_le (Nat.le_refl _), List.drop_eq_nil_of_le (by omega)]
    simp
theorem s_dot : Str.ofString "." = S [46] := by decide +kernel
theorem s_com : Str.ofString "," = S [44] := by decide +kernel
theorem s_spc : Str.ofString " " = S [32] := by decide +kernel
theorem s_opn : Str.ofString "(" = S [40] := by decide +kernel
theorem s_cls : Str.ofString ")" = S [41] := by decide +kernel
theorem s_nul : Str.ofString "0" = S [48] := by decide +kernel
theorem s_emp : Str.ofString "" = S [] := by decide +kernel
theorem x_sl {m : Mu} {R : DV → Mu → Prop} {l : List Nat} {lo hi : Option Int} (hl : l.length ≤ 100000) (h : R (.d (.str (cutS (S l) lo hi))) m) : sliceF (.d (.str (S l))) lo hi m R := ⟨by rw [S_len]; exact hl, h⟩
theorem x_len {m : Mu} {R : DV → Mu → Prop} {l : List Nat} (hl : l.length ≤ 100000) (h : R (.d (.int (l.length : Nat))) m) : lenF [.d (.str (S l))] m R := ⟨by rw [S_len]; exact hl, by rw [S_len]; exact h⟩
theorem x_eq {m : Mu} {R : DV → Mu → Prop} {a b : List Nat} (ha : ∀ c ∈ a, c < 128) (hb : ∀ c ∈ b, c < 128) (h : R (.d (.bl (decide (a = b)))) m) : eqF (.d (.str (S a))) (.d (.str (S b))) m R := ⟨sh_S ha, sh_S hb, by rw [eqD_S]; exact h⟩
theorem x_ne {m : Mu} {R : DV → Mu → Prop} {a b : List Nat} (ha : ∀ c ∈ a, c < 128) (hb : ∀ c ∈ b, c < 128) (h : R (.d (.bl (!decide (a = b)))) m) : neF (.d (.str (S a))) (.d (.str (S b))) m R := ⟨sh_S ha, sh_S hb, by rw [eqD_S]; exact h⟩
theorem x_add {m : Mu} {R : DV → Mu → Prop} {a b : List Nat} (hl : a.length + b.length ≤ 100000) (h : R (.d (.str (S (a ++ b)))) m) : addF (.d (.str (S a))) (.d (.str (S b))) m R := ⟨by rw [S_len, S_len]; exact hl, by rw [S_cat]; exact h⟩
theorem x_at {m : Mu} {R : DV → Mu → Prop} {l : List Nat} {i c : Nat} (hl : l.length ≤ 100000) (hc : l[i]? = some c) (h : R (.d (.str (S [c]))) m) : idxF (.d (.str (S l))) (.d (.int (i : Int))) m R := by
  refine ⟨by rw [S_len]; exact hl, c, ?_, h⟩
  exact atI_nat hc
end Lb

/-! LbG: >= of tuples of ints. -/
namespace Lb
open PySem L2
open PySem.Spec PyProof.Rows in
theorem op_geI {X : Cx} (hu : X.A.units < cLine) : OpR X (compareOp .GtE) (fun x y H Q => ∃ (a b : Addr) (ns ms : List Int), x = .ref a ∧ y = .ref b ∧ SqT X.K H a (ns.map V.int) ∧ SqT X.K H b (ms.map V.int) ∧ Q (.bl (lexLeI ms ns)) H) := by
  intro pins s σ H x y v u Q I rx ry h
  obtain ⟨a, b, ns, ms, rfl, rfl, ha, hb, q⟩ := h
  cases rx
  cases ry
  obtain ⟨its, r1, p1, _⟩ := I.tuple ha
  obtain ⟨its2, r2, p2, _⟩ := I.tuple hb
  have i1 : IntsAre its ns := Vals.ints r1
  have i2 : IntsAre its2 ms := Vals.ints r2
  have e1 : its.toArray.size = ns.length := by rw [List.size_toArray]; exact i1.length
  have e2 : its2.toArray.size = ms.length := by rw [List.size_toArray]; exact i2.length
  have at1 : ∀ j (h1 : j < its.toArray.size), ∃ t, its.toArray[j] = .int (ns.getD j 0) t := fun j h1 => PyProof.Rows.IntsAre.int_at i1 _ _ (by simp at h1; simp [h1])
  have at2 : ∀ j (h1 : j < its2.toArray.size), ∃ t, its2.toArray[j] = .int (ms.getD j 0) t := fun j h1 => PyProof.Rows.IntsAre.int_at i2 _ _ (by simp at h1; simp [h1])
  have R := Ob.RcOp.tuples_ge (A := X.A) (s := s) (e := fun j => decide (ms.getD j 0 = ns.getD j 0)) (r := fun j => decide (ms.getD j 0 ≤ ns.getD j 0)) p1 p2 hu (fun j h1 h2 => by
    obtain ⟨t, et⟩ := at1 j h1
    obtain ⟨t', et'⟩ := at2 j h2
    rw [et, et']
    have z : (ns.getD j 0 == ms.getD j 0) = decide (ms.getD j 0 = ns.getD j 0) := by
      by_cases q : ms.getD j 0 = ns.getD j 0
      · rw [decide_eq_true q]; exact beq_iff_eq.mpr q.symm
      · rw [decide_eq_false q]; exact beq_eq_false_iff_ne.mpr fun w => q w.symm
    show SeqAt.EqAt X.A.in1 s _ _ (decide (ms.getD j 0 = ns.getD j 0))
    rw [← z]
    exact SeqAt.EqAt.int_int _ _ _ _) (fun j h1 h2 _ => by
    obtain ⟨t, et⟩ := at1 j h1
    obtain ⟨t', et'⟩ := at2 j h2
    rw [et, et']
    exact Ob.RcOp.ge_int _ _ _ _)
  rw [e1, e2] at R
  have z := lexAt_le ms ns [] [] 0 rfl rfl
  rw [List.nil_append, List.nil_append] at z
  rw [Nat.min_comm] at z
  exact R X.prog X.w X.xe (EP X pins σ Q) ⟨.bl _, H, I, rfl, by
    have w : Ob.lexAt (fun j => decide (ms.getD j 0 = ns.getD j 0)) (fun j => decide (ms.getD j 0 ≤ ns.getD j 0)) (decide (ns.length ≥ ms.length)) 0 (min ns.length ms.length) = lexLeI ms ns := z
    rw [w]
    exact q⟩
def geTF : F2
  | .d (.tup xs), .d (.tup ys), m, R => ∃ ns ms : List Int, xs = ns.map D.int ∧ ys = ms.map D.int ∧ R (.d (.bl (lexLeI ms ns))) m
  | _, _, _, _ => False
theorem or_geT {X : Cx} {G : Ctx} (hK : X.K = G.K) (hu : X.A.units < cLine) : OpR X (compareOp .GtE) (rD2 G geTF) := by
  intro pins s σ H x y v u Q I rx ry h
  obtain ⟨dx, dy, m, R, s0, r1, r2, h, p⟩ := h
  unfold geTF at h
  split at h
  · obtain ⟨ns, ms, rfl, rfl, h⟩ := h
    cases r1 with
    | tup h1 h2 =>
      cases r2 with
      | tup h3 h4 =>
        have e1 := h2.ints
        have e2 := h4.ints
        subst e1 e2
        exact op_geI hu pins s σ H _ _ v u Q I rx ry ⟨_, _, ns, ms, rfl, rfl, SqT.of (fz_ex _ _ h1), SqT.of (fz_ex _ _ h3), p.here s0 (RV.dat (Rp.bl _)) h⟩
  · exact h.elim
theorem lexGe_pair {a b c d : Int} : lexLeI [c, d] [a, b] = decide (c < a ∨ c = a ∧ d ≤ b) := by
  unfold lexLeI lexLeI lexLeI
  by_cases h : c = a
  · rw [if_pos h]
    by_cases h2 : d = b
    · rw [if_pos h2]; symm; apply decide_eq_true; omega
    · rw [if_neg h2]
      apply decide_eq_decide.mpr
      omega
  · rw [if_neg h]
    apply decide_eq_decide.mpr
    omega
end Lb

/-! LbQ: sorted of a list of ints. -/
namespace Lb
open PySem L2
def sortIF : FN
  | [x], m, R => ∃ ns, vw m x = some (dInts ns) ∧ ∀ qs : List Int, qs.Perm ns → qs.Pairwise (· ≤ ·) → ∀ d, m d = none → R (.r d) (mset m d (.lst (qs.map D.int)))
  | _, _, _ => False
theorem cr_sortI {X : Cx} {G : Ctx} (hK : X.K = G.K) : CallR X (.builtin "sorted") (rDn G sortIF) := by
  intro pins s σ H vs us Q I r h
  obtain ⟨dx, m, R, s0, r1, h, p⟩ := h
  unfold sortIF at h
  split at h
  · obtain ⟨ns, e, h⟩ := h
    cases r1 with
    | cons q1 q2 =>
      cases q2
      have rr := vw_rp s0 q1 e
      cases rr with
      | lst a1 a2 =>
        have e2 := a2.ints
        subst e2
        exact cr_sortedI pins s σ H _ us Q I r ⟨_, ns, rfl, SqL.of a1, fun ns' a hp hs ha => p.own s0 ha (RpL.ofInts ns') (fun b hb => h ns' hp hs b hb)⟩
  · exact h.elim
end Lb

/-! LbY: a dict with texts as keys. -/
namespace Lb
open PySem L2
def tget (kvs : List (Str × D)) (k : Str) : Option D := (kvs.find? fun p => decide (p.1 = k)).map (·.2)
def tput (kvs : List (Str × D)) (k : Str) (v : D) : List (Str × D) := if (kvs.any fun p => decide (p.1 = k)) = true then kvs.map fun p => if p.1 = k then (p.1, v) else p else kvs ++ [(k, v)]
theorem RT.get {F : Hp} {k : Str} : ∀ {vs : List (Key × V)} {kvs : List (Str × D)} {d : D}, PySem.Paired (RT F) vs kvs → tget kvs k = some d → ∃ v, valV vs (.inr k : Key) = some v ∧ Rp F v d
  | _, _, _, .nil, e => by cases e
  | (k1, v1) :: vs, (s1, d1) :: kvs, d, .cons h t, e => by
    obtain ⟨h1, h2⟩ := h
    have h1 : k1 = .inr s1 := h1
    subst h1
    unfold tget at e
    by_cases q : s1 = k
    · subst q
      rw [List.find?_cons_of_pos (by simp)] at e
      cases e
      exact ⟨v1, valV_pos rfl, h2⟩
    · rw [List.find?_cons_of_neg (by simpa using q)] at e
      obtain ⟨v, a, b⟩ := RT.get (k := k) (d := d) t e
      exact ⟨v, by rw [valV_neg (fun z => q (by injection z))]; exact a, b⟩
theorem RT.put {F : Hp} {k : Str} {v : V} {d : D} (r : Rp F v d) {vs : List (Key × V)} {kvs : List (Str × D)} (h : PySem.Paired (RT F) vs kvs) : PySem.Paired (RT F) (putK vs (.inr k : Key) v) (tput kvs k d) := by
  have hany : ∀ {vs : List (Key × V)} {kvs : List (Str × D)}, PySem.Paired (RT F) vs kvs → (vs.any fun p => decide (p.1 = (.inr k : Key))) = kvs.any fun p => decide (p.1 = k) := by
    intro vs kvs h
    induction h with
    | nil => rfl
    | @cons p q ps qs h t ih =>
      rw [List.any_cons, List.any_cons, ih, h.1]
      congr 1
      exact decide_eq_decide.mpr ⟨fun z => by injection z, fun z => by rw [z]⟩
  have hmap : ∀ {vs : List (Key × V)} {kvs : List (Str × D)}, PySem.Paired (RT F) vs kvs → PySem.Paired (RT F) (vs.map fun kv => if kv.1 = (.inr k : Key) then (kv.1, v) else kv) (kvs.map fun p => if p.1 = k then (p.1, d) else p) := by
    intro vs kvs h
    induction h with
    | nil => exact .nil
    | @cons p q ps qs h t ih =>
      refine .cons ?_ ih
      show RT F (if p.1 = (.inr k : Key) then (p.1, v) else p) (if q.1 = k then (q.1, d) else q)
      by_cases e : q.1 = k
      · rw [if_pos (by rw [h.1, e]), if_pos e]
        exact ⟨h.1, r⟩
      · rw [if_neg (by rw [h.1]; exact fun z => e (by injection z)), if_neg e]
        exact h
  have happ : ∀ {vs ws : List (Key × V)} {kvs lvs : List (Str × D)}, PySem.Paired (RT F) vs kvs → PySem.Paired (RT F) ws lvs → PySem.Paired (RT F) (vs ++ ws) (kvs ++ lvs) := by
    intro vs ws kvs lvs h g
    induction h with
    | nil => exact g
    | cons h t ih => exact .cons h ih
  unfold putK tput
  rw [hany h]
  split
  · exact hmap h
  · exact happ h (.cons ⟨rfl, r⟩ .nil)
/-! ### d[k] -/
def tTGet (G : Ctx) (td ti : TE) : TE := tDGet td ti
theorem ev_tget {G : Ctx} {W : WX} {ds : DS} {m : Mu} {R : DV → Mu → Prop} {XR : Tag → Mu → Prop} {td ti : TE} (h : EvD G W td ds m (fun o m1 => EvD G W ti ds m1 (fun i m2 => ∃ a k kvs d, o = .r a ∧ i = .d (.str k) ∧ m2 a = some (.tdc kvs) ∧ tget kvs k = some d ∧ R (.d d) m2) XR) XR) : EvD G W (tTGet G td ti) ds m R XR := fun σ H Q s r p x =>
  h σ H _ s r (fun v H1 o m1 t1 s1 r1 q1 => q1 σ H1 _ s1 (r.mono t1) (fun u H2 i m2 t2 s2 r2 ⟨a, k, kvs, d, e1, e2, em, eg, q2⟩ => by
    subst e1 e2
    cases r2
    cases (r1.mono t2 : RV G _ _ _)
    obtain ⟨vs, h1, h2⟩ := s2 a _ em
    obtain ⟨w, g1, g2⟩ := RT.get h2 eg
    exact ⟨a, w, rfl, by rw [← g1]; exact DGet.k (k := .inr k) h1, (p.tr (t1.trans t2)).here s2 (RV.dat g2) q2⟩) (x.tr t1)) x
/-! ### d[k] = v -/
def sTSet (G : Ctx) (td ti tv : TE) : TS := sDPut td ti tv
theorem st_tset {G : Ctx} {W : WX} {ds : DS} {m : Mu} {N : EndsD} {XS : Tag → DS → Mu → Prop} {td ti tv : TE} (h : EvD G W tv ds m (fun v m1 => EvD G W td ds m1 (fun o m2 => EvD G W ti ds m2 (fun i m3 => ∃ a k x kvs, o = .r a ∧ i = .d (.str k) ∧ v = .d x ∧ m3 a = some (.tdc kvs) ∧ kvs.length ≤ 1000 ∧ N.nx ds (mset m3 a (.tdc (tput kvs k x)))) (fun t m1 => XS t ds m1)) (fun t m1 => XS t ds m1)) (fun t m1 => XS t ds m1)) : StD G W (sTSet G td ti tv) ds m N XS := fun σ H E s r p =>
  h σ H _ s r (fun v H1 d m1 t1 s1 r1 q1 => q1 σ H1 _ s1 (r.mono t1) (fun o H2 e m2 t2 s2 r2 q2 => q2 σ H2 _ s2 (r.mono (t1.trans t2)) (fun iv H3 f m3 t3 s3 r3 ⟨a, k, x, kvs, e1, e2, e3, em, hz, q3⟩ => by
    subst e1 e2 e3
    cases r3
    cases r2
    obtain ⟨vs, h1, h2⟩ := s3 a _ em
    have hlen : vs.length = kvs.length := PySem.Paired.length h2
    have r1' : Rp (fz H3 m3) v x := (r1.mono t2).mono t3
    refine ⟨a, _, rfl, DPut.k (k := .inr k) (v := v) h1 (by have : sizeLine = 16777216 := rfl; omega), ?_⟩
    obtain ⟨s4, t4⟩ := s3.put (p := a) (o := .dK (putK vs (.inr k : Key) v)) (x := .tdc (tput kvs k x)) (fz_some em) ⟨_, upd_same, RT.put r1' h2⟩
    have t14 := ((t1.trans t2).trans t3).trans t4
    exact p.nx _ _ _ _ t14 s4 (r.mono t14) q3) ((p.x r).tr (t1.trans t2))) ((p.x r).tr t1)) (p.x r)
/-! ### {k: v, l: w} -/
def tTNew (k l : Str) (tv tw : TE) : TE := tDisp [(tC (.str k), tv), (tC (.str l), tw)]
theorem ev_tnew {G : Ctx} {W : WX} {ds : DS} {m : Mu} {R : DV → Mu → Prop} {XR : Tag → Mu → Prop} {k l : Str} {tv tw : TE} (hkl : k ≠ l) (h : ∀ a, m a = none → EvD G W tv ds (mset m a (.tdc [])) (fun x m1 => ∃ d1, x = .d d1 ∧ EvD G W tw ds m1 (fun y m2 => ∃ d2, y = .d d2 ∧ m2 a = some (.tdc []) ∧ R (.r a) (mset m2 a (.tdc [(k, d1), (l, d2)]))) XR) XR) : EvD G W (tTNew k l tv tw) ds m R XR := fun σ H Q s r p x a ha => by
  have ma := s.free ha
  obtain ⟨s0, t0⟩ := s.put (p := a) (o := .dK []) (x := .tdc []) (by rw [fz_none ma]; exact ha) ⟨[], upd_same, .nil⟩
  show tv σ _ _
  refine h a ma σ _ _ s0 (r.mono t0) (fun v H1 d m1 t1 s1 r1 ⟨d1, e1, q1⟩ => ?_) (x.tr t0)
  subst e1
  show tw σ _ _
  refine q1 σ H1 _ s1 (r.mono (t0.trans t1)) (fun u H2 e m2 t2 s2 r2 ⟨d2, e2, em, q2⟩ => ?_) (x.tr (t0.trans t1))
  subst e2
  obtain ⟨vs, h1, h2⟩ := s2 a _ em
  cases h2
  refine ⟨h1, [(.inr k, v), (.inr l, u)], rfl, by show 2 ≤ 15; decide, ?_⟩
  have e : mergeK [] [((.inr k : Key), v), (.inr l, u)] = [((.inr k : Key), v), (.inr l, u)] := by
    unfold mergeK
    rw [List.foldl_cons, List.foldl_cons, List.foldl_nil, putK_new v valV_nil, List.nil_append, putK_new u (by rw [valV_neg (fun z => hkl (by injection z))]; rfl)]
    rfl
  rw [e]
  obtain ⟨s4, t4⟩ := s2.put (p := a) (o := .dK [((.inr k : Key), v), (.inr l, u)]) (x := .tdc [(k, d1), (l, d2)]) (fz_some em) ⟨_, upd_same, .cons ⟨rfl, r1.mono t2⟩ (.cons ⟨rfl, r2⟩ .nil)⟩
  exact p _ _ (.r a) _ (((t0.trans t1).trans t2).trans t4) s4 rfl q2
/-! ### try with clauses that return a text -/
def tTryM (G : Ctx) (W : WX) (l : List (Tag × Str)) (tb : WX → TS) : TS := fun D σ H => tb (wMany G.K W D (l.map fun p => (Value.ref (G.ex p.1), fun _ _ _ => tRet (tC (.str p.2))))) D σ H
def XPair (G : Ctx) : Prop := ∀ t u, G.has t = true → G.has u = true → PySem.W.exmOne G.K (.ref (G.ex t)) (.ref (G.ex u)) = some (decide (t = u))
theorem st_tryM {G : Ctx} {W : WX} {ds : DS} {m : Mu} {N : EndsD} {XR : Tag → DS → Mu → Prop} {l : List (Tag × Str)} {tb : WX → TS} (hx : XPair G) (hl : ∀ p ∈ l, G.has p.1 = true)
    (h : ∀ W', StD G W' (tb W') ds m N (fun t _ m' => ∃ s, l.lookup t = some s ∧ N.rt (.d (.str s)) m')) : StD G W (tTryM G W l tb) ds m N XR := fun σ H E s r p =>
  h _ σ H E s r ⟨p.nx, p.rt, p.bk, p.ct, fun t ht σ2 H2 ds2 m2 t2 s2 r2 ⟨z, hz, q2⟩ => by
    clear h
    induction l with
    | nil => cases hz
    | cons u l ih =>
      refine ⟨decide (t = u.1), hx t u.1 ht (hl u (by simp)), fun e a ha => ?_, fun e => ?_⟩
      · have e := of_decide_eq_true e
        rw [List.lookup_cons] at hz
        rw [show (t == u.1) = true by rw [e]; exact beq_self_eq_true _] at hz
        cases hz
        exact p.rt _ _ _ _ t2 s2 (RV.dat (Rp.str _)) q2
      · have e := of_decide_eq_false e
        rw [List.lookup_cons] at hz
        rw [show (t == u.1) = false from beq_eq_false_iff_ne.mpr e] at hz
        exact ih (fun q hq => hl q (List.mem_cons_of_mem _ hq)) ⟨z, hz, q2⟩ hz⟩
end Lb

/-! LbZ: a comprehension whose element may raise (out of a call). -/
namespace Lb
open PySem L2 PySem.Spec PyProof.Rows
theorem funF_but {h h2 b1 b2 : Heap} : ∀ {l : List Env}, h.FunFrames b1 l → (∀ b ∈ frs l, h2.get? b = h.get? b) → (∀ b ∈ frs l, b2.get? b = none) → h2.FunFrames b2 l
  | [], _, _, _ => trivial
  | e :: l, q, k1, k2 => by
    obtain ⟨a1, ⟨L, o, a2, a3, a4, a5⟩, a6⟩ := q
    have m0 : L ∈ frs (e :: l) := List.mem_filterMap.mpr ⟨e, List.mem_cons_self, a2⟩
    have ms : ∀ b ∈ frs l, b ∈ frs (e :: l) := fun b hb => by
      obtain ⟨x, x1, x2⟩ := List.mem_filterMap.mp hb
      exact List.mem_filterMap.mpr ⟨x, List.mem_cons_of_mem _ x1, x2⟩
    exact ⟨a1, ⟨L, o, a2, k2 L m0, (k1 L m0).trans a4, a5⟩, funF_but a6 (fun b hb => k1 b (ms b hb)) (fun b hb => k2 b (ms b hb))⟩
theorem note_same {e : Value} {e1 e2 : Env} (h : e1.frame = e2.frame) : noteFrame e e1 = noteFrame e e2 := by
  unfold noteFrame PySem.frameOf
  rw [h]
/-- an exception out of a call in the block: the block is let go, and it is in the air of the def -/
theorem blk_out {X : Cx} {W : WX} {pins pins1 : List (Addr × Obj)} {σ σ1 : L2.St} {H3 H1 : Hp} {s3 s1 s2 : Shared} {scope : Scope} {ce : Env} {fp : List Addr} {xe : Value → Shared → Prop} {e : Value}
    (hst : X.stack = X.env :: X.outer) (hfr : X.env.frame = some X.env.locals) (tk : Takes X W) (I3 : L2.Inv X pins σ H3 s3) (hcl : ce.locals = s3.heap.objs.size) (hcf : ce.frame = X.env.frame) (f3 : ∀ b ∈ fp, FpOk X pins H3 b)
    (I : L2.Inv ((X.blk s3 H3 scope ce fp).wish xe) pins1 σ1 H1 s1) (c : L2.CX X.prog X.w X.stack H1 s1 (fun cls d H => W cls d σ H) e s2) :
    notedBy (model X.prog X.w) X.A ce (CompFails (model X.prog X.w) X.A X.xe ce) e s2 := by
  obtain ⟨a, B, sI, pI, σI, HI, cls, d, eu, J, nb, up, sky, na, os, ag, w⟩ := XE.of_call (X := (X.blk s3 H3 scope ce fp).wish xe) (W := fun cls d _ H => W cls d σ H) I (fun _ _ _ h => h) c
  subst eu
  have fly : HandSPX.FlyingZ B X.stack a (Zc cls d) s2.heap := by
    obtain ⟨a0, B0, H0, cls0, d0, e0, fl0, _⟩ := c
    cases e0
    obtain ⟨_, _, _, oe, vs, T, oT, ts, g1, _, g2, g3, _, _, g4, g5, g6⟩ := fl0
    rcases sky with ⟨_, _, _, oe', vs', k1, _, k2, k3⟩ | fl | ⟨_, _, _, oe', vs', T', oT', ts', k1, _, k2, k3, _, _, k4, k5, k6⟩
    · rw [g1] at k1; cases k1
      rw [g2] at k2; cases k2
      rw [g3] at k3; cases k3
    · exact fl
    · rw [g1] at k1; cases k1
      rw [g2] at k2; cases k2
      rw [g3] at k3; cases k3
      rw [g4] at k4; cases k4
      rw [g5] at k5; cases k5
      rw [g6] at k6
      simp [rawInt] at k6
  have frames : X.A.frames = some (X.env :: X.outer) := by rw [I3.ok.frames, hst]
  rw [hst] at fly
  unfold notedBy
  rw [note_same hcf]
  refine HandSPX.looks_onZ Zc.steady frames hfr fly fun h1 held1 up1 => ?_
  have nC : ce.locals ∉ frs X.stack := fun hm => by
    obtain ⟨_, o, q, _⟩ := I3.stack.mem hm
    have := Heap.lt_size q
    rw [hcl] at this
    exact Nat.lt_irrefl _ this
  obtain ⟨m, hnI, _⟩ := J.loc
  obtain ⟨oC, esC, epC, c1, c2, c3⟩ := hnI
  have c1 : sI.heap.get? ce.locals = some oC := c1
  have bC : B.get? ce.locals = some oC := nb _ _ c1 nC
  refine ⟨m, ⟨oC, esC, epC, held1.1 _ _ bC, c2, c3⟩, fun h2 m2 hn2 sb => ?_⟩
  have hidI : ∀ {G : Heap} {b : Addr} {o : Obj}, (PySem.W.hideAll G [ce.locals]).get? b = some o → G.get? b = some o ∧ b ≠ ce.locals := fun {G b o} q =>
    ⟨PySem.W.of_hideAll _ q, fun z => by rw [PySem.W.hideAll_none [ce.locals] (by rw [z]; exact List.mem_cons_self)] at q; cases q⟩
  have hidG : ∀ {G : Heap} {b : Addr} {o : Obj}, G.get? b = some o → b ≠ ce.locals → (PySem.W.hideAll G [ce.locals]).get? b = some o := fun {G b o} q z => PySem.W.hideAll_get _ q (by simpa using z)
  have hidN : ∀ {G : Heap} {b : Addr}, G.get? b = none → (PySem.W.hideAll G [ce.locals]).get? b = none := fun {G b} q => by
    cases z : (PySem.W.hideAll G [ce.locals]).get? b with
    | none => rfl
    | some o => rw [(hidI z).1] at q; cases q
  have held2 : HandSPX.HeldZ (PySem.W.hideAll B [ce.locals]) (X.env :: X.outer) a (Zc cls d) X.env.locals h2 := by
    obtain ⟨x1, x2, x3, oe, vs, T, oT, ts, y1, y2, y3, y4, y5, y6, y7, y8, y9⟩ := id held1
    have aC : a ≠ ce.locals := fun z => by rw [z, bC] at x2; cases x2
    have tC : T ≠ ce.locals := fun z => by rw [z, bC] at y5; cases y5
    refine ⟨fun b o q => (sb.2 b (hidI q).2).trans (x1 b o (hidI q).1), hidN x2, funF_but x3 (fun b hb => sb.2 b fun z => ?_) (fun b hb => hidN (x3.mem hb).1), oe, vs, T, oT, ts, (sb.2 a aC).trans y1, y2, y3, y4, hidN y5, y6, (sb.2 T tC).trans y7, y8, y9⟩
    rw [z] at hb
    rw [← hst] at hb
    exact nC hb
  obtain ⟨_, _, _, oe, vs, T, oT, ts, y1, y2, y3, y4, _⟩ := id held2
  unfold PySem.passOn
  refine wpAny_bind (wpAny_field y1 y3 y4 ?_)
  rw [if_neg (show ¬ ((Value.ref T == Value.none) = true) by simp)]
  have I7 : L2.Inv X pins σ HI sI := I3.call' (ch := fp) J.os J.base J.hok J.bare fun b hb => ⟨(f3 b hb).2.2.2.1, (f3 b hb).2.1, (f3 b hb).2.2.2.2.1, (f3 b hb).2.2.2.2.2⟩
  obtain ⟨f0, f1, f2, f4, f5, f6⟩ := I3.fpOk (H' := HI) (b := ce.locals) (Nat.le_of_eq hcl.symm) J.free
  have J2 := I7.turned (t' := sI.toks) (it := ce.locals) (h' := PySem.W.hideAll sI.heap [ce.locals]) (fun b o hb q => hidG q hb) f0 f1 f4 f5 f6
  have fin : wpAny (model X.prog X.w) X.A (setFlight (.ref a) ce.frame) (fun _ s4 => wpAny (model X.prog X.w) X.A (throw (.ref a) : Sem Value) (fun _ _ => False) X.xe s4) X.xe { s2 with heap := h2 } := by
    rw [hcf, hfr]
    refine HandSPX.setFlight_onZ held2 fun h3 held3 up3 => wpAny_throw (tk _ _ ?_)
    refine ⟨a, PySem.W.hideAll B [ce.locals], _, pins, σ, HI, cls, d, rfl, J2, fun b o q hb => hidG (nb b o (hidI q).1 hb) (hidI q).2, fun b o q hd => ?_, .inr (.inr (by rw [hst]; exact held3)), na, os, ag, w⟩
    obtain ⟨q1, q2⟩ := hidI q
    obtain ⟨sl1, r1⟩ := up b o q1 hd
    obtain ⟨sl2, r2⟩ := up1 b _ r1 hd
    have r3 : h2.get? b = _ := (sb.2 b q2).trans r2
    obtain ⟨sl3, r4⟩ := up3 b _ r3 hd
    exact ⟨sl3, r4⟩
  first
    | exact wpAny_bind (wpAny_pure (wpAny_bind fin))
    | exact wpAny_bind fin
section
variable {X : Cx} {W : WX}
theorem lcx_core {pins : List (Addr × Obj)} {s : Shared} {σ : L2.St} {H : Hp} {Q : VK} {elt tg iter : Expr} {ifs : List Expr} {scope : Scope} {own : List (Str × Nat)} {pos pos' : Pos} {wi : TI} {g : TG} {tt : TT} {te : TE} {use : Option (Value → Sem Unit)} {Qf : Value → Shared → Prop}
    (hst : X.stack = X.env :: X.outer) (hfr : X.env.frame = some X.env.locals) (tk : Takes X W) (hc : X.calm = true) (hN : X.N.Nodup) (I : L2.Inv X pins σ H s) (hi : PI X tg iter wi) (ok : BlkOk X.N X.env.scope scope own)
    (hg : ∀ (s : Shared) (H : Hp) (C : Addr) (cl : List (Str × Addr)) (fp : List Addr), PG (X.blk s H scope (compEnvC scope cl C X.env) fp) tg g)
    (ht : ∀ (s : Shared) (H : Hp) (C : Addr) (cl : List (Str × Addr)) (fp : List Addr), PTs (X.blk s H scope (compEnvC scope cl C X.env) fp) ifs tt)
    (he : ∀ (s : Shared) (H : Hp) (C : Addr) (cl : List (Str × Addr)) (fp : List Addr) (xe : Value → Shared → Prop), (∀ σ1, PassesAt (L2.CX X.prog X.w) ((X.blk s H scope (compEnvC scope cl C X.env) fp).wish xe) σ1 (fun cls d H => W cls d σ H)) → PE ((X.blk s H scope (compEnvC scope cl C X.env) fp).wish xe) elt te)
    (hs : ∀ x, foldedSetIterable iter X.env x = pure x) (h : tLc wi g tt te (own.map (·.2)) σ H Q)
    (hRR : ∀ (D : Addr) (ce : Env) s' m H', L2.Inv X pins σ H' s' → Q (.ref D) H' → s'.heap.Ns ce.locals m → FpOk X pins H' ce.locals → compEnds (model X.prog X.w) X.A X.xe use Qf (.ref D) ce (.ok .next) s') :
    wpAny (model X.prog X.w) X.A (comprehension (.ListComp elt [⟨tg, iter, ifs, 0⟩] scope pos) scope X.env pos' (newList []) false (eval iter X.env) use) Qf X.xe s := by
  have hfree : ∀ y ∈ scope.names, y.2 = .free → ∃ c, X.env.cells.lookup y.1 = some c := fun y hy e => (ok.free y hy e).elim (fun k => I.ok.has _ (.inl k)) (fun k => I.ok.has _ (.inr k))
  refine comprehension_at (use := use) rfl hs (closure_ok hfree) ok.kind (fun y hy e => by rw [ok.uniq y hy, e]) (thn (hi.run pins s σ H _ I h) fun _ s1 hx => thn hx fun _ s2 h2 => ?_)
  obtain ⟨it, fp, tn, J, H2, eit, I2, T, st2, f2, q⟩ := h2
  subst eit
  refine wpAny_newObj_type (newEnv_comp ?_) (by show 0 ≤ sizeLine; decide)
  generalize hD : s2.heap.objs.size = D
  obtain ⟨Wt, ⟨m0, w0⟩, turn⟩ := q D (I2.hok.fresh (Nat.le_of_eq hD))
  generalize hs3 : ({ s2 with heap := s2.heap.push { cls := .type "list", data := .seq ([] : List Value).toArray } } : Shared) = s3
  have h3 : s3.heap = s2.heap.push { cls := .type "list", data := .seq ([] : List Value).toArray } := by rw [← hs3]
  have I3 : L2.Inv X pins σ (upd H2 D (.lst [])) s3 := by
    rw [← hs3]
    exact I2.laid (t' := s2.toks) (fun b o e => Heap.get?_push_of_some _ e) (Nat.le_of_eq hD) ⟨Nat.zero_le _, [], 0, .nil, by rw [← hD]; exact Heap.get?_push_size _ rfl⟩
  have f3 : ∀ b ∈ fp, FpOk X pins (upd H2 D (.lst [])) b ∧ b < s3.heap.objs.size := fun b hb => by
    obtain ⟨o, eo, _⟩ := T.obj _ _ st2 b hb
    have hlt := Heap.lt_size eo
    exact ⟨⟨by rw [upd_ne (by rw [← hD]; exact Nat.ne_of_lt hlt)]; exact (f2 b hb).1, (f2 b hb).2⟩, by rw [h3, Heap.size_push]; exact Nat.lt_succ_of_lt hlt⟩
  have st3 : tn 0 s3.heap := T.keep _ _ _ st2 fun b _ o e => by rw [h3]; exact Heap.get?_push_of_some _ e
  have I4 := block_start I3 ok hN f3
  have pg := hg s3 (upd H2 D (.lst [])) s3.heap.objs.size (cellsFrom (s3.heap.objs.size + 1) scope.names (cloFrom X.env.cells scope.names [])) fp
  have pt := ht s3 (upd H2 D (.lst [])) s3.heap.objs.size (cellsFrom (s3.heap.objs.size + 1) scope.names (cloFrom X.env.cells scope.names [])) fp
  have pe := he s3 (upd H2 D (.lst [])) s3.heap.objs.size (cellsFrom (s3.heap.objs.size + 1) scope.names (cloFrom X.env.cells scope.names [])) fp
  show codeAny _ _ (.compStart _ 0 (.ref it) (.ref D) (compEnvC scope (cellsFrom (s3.heap.objs.size + 1) scope.names (cloFrom X.env.cells scope.names [])) s3.heap.objs.size X.env)) (compEnds (model X.prog X.w) X.A X.xe use Qf (.ref D) (compEnvC scope (cellsFrom (s3.heap.objs.size + 1) scope.names (cloFrom X.env.cells scope.names [])) s3.heap.objs.size X.env)) { s3 with heap := pushCells (s3.heap.push { cls := .type "dict", data := .dict #[] }) scope.names }
  have nfp : ∀ b ∈ fp, (upd H2 D (.lst [])) b = none := fun b hb => (f3 b hb).1.1
  have hcl0 : (compEnvC scope (cellsFrom (s3.heap.objs.size + 1) scope.names (cloFrom X.env.cells scope.names [])) s3.heap.objs.size X.env).locals = s3.heap.objs.size := rfl
  have hcf0 : (compEnvC scope (cellsFrom (s3.heap.objs.size + 1) scope.names (cloFrom X.env.cells scope.names [])) s3.heap.objs.size X.env).frame = X.env.frame := rfl
  generalize compEnvC scope (cellsFrom (s3.heap.objs.size + 1) scope.names (cloFrom X.env.cells scope.names [])) s3.heap.objs.size X.env = ce at I4 pg pt pe hcl0 hcf0 ⊢
  generalize hH3 : upd H2 D (.lst []) = H3 at I3 I4 pg pt pe w0 nfp f3
  generalize hs4 : ({ s3 with heap := pushCells (s3.heap.push { cls := .type "dict", data := .dict #[] }) scope.names } : Shared) = s4 at I4 ⊢
  have st4 : tn 0 s4.heap := T.keep _ _ _ st3 fun b _ o e => by rw [← hs4]; exact pushCells_keeps _ _ _ _ (Heap.get?_push_of_some _ e)
  have pe := pe (notedBy (model X.prog X.w) X.A ce (CompFails (model X.prog X.w) X.A X.xe ce)) (fun σ1 pins1 H1 s1 e s2 I1 c => blk_out hst hfr tk I3 hcl0 hcf0 (fun b hb => (f3 b hb).1) I1 c)
  have raise : ∀ e s', notedBy (model X.prog X.w) X.A ce (CompFails (model X.prog X.w) X.A X.xe ce) e s' → notedBy (model X.prog X.w) X.A ce (fun e s' => compEnds (model X.prog X.w) X.A X.xe use Qf (.ref D) ce (.error e) s') e s' := fun e s' z =>
    wpAny_mono z (fun _ _ y => by cases use <;> exact y) (fun _ _ y => by cases use <;> exact y)
  have stat : ∀ {σ' : L2.St} {H' : Hp} {s' : Shared}, L2.Inv (X.blk s3 H3 scope ce fp) [] σ' H' s' → (∀ b ∈ fp, H' b = none) → ∀ b ∈ fp, FpOk (X.blk s3 H3 scope ce fp) [] H' b := fun {σ' H' s'} I' hn b hb =>
    ⟨hn b hb, (I'.ok.exf b hb).1, I'.ok.exfs b hb, .inl hb, (I'.ok.exf b hb).2, fun p hp => by cases hp⟩
  have loop : codeAny (model X.prog X.w) X.A (.compLoop (.ListComp elt [⟨tg, iter, ifs, 0⟩] scope pos) 0 (.ref it) (.ref D) ce) (compEnds (model X.prog X.w) X.A X.xe use Qf (.ref D) ce) s4 := by
    refine compLoop_any (fun n s' => ∃ i H', L2.Inv (X.blk s3 H3 scope ce fp) [] (wipe σ (own.map (·.2))) H' s' ∧ tn i s'.heap ∧ (∀ b ∈ fp, H' b = none) ∧ Wt i n H') ?_ m0 ⟨0, H3, I4, st4, nfp, w0⟩
    rintro n s5 ⟨i, H5, I5, st5, n5, w5⟩
    rcases turn i n H5 w5 with ⟨stop, qq⟩ | ⟨go, Nx, hNx, step⟩
    · refine thnF (T.done (X.blk s3 H3 scope ce fp) rfl rfl rfl hc i [] s5 _ H5 (fun _ _ => False) I5 (stat I5 n5) st5 stop) fun r s6 ⟨hr, I6⟩ => ?_
      subst hr
      have I7 : L2.Inv X pins σ H5 s6 := I3.call' (ch := fp) I6.os I6.base I6.hok I6.bare fun b hb => let z := (f3 b hb).1; ⟨z.2.2.2.1, z.2.1, z.2.2.2.2.1, z.2.2.2.2.2⟩
      obtain ⟨m, hn, _⟩ := I6.loc
      exact hRR D ce s6 m H5 I7 qq hn (I3.fpOk (Nat.le_of_eq hcl0.symm) I6.free)
    · refine thnF (T.item (X.blk s3 H3 scope ce fp) rfl rfl rfl hc i [] s5 _ H5 (fun _ _ => False) I5 (stat I5 n5) st5 go) fun r s6 ⟨u, hr, h6⟩ => ?_
      subst hr
      refine thnF h6 fun _ s7 ⟨x, H7, I7, r7, y7, st7, n7⟩ => ?_
      refine thnF (pg.run _ s7 _ H7 x u _ (I7.pinned (stat I7 n7) (T.obj _ _ st7)) r7 (step x H7 y7)) fun _ s8 ⟨σ8, H8, I8, hw8, q8⟩ => ?_
      refine thnF (pt.run _ s8 σ8 H8 _ I8 q8) fun b s9 ⟨H9, I9, q9⟩ => ?_
      have fin : ∀ {s' : Shared} {H' : Hp}, L2.Inv (X.blk s3 H3 scope ce fp) ([] ++ pinsAt fp s7.heap) σ8 H' s' → Nx H' → ∃ m, m < n ∧ ∃ i H', L2.Inv (X.blk s3 H3 scope ce fp) [] (wipe σ (own.map (·.2))) H' s' ∧ tn i s'.heap ∧ (∀ b ∈ fp, H' b = none) ∧ Wt i m H' := fun {s' H'} I' nx => by
        obtain ⟨m', hm, w'⟩ := hNx H' nx
        have pinned : ∀ b ∈ fp, ∀ o, s7.heap.get? b = some o → s'.heap.get? b = some o ∧ H' b = none := fun b hb o e =>
          let z := I'.pin (b, o) (List.mem_append_right _ (List.mem_append_right _ (mem_pinsAt hb e)))
          ⟨z.1, z.2.1⟩
        refine ⟨m', hm, i + 1, H', (I'.unpinned (pins := [])).weak (by rw [← hw8, wipe_length]) (fun j v e => by rw [← hw8] at e; exact (wipe_some e).1), T.keep _ _ _ st7 fun b hb o e => (pinned b hb o e).1, fun b hb => ?_, w'⟩
        obtain ⟨o, e, _⟩ := T.obj _ _ st7 b hb
        exact (pinned b hb o e).2
      cases b with
      | false =>
        rw [if_neg Bool.false_ne_true] at q9
        rw [if_neg Bool.false_ne_true]
        exact fin I9 q9
      | true =>
        rw [if_pos rfl] at q9
        rw [if_pos rfl]
        refine wpAny_mono (pe.run _ s9 σ8 H9 _ (I9.wish _) q9) (fun z s10 ⟨yv, H10, I10, r10, acc, hD10, hz10, nx⟩ => ?_) raise
        exact app_ok (X := X.blk s3 H3 scope ce fp) I10.unwish hD10 hz10 r10 fun s11 I11 => fin I11 nx
  exact codeAny_compStart_list loop (T.self X.A 0 _ _ _ st4 loop)
/-- the reading: the element's wish is the def's, at the slots of the start -/
def tLcX (W : WX) (wi : TI) (g : TG) (tt : TT) (te : WX → TE) (vs : List Nat) : TE := fun σ H Q => tLc wi g tt (te fun cls d _ H' => W cls d σ H') vs σ H Q
theorem ps_setLcX {i : Nat} {y : Str} {py : Pos} {elt tg iter : Expr} {ifs : List Expr} {scope : Scope} {own : List (Str × Nat)} {pos spos : Pos} {wi : TI} {g : TG} {tt : TT} {te : WX → TE} (hst : X.stack = X.env :: X.outer) (hfr : X.env.frame = some X.env.locals) (tk : Takes X W) (hc : X.calm = true) (hN : X.N.Nodup) (hy : X.N[i]? = some y) (hyl : X.env.scope.names.lookup y = some .local)
    (hsw : swapsWith (.ListComp elt [⟨tg, iter, ifs, 0⟩] scope pos) (some (.Name y py)) spos.line X.env = pure true) (hi : PI X tg iter wi) (ok : BlkOk X.N X.env.scope scope own)
    (hg : ∀ (s : Shared) (H : Hp) (C : Addr) (cl : List (Str × Addr)) (fp : List Addr), PG (X.blk s H scope (compEnvC scope cl C X.env) fp) tg g)
    (ht : ∀ (s : Shared) (H : Hp) (C : Addr) (cl : List (Str × Addr)) (fp : List Addr), PTs (X.blk s H scope (compEnvC scope cl C X.env) fp) ifs tt)
    (he : ∀ (s : Shared) (H : Hp) (C : Addr) (cl : List (Str × Addr)) (fp : List Addr) (xe : Value → Shared → Prop) (W1 : WX), (∀ σ1, PassesAt (L2.CX X.prog X.w) ((X.blk s H scope (compEnvC scope cl C X.env) fp).wish xe) σ1 (WE W1 σ1)) → PE ((X.blk s H scope (compEnvC scope cl C X.env) fp).wish xe) elt (te W1))
    (hs : ∀ x, foldedSetIterable iter X.env x = pure x := by intro _; rfl) :
    PS X (.Assign [.Name y py] (.ListComp elt [⟨tg, iter, ifs, 0⟩] scope pos) spos) (tAsg (tLcX W wi g tt te (own.map (·.2))) (gName i)) := by
  refine ⟨fun pins s σ H D I h => ?_⟩
  rw [exec_Assign_Name_used _ _ _ _ hsw]
  refine wpAny_bind (wpAny_standAt (wpAny_bind ?_))
  show wpAny _ X.A (do let _ ← comprehension (.ListComp elt [⟨tg, iter, ifs, 0⟩] scope pos) scope X.env (firstIterPos [⟨tg, iter, ifs, 0⟩] pos) (newList []) false (eval iter X.env) (some (assign (.Name y py) X.env))) _ _ s
  have h : tLc wi g tt (te fun cls d _ H' => W cls d σ H') (own.map (·.2)) σ H (fun x H1 => gName i x σ H1 D.nx) := h
  refine wpAny_bind (thn (lcx_core (Qf := fun _ s' => SP X pins D .next s') hst hfr tk hc hN I hi ok hg ht (fun s H C cl fp xe px => he s H C cl fp xe _ px) hs h fun L ce s' m H' I' q hn f => ?_) fun _ s' hq => wpAny_pure (wpAny_pure hq))
  show wpAny _ _ (assign (.Name y py) X.env (.ref L)) _ _ _
  obtain ⟨f0, f1, f2, f3, f4, f5⟩ := f
  refine wpAny_assign_Name (store_ok2 (v := V.ref L) I' hN hy (.inl hyl) rfl (fun s2 I2 ⟨a, sb, ha⟩ => ?_) (.inr hyl))
  have haC : ce.locals ≠ a := ha.elim (fun z => by rw [z]; exact f1) (fun z e => f4 y a z e.symm)
  exact ⟨m, hn.sameBut sb haC, fun h3 sb3 => ⟨_, H', I2.turned (t' := s2.toks) (fun b o hb e => (sb3.2 b hb).trans e) f0 f1 f3 f4 f5, q⟩⟩
theorem pe_callFX {G : Ctx} {k : Nat} {x : Str} {ps : List Str} {S : SpD} {p pos : Pos} {e : Expr} {es : List Expr} {t : TA} (h : FnF X.prog G X.mg X.base k x ps S) (hK : X.K = G.K) (hw : X.w = G.w) (hr : Room k X.A) (px : ∀ σ1, PassesAt (L2.CX X.prog X.w) X σ1 (WE W σ1)) (hg : Gl X x)
    (ha : PA X (e :: es) t) (hdb : (x == ("__debug__" : Str)) = false := by decide) (he : starEach (e :: es) X.env = (false, eval e X.env) :: starEach es X.env := by rfl) (hpl : (backTo pos (starEach es X.env)).any (·.1) = false := by rfl) :
    PE X (.Call (.Name x p) (e :: es) [] pos) (tCallS (spL G S) (WE W) t) := by
  obtain ⟨f, fd, F, m, kp, b⟩ := h
  rw [← hK, ← hw] at F
  rw [← hK] at kp b
  exact pe_callS F hr hg m kp b px ha hdb he hpl
end
/-! ### by data -/
theorem ev_lcX {G : Ctx} {W : WX} {ds : DS} {m : Mu} {R : DV → Mu → Prop} {XR : Tag → Mu → Prop} {wi : TI} {j : Nat} {te : WX → TE} {vs : List Nat} (t0 : Tag) (hj : j ∈ vs) (h : EvI G W wi ds m (fun xs gd m1 => (∀ M, Ext m1 M → gd M) ∧ ∃ (α : Type) (ys : List α) (enc : α → DV) (F : α → Option D), xs = ys.map enc ∧ ys.length ≤ 50000 ∧
      (∀ (W1 : WX) (y : α) (M : Mu), y ∈ ys → Ext m1 M → EvD G W1 (te W1) ((wipeD ds vs).set j (some (enc y))) M (fun x M4 => M4 = M ∧ ∃ z, x = .d z ∧ F y = some z) (fun t M4 => M4 = M ∧ t = t0 ∧ F y = none)) ∧
      ((∀ y ∈ ys, F y ≠ none) → R (.d (.lst (ys.filterMap F))) m1) ∧ ((∃ y ∈ ys, F y = none) → XR t0 m1)) XR) : EvD G W (tLcX W wi (gName j) tYes te vs) ds m R XR := fun σ H Q s r p x =>
  h σ H _ s r (fun J H1 m1 xs gd good t1 s1 it g1 ⟨hgd, α, ys, enc, F, exs, hz, hf, hR, hX⟩ Dn hD => by
    subst exs
    have mD : m1 Dn = none := s1.free hD
    have fD : fz H1 m1 Dn = none := by rw [fz_none mD]; exact hD
    obtain ⟨s2, t2⟩ := s1.put (p := Dn) (o := .lst []) (x := .lst []) fD ⟨[], upd_same, .nil⟩
    refine ⟨fun i k H' => k = ys.length - i ∧ i ≤ ys.length ∧ (∀ y ∈ ys.take i, F y ≠ none) ∧ S0 G H' (mset m1 Dn (.lst ((ys.take i).filterMap F))) ∧ Tr H m H' (mset m1 Dn (.lst ((ys.take i).filterMap F))) ∧ good H' (mset m1 Dn (.lst ((ys.take i).filterMap F))),
      ⟨ys.length, by simp, Nat.zero_le _, fun y hy => by simp at hy, s2, t1.trans t2, it.keep _ _ _ _ t2 g1 (hgd _ (Ext.put mD))⟩, ?_⟩
    rintro i k H' ⟨rfl, hi, hok, s', t', g'⟩
    by_cases hlt : i < ys.length
    · have hlt' : i < (ys.map enc).length := by rw [List.length_map]; exact hlt
      refine .inr ⟨it.go i H' _ s' g' hlt', fun H2 => (∀ y ∈ ys.take (i + 1), F y ≠ none) ∧ S0 G H2 (mset m1 Dn (.lst ((ys.take (i + 1)).filterMap F))) ∧ Tr H m H2 (mset m1 Dn (.lst ((ys.take (i + 1)).filterMap F))) ∧ good H2 (mset m1 Dn (.lst ((ys.take (i + 1)).filterMap F))), fun H2 q => ⟨ys.length - (i + 1), by omega, rfl, hlt, q⟩, fun xv H2 y => ?_⟩
      obtain ⟨rfl, d, ed, rd⟩ := it.yld i H' _ xv H2 s' g' y hlt'
      have ey : ys[i]? = some ys[i] := List.getElem?_eq_getElem hlt
      rw [List.getElem?_map, ey] at ed
      cases ed
      have hmem : ys[i] ∈ ys := List.getElem_mem hlt
      have ev2 := hf (fun cls d _ H' => W cls d σ H') ys[i] _ hmem (Ext.put (o := .lst ((ys.take i).filterMap F)) mD)
      have etk : ys.take (i + 1) = ys.take i ++ [ys[i]] := by rw [List.take_add_one, ey]; rfl
      have fin : ∀ (σ3 : L2.St) (ds3 : DS) (_ : REnv G (fz H2 (mset m1 Dn (.lst ((ys.take i).filterMap F)))) σ3 ds3) (_ : EvD G (fun cls d _ H' => W cls d σ H') (te fun cls d _ H' => W cls d σ H') ds3 (mset m1 Dn (.lst ((ys.take i).filterMap F))) (fun x M4 => M4 = mset m1 Dn (.lst ((ys.take i).filterMap F)) ∧ ∃ z, x = .d z ∧ F ys[i] = some z) (fun t M4 => M4 = mset m1 Dn (.lst ((ys.take i).filterMap F)) ∧ t = t0 ∧ F ys[i] = none)),
          tYes σ3 H2 fun b H3 => if b = true then te (fun cls d _ H' => W cls d σ H') σ3 H3 fun y H4 => ∃ acc, H4 Dn = some (.lst acc) ∧ acc.length < sizeLine ∧ ((∀ y ∈ ys.take (i + 1), F y ≠ none) ∧ S0 G (upd H4 Dn (.lst (acc ++ [y]))) (mset m1 Dn (.lst ((ys.take (i + 1)).filterMap F))) ∧ Tr H m (upd H4 Dn (.lst (acc ++ [y]))) (mset m1 Dn (.lst ((ys.take (i + 1)).filterMap F))) ∧ good (upd H4 Dn (.lst (acc ++ [y]))) (mset m1 Dn (.lst ((ys.take (i + 1)).filterMap F)))) else
            ((∀ y ∈ ys.take (i + 1), F y ≠ none) ∧ S0 G H3 (mset m1 Dn (.lst ((ys.take (i + 1)).filterMap F))) ∧ Tr H m H3 (mset m1 Dn (.lst ((ys.take (i + 1)).filterMap F))) ∧ good H3 (mset m1 Dn (.lst ((ys.take (i + 1)).filterMap F)))) := fun σ3 ds3 r3 ev => by
        unfold tYes
        dsimp only
        rw [if_pos rfl]
        refine ev σ3 H2 _ s' r3 (fun yv H4 dy M4 t4 s4 r4 ⟨e4, z, ez, hFz⟩ => ?_) (fun t ht H4 M4 t4 s4 ⟨e4, et, hFn⟩ => ?_)
        · subst e4 ez
          obtain ⟨acc, a1, a2⟩ := s4 Dn _ mset_same
          have e5 : (ys.take (i + 1)).filterMap F = (ys.take i).filterMap F ++ [z] := by rw [etk, List.filterMap_append, List.filterMap_cons, hFz]; rfl
          obtain ⟨s5, t5⟩ := s4.put (p := Dn) (o := .lst (acc ++ [yv])) (x := .lst ((ys.take (i + 1)).filterMap F)) (fz_some mset_same) ⟨_, upd_same, by rw [e5]; exact a2.app (RpL.one r4)⟩
          rw [mset_mset] at s5 t5
          have hl1 := List.length_filterMap_le F (ys.take i)
          have hl2 := List.length_take_le i ys
          refine ⟨acc, a1, sz_lt (by rw [a2.length]; omega), fun y hy => ?_, s5, (t'.trans t4).trans t5, it.keep _ _ _ _ (t4.trans t5) g' (hgd _ (Ext.put mD))⟩
          rw [etk] at hy
          rcases List.mem_append.mp hy with q | q
          · exact hok y q
          · rw [List.mem_singleton.mp q, hFz]; exact fun w => nomatch w
        · subst e4 et
          obtain ⟨s5, t5⟩ := s4.del (p := Dn)
          rw [mdel_mset mD] at s5 t5
          exact x t ht H4 m1 ((t'.trans t4).trans t5) s5 (hX ⟨_, hmem, hFn⟩)
      have rw0 : REnv G (fz H2 (mset m1 Dn (.lst ((ys.take i).filterMap F)))) (L2.wipe σ vs) (wipeD ds vs) := (r.mono t').wipe vs
      exact ⟨wipe_set hj _, fin _ _ (rw0.set _ rd) ev2⟩
    · have e : i = ys.length := by omega
      subst e
      refine .inl ⟨it.stop _ H' _ s' g' (by rw [List.length_map]; exact Nat.le_refl _), ?_⟩
      rw [List.take_length] at s' t' hok
      obtain ⟨acc, a1, a2⟩ := s' Dn _ mset_same
      obtain ⟨s3, t3⟩ := s'.del (p := Dn)
      rw [mdel_mset mD] at s3 t3
      exact p _ H' _ m1 (t'.trans t3) s3 (RV.dat (Rp.lst (by rw [fz_none mD]; exact a1) (RpL.mono t3 _ _ a2))) (hR hok)) x
end Lb

/-! LbR: t[::-1] of a tuple. -/
namespace Lb
open PySem L2
section
variable {prog : Program} {w : World} {A : Around} {E : Value → Shared → Prop} {s : Shared}
open PySem.Spec PyProof.Rows HT in
theorem sliceApplied_rev {sl : Addr} {vl vu vs : Value} {n : Nat} {Q : Int × Int × Nat → Shared → Prop} (hs : s.heap.IsSliceOf sl vl vu vs) (pl : IsPart vl none) (pu : IsPart vu none) (ps : IsPart vs (some (-1)))
    (h : Q ((n : Int) - 1, -1, n) s) : wpAny (model prog w) A (Builtin.Slice.sliceApplied (.ref sl) (pure (n : Int))) Q E s := by
  obtain ⟨os, hos, hcs, hds⟩ := id hs
  unfold Builtin.Slice.sliceApplied Builtin.Slice.sliceFields
  refine wpAny_bind (wpAny_bind (wpAny_field hos hds (x := vl) rfl (wpAny_bind (wpAny_field hos hds (x := vu) rfl (wpAny_bind (wpAny_field hos hds (x := vs) rfl (wpAny_pure ?_)))))))
  refine wpAny_bind (slicePart_ ps ?_)
  show wpAny _ _ (if ((-1 : Int) == 0) = true then _ else _) _ _ s
  rw [if_neg (by decide)]
  refine wpAny_bind (slicePart_ pl (wpAny_bind (slicePart_ pu (wpAny_bind (wpAny_pure ?_)))))
  show wpAny _ _ (match Builtin.Slice.sliceAdjust none none (-1) (n : Int) with | (lo, hi) => pure (lo, (-1 : Int), Builtin.Slice.slicePlaces lo hi (-1))) _ _ s
  have e : Builtin.Slice.sliceAdjust none none (-1) (n : Int) = ((n : Int) - 1, -1) := rfl
  rw [e]
  show wpAny _ _ (pure ((n : Int) - 1, (-1 : Int), Builtin.Slice.slicePlaces ((n : Int) - 1) (-1) (-1))) _ _ s
  have e2 : Builtin.Slice.slicePlaces ((n : Int) - 1) (-1) (-1) = n := by
    unfold Builtin.Slice.slicePlaces
    have h1 : ¬ ((-1 : Int) > 0) := by omega
    simp only [h1, if_false]
    by_cases hn : (n : Int) - 1 > -1
    · rw [if_pos hn, show (-(-1) : Int) = 1 by omega, Int.ediv_one]; omega
    · rw [if_neg hn]; omega
  rw [e2]
  exact wpAny_pure h
theorem pick_rev (xs : Array Value) : ((List.range xs.size).filterMap fun (k : Nat) => xs[((xs.size : Int) - 1 + (k : Int) * (-1)).toNat]?).toArray = xs.toList.reverse.toArray := by
  congr 1
  have e : ∀ (l : List Nat), (∀ k ∈ l, k < xs.size) → l.filterMap (fun (k : Nat) => xs[((xs.size : Int) - 1 + (k : Int) * (-1)).toNat]?) = l.map (fun k => xs.toList.reverse.getD k .none) := by
    intro l
    induction l with
    | nil => intro _; rfl
    | cons k l ih =>
      intro hl
      have hk := hl k List.mem_cons_self
      have h2 : xs.size - 1 - k < xs.size := by omega
      have e1 : xs[((xs.size : Int) - 1 + (k : Int) * (-1)).toNat]? = some (xs.toList.reverse.getD k .none) := by
        rw [show ((xs.size : Int) - 1 + (k : Int) * (-1)).toNat = xs.size - 1 - k by omega]
        rw [Array.getElem?_eq_getElem h2, List.getD_eq_getElem?_getD, List.getElem?_reverse (by rw [Array.length_toList]; exact hk), Array.length_toList, Array.getElem?_toList, Array.getElem?_eq_getElem h2]
        rfl
      rw [List.filterMap_cons, e1, List.map_cons, ih fun x hx => hl x (List.mem_cons_of_mem _ hx)]
  rw [e _ fun k hk => List.mem_range.mp hk]
  apply List.ext_getElem
  · simp
  · intro i h1 h2
    rw [List.getElem_map, List.getElem_range, List.getD_eq_getElem?_getD, List.getElem?_eq_getElem h2]
    rfl
open PySem.Spec PyProof.Rows HT in
theorem getItem_tuple_rev {t sl : Addr} {items : Array Value} {vl vu vs : Value} {Q : Value → Shared → Prop} (ht : IsTup s.heap t items) (hs : s.heap.IsSliceOf sl vl vu vs) (pl : IsPart vl none) (pu : IsPart vu none) (ps : IsPart vs (some (-1)))
    (h : Q (.ref s.heap.objs.size) { s with heap := s.heap.push { cls := .type "tuple", data := .seq items.toList.reverse.toArray } })
    (hsz : items.size ≤ sizeLine) : wpAny (model prog w) A (getItem (.ref t) (.ref sl)) Q E s := by
  have htake : sizeOk (.seq items.toList.reverse.toArray) := by
    show items.toList.reverse.toArray.size ≤ sizeLine
    rw [List.size_toArray, List.length_reverse, Array.length_toList]
    exact hsz
  obtain ⟨os, hos, hcs, hds⟩ := id hs
  have hTs : s.TypeIs (.ref sl) "slice" := ⟨os, hos, hcs⟩
  unfold getItem
  try with_reducible refine wpAny_holding ?_
  first | refine wpAny_bind (wpAny_pure ?_) | skip
  refine wpAny_bind (wpAny_sequenceKey ht.typeIs (by decide) ?_)
  refine wpAny_bind (wpAny_callSpecial?_slot (name := Str.ofString "__getitem__") ht.typeIs PyProof.Rows.slot_tuple_getitem
    (wpAny_call_entry PyProof.Rows.slot_tuple_getitem ht.typeIs entry_tuple_getitem ?_ (args_tuple_getitem _ _)))
  show wpAny _ _ (Builtin.Tuple.tupleItemsOf (.ref t) >>= _) _ _ s
  refine wpAny_bind (tupleItemsOf_ ht ?_)
  refine wpAny_bind (wpAny_typeOf hTs ?_)
  rw [if_pos (by decide)]
  refine wpAny_bind (sliceApplied_rev hs pl pu ps ?_)
  have hno : ¬ ((((items.size : Int) - 1) == 0 && (-1 : Int) == 1 && items.size == items.size) = true) := by
    intro q
    rw [Bool.and_eq_true, Bool.and_eq_true] at q
    exact absurd q.1.2 (by decide)
  show wpAny _ _ (if ((((items.size : Int) - 1) == 0 && (-1 : Int) == 1 && items.size == items.size)) = true then _ else _) _ _ s
  rw [if_neg hno, pick_rev]
  first
    | exact wpAny_bind (m := Builtin.Tuple.tupleExact _) (wpAny_newObj_type (wpAny_pure ⟨_, rfl, wpAny_pure h⟩) htake)
    | exact wpAny_bind (m := Builtin.Tuple.tupleExact _) (wpAny_newObj_type (wpAny_bind (wpAny_pure (wpAny_pure ⟨_, rfl, wpAny_pure h⟩))) htake)
    | exact wpAny_bind (wpAny_bind (m := Builtin.Tuple.tupleExact _) (wpAny_newObj_type (wpAny_pure (wpAny_pure ⟨_, rfl, wpAny_pure h⟩)) htake))
    | exact wpAny_bind (wpAny_bind (m := Builtin.Tuple.tupleExact _) (wpAny_newObj_type (wpAny_pure ⟨_, rfl, wpAny_pure h⟩) htake))
end
section
open PySem.Spec PyProof.Rows
variable {X : Cx}
def tRevT (G : Ctx) (te : TE) : TE := fun σ H Q => te σ H fun x H1 => ∃ a xs, x = .ref a ∧ SqT G.K H1 a xs ∧ ∀ p, H1 p = none → Q (.ref p) (upd H1 p (.tup xs.reverse))
theorem pe_revT {G : Ctx} {e : Expr} {te : TE} {k : Nat} {p1 p2 p3 pos : Pos} (hK : X.K = G.K) (he : PE X e te) : PE X (.Subscript e (.Slice none none (some (.UnaryOp .USub (.Constant (.int 1) k p1) p2)) p3) pos) (tRevT G te) := by
  refine ⟨fun pins s σ H Q I h => ?_⟩
  refine Subscript_ (thn (he.run pins s σ H _ I h) fun v s1 ⟨x, H1, I1, r1, q1⟩ => ?_)
  obtain ⟨a, xs, ex, hx, q⟩ := q1
  subst ex
  cases r1
  rw [← hK] at hx
  have hst : PO X (some (.UnaryOp .USub (.Constant (.int 1) k p1) p2)) (tPart (tUn (rU fun i => .int (-i)) (tC (.int 1)))) := po_some (pe_un un_neg pe_int)
  refine wpAny_Slice (thn (po_none.run pins s1 σ H1 (fun o H2 => o = none ∧ H2 = H1) I1 ⟨rfl, rfl⟩) fun vl s2 ⟨l, H2, I2, pl, el, e2⟩ => ?_)
  subst el e2
  refine thn (po_none.run pins s2 σ H2 (fun o H3 => o = none ∧ H3 = H2) I2 ⟨rfl, rfl⟩) fun vu s3 ⟨u, H3, I3, pu, eu, e3⟩ => ?_
  subst eu e3
  refine thn (hst.run pins s3 σ H3 (fun o H4 => o = some (-1) ∧ H4 = H3) I3 ⟨1, rfl, -1, rfl, rfl, rfl⟩) fun vs s4 ⟨o, H4, I4, ps, eo, e4⟩ => ?_
  subst eo e4
  have I5 : Inv X pins σ H4 { s4 with heap := s4.heap.push { cls := .type "slice", data := .fields #[vl, vu, vs] } } := I4.kept (t' := s4.toks) fun b ob q => Heap.get?_push_of_some _ q
  obtain ⟨its, r, ht, hz⟩ := I5.tuple hx
  have hlen := r.length
  show wpAny (model X.prog X.w) X.A (subscriptTail e (.Slice none none (some (.UnaryOp .USub (.Constant (.int 1) k p1) p2)) p3) (.ref a) (.ref s4.heap.objs.size)) (EP X pins σ Q) X.xe { s4 with heap := s4.heap.push { cls := .type "slice", data := .fields #[vl, vu, vs] } }
  refine tail_any (ops := [.ref a, .ref s4.heap.objs.size]) ht.typeIs PyProof.Rows.slot_tuple_getitem.lookup ?_ (by with_unfolding_all rfl)
  refine getItem_tuple_rev ht (Heap.IsSliceOf.new _ vl vu vs) pl pu ps ?_ (by rw [List.size_toArray]; omega)
  refine ⟨.ref _, _, I5.laid (t' := s4.toks) (o := .tup xs.reverse) (fun b ob q => Heap.get?_push_of_some _ q) (Nat.le_refl _) ?_, rfl, q _ (I5.hok.fresh (Nat.le_refl _))⟩
  exact ⟨by rw [List.length_reverse]; exact hz, _, r.reverse, IsTup.new _ _⟩
end
theorem ev_revT {G : Ctx} {W : WX} {ds : DS} {m : Mu} {R : DV → Mu → Prop} {XR : Tag → Mu → Prop} {te : TE} (h : EvD G W te ds m (fun d m1 => ∃ xs, d = .d (.tup xs) ∧ R (.d (.tup xs.reverse)) m1) XR) : EvD G W (tRevT G te) ds m R XR := fun σ H Q s r p x =>
  h σ H _ s r (fun v H1 d m1 t1 s1 r1 ⟨xs, e, q⟩ => by
    subst e
    cases r1 with
    | tup h1 h2 => exact ⟨_, _, rfl, SqT.of (fz_ex _ _ h1), fun b hb => (p.tr t1).layT s1 hb h2.rev q⟩) x
/-- a, b = x, y -/
theorem st_par {G : Ctx} {W : WX} {ds : DS} {m : Mu} {N : EndsD} {XR : Tag → DS → Mu → Prop} {i j : Nat} {ta : TA} (h : EvA G W ta ds m (fun es m1 => ∃ x y, es = [x, y] ∧ N.nx ((ds.set i (some x)).set j (some y)) m1) (fun t m1 => XR t ds m1)) : StD G W (tPar i j ta) ds m N XR := fun σ H E s r p =>
  h σ H _ s r (fun vs H1 es m1 t1 s1 r1 ⟨x, y, e, q⟩ => by
    subst e
    cases r1 with
    | cons a b =>
      cases b with
      | cons c d =>
        cases d
        exact ⟨_, _, rfl, p.nx _ H1 _ m1 t1 s1 (((r.mono t1).set i a).set j c) q⟩) (p.x r)
end Lb

/-! SmA: what the small helpers of a law do. -/
namespace Lb
open PySem L2
local macro_rules | `(tactic| walk_at "v") => `(tactic| ((with_reducible refine ev_var (d := ?dv) ?hv ?_); (case hv => exact rfl)))
local macro_rules | `(tactic| walk_at "f") => `(tactic| first
  | with_reducible refine f_in ?_
  | with_reducible refine f_notin ?_
  | with_reducible refine f_add_i ?_
  | with_reducible refine f_add_s ?_
  | with_reducible refine f_add_l ?_
  | with_reducible refine f_add_t ?_
  | with_reducible refine f_sub ?_
  | with_reducible refine f_mul_i ?_
  | with_reducible refine f_mul_l ?_
  | with_reducible refine f_mul_t ?_
  | with_reducible refine f_div ?_
  | with_reducible refine f_mod ?_
  | with_reducible refine f_pow ?_
  | with_reducible refine f_lt ?_
  | with_reducible refine f_le ?_
  | with_reducible refine f_gt ?_
  | with_reducible refine f_ge ?_
  | with_reducible refine f_eq_i ?_
  | with_reducible refine f_ne_i ?_
  | with_reducible refine f_eq_b ?_
  | with_reducible refine f_ne_b ?_
  | with_reducible refine f_is_n ?_
  | with_reducible refine f_isnot_n ?_
  | with_reducible refine f_is_i ?_
  | with_reducible refine f_isnot_i ?_
  | with_reducible refine f_is_b ?_
  | with_reducible refine f_isnot_b ?_
  | with_reducible refine f_is_s ?_
  | with_reducible refine f_isnot_s ?_
  | with_reducible refine f_is_l ?_
  | with_reducible refine f_isnot_l ?_
  | with_reducible refine f_is_t ?_
  | with_reducible refine f_isnot_t ?_
  | with_reducible refine f_is_r ?_
  | with_reducible refine f_isnot_r ?_
  | with_reducible refine f_is ?_
  | with_reducible refine f_isnot ?_
  | with_reducible refine f_neg ?_
  | with_reducible refine f_len_ml ?_
  | with_reducible refine f_len_mt ?_
  | with_reducible refine f_sum_l ?_
  | with_reducible refine f_sum_t ?_
  | with_reducible refine f_all ?_
  | with_reducible refine f_any ?_
  | with_reducible refine f_len_l ?_
  | with_reducible refine f_len_t ?_
  | with_reducible refine f_len_c ?_
  | with_reducible refine f_abs ?_
  | with_reducible refine f_min2 ?_
  | with_reducible refine f_max2 ?_
  | with_reducible refine f_list_l ?_
  | with_reducible refine f_list_t ?_
  | with_reducible refine f_tup_l ?_
  | with_reducible refine f_tup_t ?_
  | with_reducible refine f_int_i ?_
  | with_reducible refine f_int_b ?_
  | with_reducible refine f_sl_l ?_
  | with_reducible refine f_sl_t ?_
  | with_reducible refine f_tr_n ?_
  | with_reducible refine f_tr_b ?_
  | with_reducible refine f_tr_i ?_
  | with_reducible refine f_tr_l ?_
  | with_reducible refine f_tr_t ?_
  | with_reducible refine f_tr_c ?_)
local macro_rules | `(tactic| walk_at "w") => `(tactic| first
  | walk_at "v"
  | with_reducible refine ev_rev ?_
  | with_reducible refine ev_sset ?_
  | with_reducible refine ev_lcl ?_
  | with_reducible refine ev_lct ?_
  | with_reducible refine ev_lcs ?_
  | with_reducible refine ev_lc1 ?_
  | with_reducible refine ev_lc2 ?_
  | with_reducible refine st_forl ?_
  | with_reducible refine st_fort ?_
  | with_reducible refine st_fors ?_
  | with_reducible refine st_for1 ?_
  | with_reducible refine st_for2 ?_
  | with_reducible refine ex_bl ?_
  | with_reducible refine ex_in ?_
  | with_reducible refine ex_ls ?_
  | with_reducible refine ex_tu ?_
  | with_reducible refine ex_st ?_
  | with_reducible refine ex_d0 ?_
  | with_reducible refine ex_d1 ?_
  | with_reducible refine ex_d2 ?_
  | with_reducible refine ex_d3 ?_
  | with_reducible refine ex_d4 ?_
  | with_reducible refine ex_d5 ?_
  | with_reducible refine ex_d6 ?_
  | with_reducible refine ex_d7 ?_
  | with_reducible refine ex_d8 ?_
  | with_reducible refine m_and ?_
  | with_reducible refine i_t ?_
  | with_reducible refine i_f ?_
  | with_reducible refine i_nt ?_
  | with_reducible refine i_nf ?_
  | with_reducible refine ev_tup ?_
  | with_reducible refine ev_lst ?_
  | with_reducible refine ev_int ?_
  | with_reducible refine ea_cons ?_
  | with_reducible refine ea_nil ?_
  | with_reducible refine ev_op ?_
  | with_reducible refine st_seq ?_
  | with_reducible refine st_asg ?_
  | with_reducible refine ev_call ?_
  | with_reducible refine ev_cb ?_
  | with_reducible refine st_if ?_
  | with_reducible refine et_test ?_
  | with_reducible refine et_not ?_
  | with_reducible refine et_or ?_
  | with_reducible refine et_and ?_
  | with_reducible refine et_tru ?_
  | with_reducible refine et_yes ?_
  | with_reducible refine et_B ?_
  | with_reducible refine ev_chain ?_
  | with_reducible refine ev_chain3 ?_
  | with_reducible refine ev_un ?_
  | with_reducible refine ev_if ?_
  | with_reducible refine ev_bl ?_
  | with_reducible refine ev_non ?_
  | with_reducible refine ev_str ?_
  | with_reducible refine ev_andV ?_
  | with_reducible refine ev_orV ?_
  | with_reducible refine ev_notV ?_
  | with_reducible refine ev_isB ?_
  | with_reducible refine ev_isE ?_
  | with_reducible refine ev_sl2 ?_
  | with_reducible refine ev_slA ?_
  | with_reducible refine ev_slB ?_
  | with_reducible refine ev_bmL ?_
  | with_reducible refine ev_bmL0 ?_
  | with_reducible refine st_ret ?_
  | with_reducible refine st_drop ?_
  | with_reducible refine st_next ?_
  | with_reducible refine st_setL ?_
  | with_reducible refine st_asgG ?_
  | with_reducible refine st_raise ?_
  | with_reducible refine gt_name ?_
  | with_reducible refine gt_tup2 ?_
  | with_reducible refine gt_tup3 ?_
  | walk_at "f")
local macro_rules | `(tactic| walk_at "r") => `(tactic| repeat walk_at "w")

/-! ### the script -/
def cellN (ns : List Int) (k : Int) : Int := (ns[(k % (ns.length : Int)).toNat]?).getD 0
def mixN (ns : List Int) (k : Int) : Int :=
  let a := (cellN ns k + 104729 * (k + 1)) % 4294967291
  let b := a ^ 5 % 4294967279
  (b / 64 * 69621 + b) % 4294967231
theorem mixN_nn (ns : List Int) (k : Int) : 0 ≤ mixN ns k := Int.emod_nonneg _ (by decide)
theorem mixN_lt (ns : List Int) (k : Int) : mixN ns k < 4294967231 := Int.emod_lt_of_pos _ (by decide)
theorem mix_lt (ns : List Int) (k : Int) {z : Nat} (hz : 0 < z) : ∃ j : Nat, j < z ∧ mixN ns k % (z : Int) = (j : Int) := by
  have a0 := Int.emod_nonneg (mixN ns k) (b := (z : Int)) (by omega)
  have a1 := Int.emod_lt_of_pos (mixN ns k) (b := (z : Int)) (by omega)
  exact ⟨(mixN ns k % (z : Int)).toNat, by omega, by omega⟩
def S_law_cell : SpD := fun es m R _ => ∃ ns k, es = [.scr ns, .d (.int k)] ∧ 0 ≤ k ∧ R (.d (.int (cellN ns k))) m
def rd_law_cell (G : Ctx) (W : WX) : TS :=
  tSeq (tIfS (tTru G.K (tVar 0)) (tRet (tOp (rD2 G idxF) (tVar 0) (tOp (rD2 G modF) (tVar 1) (tCB (rDn G lenF) (tCons (tVar 0) (tNil)))))) (tNext))
  (tRet (tC (.int 0)))

theorem len_law_cell : ∀ es m R XR, S_law_cell es m R XR → es.length = 2 := by
  rintro es m R XR ⟨ns, k, rfl, _⟩
  rfl
theorem atI_mod {ns : List Int} {k : Int} (hn : ns ≠ []) : atI ns (k % (ns.length : Int)) = some (cellN ns k) := by
  have hp : 0 < ns.length := List.length_pos_iff.mpr hn
  have h1 : 0 ≤ k % (ns.length : Int) := Int.emod_nonneg _ (by omega)
  have h2 : k % (ns.length : Int) < ns.length := Int.emod_lt_of_pos _ (by omega)
  obtain ⟨j, hj⟩ := Int.eq_ofNat_of_zero_le h1
  unfold cellN
  rw [hj] at h2 ⊢
  have hl : j < ns.length := by omega
  have e : ns[j]? = some ns[j] := List.getElem?_eq_getElem hl
  rw [Int.toNat_natCast, e]
  exact atI_nat e
theorem sem_law_cell (G : Ctx) : BodyD G 2 (rd_law_cell G) S_law_cell := by
  rintro W es m R XR ⟨ns, k, rfl, hk, h⟩
  unfold rd_law_cell
  walk_at "r"
  cases ns with
  | nil => 
    refine i_f ?_
    walk_at "r"
    exact h
  | cons n ns =>
    refine i_t ?_
    walk_at "r"
    exact ⟨by simp, _, atI_mod (by simp), h⟩
def S_law_mix : SpD := fun es m R _ => ∃ ns k, es = [.scr ns, .d (.int k)] ∧ 0 ≤ k ∧ k ≤ 1000000 ∧ R (.d (.int (mixN ns k))) m
def rd_law_mix (G : Ctx) (W : WX) : TS :=
  tSeq (tAsg (tOp (rD2 G modF) (tOp (rD2 G addF) (tCallS (spL G S_law_cell) (WE W) (tCons (tVar 0) (tCons (tVar 1) (tNil)))) (tOp (rD2 G mulF) (tC (.int 104729)) (tOp (rD2 G addF) (tVar 1) (tC (.int 1))))) (tC (.int 4294967291))) (gName 2))
  (tSeq (tAsg (tOp (rD2 G modF) (tOp (rD2 G powF) (tVar 2) (tC (.int 5))) (tC (.int 4294967279))) (gName 2))
  (tRet (tOp (rD2 G modF) (tOp (rD2 G addF) (tOp (rD2 G mulF) (tOp (rD2 G divF) (tVar 2) (tC (.int 64))) (tC (.int 69621))) (tVar 2)) (tC (.int 4294967231)))))

theorem len_law_mix : ∀ es m R XR, S_law_mix es m R XR → es.length = 2 := by
  rintro es m R XR ⟨ns, k, rfl, _⟩
  rfl
theorem sem_law_mix (G : Ctx) : BodyD G 3 (rd_law_mix G) S_law_mix := by
  rintro W es m R XR ⟨ns, k, rfl, hk, hk2, h⟩
  unfold rd_law_mix
  walk_at "r"
  refine ⟨ns, k, rfl, hk, ?_⟩
  walk_at "r"
  refine ⟨.inl (by omega), ?_⟩
  walk_at "r"
  refine ⟨by decide, ?_⟩
  walk_at "r"
  have a1 : 0 ≤ (cellN ns k + 104729 * (k + 1)) % 4294967291 := Int.emod_nonneg _ (by decide)
  have a2 : (cellN ns k + 104729 * (k + 1)) % 4294967291 < 4294967291 := Int.emod_lt_of_pos _ (by decide)
  refine ⟨⟨by decide, by decide, by omega⟩, ?_⟩
  walk_at "r"
  refine ⟨by decide, ?_⟩
  walk_at "r"
  refine ⟨⟨by decide, by decide⟩, ?_⟩
  walk_at "r"
  refine ⟨.inr ⟨by decide, by decide⟩, ?_⟩
  walk_at "r"
  refine ⟨by decide, ?_⟩
  exact h
/-! ### games -/
def GameOk (n l : Int) : Prop := 1 ≤ n ∧ n ≤ 64 ∧ 0 ≤ l ∧ l ≤ 4
instance (n l : Int) : Decidable (GameOk n l) := by unfold GameOk; infer_instance
def S_look_game : SpD := fun es m R XR => ∃ n l : Int, es = [.d (.int n), .d (.int l)] ∧ (GameOk n l → R (.d .non) m) ∧ (¬ GameOk n l → XR .game m)
def rd_look_game (G : Ctx) (W : WX) : TS :=
  tIfS (tOr (tNot (tTest (tChain (rD2 G leF) (rD2 G leF) (tC (.int 1)) (tVar 0) (tC (.int 64))))) (tNot (tTest (tChain (rD2 G leF) (rD2 G leF) (tC (.int 0)) (tVar 1) (tC (.int 4)))))) (tRaise W (G.has .game) (G.ex .game)) (tNext)

theorem len_look_game : ∀ es m R XR, S_look_game es m R XR → es.length = 2 := by
  rintro es m R XR ⟨ns, k, rfl, _⟩
  rfl
theorem sem_look_game (G : Ctx) : BodyD G 2 (rd_look_game G) S_look_game := by
  rintro W es m R XR ⟨n, l, rfl, h1, h2⟩
  unfold rd_look_game
  walk_at "r"
  refine i_d (fun a1 => ?_) (fun a1 => ?_)
  · walk_at "r"
    refine i_nd (fun a2 => ?_) (fun a2 => ?_)
    · walk_at "r"
      exact h2 fun q => a2 q.2.1
    · walk_at "r"
      refine i_d (fun a3 => ?_) (fun a3 => ?_)
      · walk_at "r"
        refine i_nd (fun a4 => ?_) (fun a4 => ?_)
        · walk_at "r"
          exact h2 fun q => a4 q.2.2.2
        · walk_at "r"
          exact h1 ⟨a1, a2, a3, a4⟩
      · walk_at "r"
        exact h2 fun q => a3 q.2.2.1
  · walk_at "r"
    exact h2 fun q => a1 q.1
/-- a question: things, rising -/
def QOk (n : Int) (q : List Int) : Prop := q.Pairwise (· < ·) ∧ ∀ k ∈ q, 0 ≤ k ∧ k < n
instance (n : Int) (q : List Int) : Decidable (QOk n q) := by unfold QOk; infer_instance
def S_look_question : SpD := fun es m R XR => ∃ (n : Int) (q : List Int) (x : DV), es = [.d (.int n), x] ∧ vw m x = some (dInts q) ∧ q.length < 64 ∧ (QOk n q → R (.d .non) m) ∧ (¬ QOk n q → XR .question m)
def rd_look_question (G : Ctx) (W : WX) : TS :=
  tIfS (tOr (tTest (tOp (rD2 G neF) (tVar 1) (tSset G G.w (tCons (tVar 1) (tNil))))) (tAnd (tTru G.K (tVar 1)) (tNot (tTest (tChain3 (rD2 G leF) (rD2 G leF) (rD2 G ltF) (tC (.int 0)) (tOp (rD2 G idxF) (tVar 1) (tC (.int 0))) (tOp (rD2 G idxF) (tVar 1) (tUn (rD1 G negF) (tC (.int 1)))) (tVar 0)))))) (tRaise W (G.has .question) (G.ex .question)) (tNext)

theorem len_look_question : ∀ es m R XR, S_look_question es m R XR → es.length = 2 := by
  rintro es m R XR ⟨ns, k, x, rfl, _⟩
  rfl
theorem sset_self {q : List Int} (h : q.Pairwise (· < ·)) : sset q = q := pw_unique (sset_pw q) h fun _ => mem_sset
theorem pw_last : ∀ {x : Int} {xs : List Int} {z : Int}, (x :: xs).Pairwise (· < ·) → (x :: xs).getLast? = some z → ∀ k ∈ x :: xs, x ≤ k ∧ k ≤ z
  | x, [], z, _, hz => fun k hk => by
    simp at hz hk
    omega
  | x, y :: ys, z, h, hz => fun k hk => by
    obtain ⟨h1, h2⟩ := List.pairwise_cons.mp h
    have hz2 : (y :: ys).getLast? = some z := by rw [List.getLast?_cons_cons] at hz; exact hz
    have ih := pw_last h2 hz2
    rcases List.mem_cons.mp hk with rfl | hk
    · have a := h1 y List.mem_cons_self
      have b := (ih y List.mem_cons_self).2
      omega
    · have a := h1 k hk
      have b := (ih k hk).2
      omega
theorem sem_look_question (G : Ctx) : BodyD G 2 (rd_look_question G) S_look_question := by
  rintro W es m R XR ⟨n, q, x, rfl, hx, hz, h1, h2⟩
  unfold rd_look_question
  walk_at "r"
  refine ⟨q, hx, hz, ?_⟩
  refine v_ne hx rfl sh_dInts sh_dInts ?_
  walk_at "r"
  rw [eqD_ints]
  by_cases e : q = sset q
  · rw [decide_eq_true e]
    refine i_f ?_
    walk_at "r"
    refine v_tru hx ?_
    have pw : q.Pairwise (· < ·) := by rw [e]; exact sset_pw q
    cases q with
    | nil =>
      refine i_f ?_
      walk_at "r"
      exact h1 ⟨List.Pairwise.nil, fun k hk => nomatch hk⟩
    | cons y ys =>
      refine i_t ?_
      walk_at "r"
      refine v_idx hx (z := .int y) (atI_nat (j := 0) rfl) ?_
      walk_at "r"
      refine i_d (fun a1 => ?_) (fun a1 => ?_)
      · walk_at "r"
        have el : (y :: ys).getLast? = some ((y :: ys).getLast (by simp)) := List.getLast?_eq_some_getLast (by simp)
        have es : y :: ys = (y :: ys).dropLast ++ [(y :: ys).getLast (by simp)] := (List.dropLast_concat_getLast (by simp)).symm
        refine v_idx hx (z := .int ((y :: ys).getLast (by simp))) ?_ ?_
        · have := atI_map (f := D.int) (atI_last (y :: ys).dropLast ((y :: ys).getLast (by simp)))
          rw [← es] at this
          exact this
        generalize hl : (y :: ys).getLast (by simp) = z at el
        have bd := pw_last pw el
        have zin : z ∈ y :: ys := by rw [← hl]; exact List.getLast_mem _
        walk_at "r"
        refine i_d (fun a2 => ?_) (fun a2 => ?_)
        · walk_at "r"
          refine i_nd (fun a3 => ?_) (fun a3 => ?_)
          · walk_at "r"
            exact h2 fun g => a3 (g.2 z zin).2
          · walk_at "r"
            exact h1 ⟨pw, fun k hk => by have := bd k hk; omega⟩
        · walk_at "r"
          exact absurd (bd z zin).1 a2
      · walk_at "r"
        exact h2 fun g => a1 (g.2 y List.mem_cons_self).1
  · rw [decide_eq_false e]
    refine i_t ?_
    walk_at "r"
    exact h2 fun g => e (sset_self g.1).symm
/-! ### errors told -/
def tagS : Tag → Str
  | .counts => Str.ofString "counts"
  | .game => Str.ofString "game"
  | .plan => Str.ofString "plan"
  | .question => Str.ofString "question"
  | .liar => Str.ofString "liar"
  | .text => Str.ofString "text"
  | .row => Str.ofString "row"
end Lb

/-! SmGm: games. -/
namespace Lb
open PySem L2
local macro_rules | `(tactic| walk_at "v") => `(tactic| ((with_reducible refine ev_var (d := ?dv) ?hv ?_); (case hv => exact rfl)))
local macro_rules | `(tactic| walk_at "f") => `(tactic| first
  | with_reducible refine f_in ?_
  | with_reducible refine f_notin ?_
  | with_reducible refine f_add_i ?_
  | with_reducible refine f_add_s ?_
  | with_reducible refine f_add_l ?_
  | with_reducible refine f_add_t ?_
  | with_reducible refine f_sub ?_
  | with_reducible refine f_mul_i ?_
  | with_reducible refine f_mul_l ?_
  | with_reducible refine f_mul_t ?_
  | with_reducible refine f_div ?_
  | with_reducible refine f_mod ?_
  | with_reducible refine f_pow ?_
  | with_reducible refine f_lt ?_
  | with_reducible refine f_le ?_
  | with_reducible refine f_gt ?_
  | with_reducible refine f_ge ?_
  | with_reducible refine f_eq_i ?_
  | with_reducible refine f_ne_i ?_
  | with_reducible refine f_eq_b ?_
  | with_reducible refine f_ne_b ?_
  | with_reducible refine f_is_n ?_
  | with_reducible refine f_isnot_n ?_
  | with_reducible refine f_is_i ?_
  | with_reducible refine f_isnot_i ?_
  | with_reducible refine f_is_b ?_
  | with_reducible refine f_isnot_b ?_
  | with_reducible refine f_is_s ?_
  | with_reducible refine f_isnot_s ?_
  | with_reducible refine f_is_l ?_
  | with_reducible refine f_isnot_l ?_
  | with_reducible refine f_is_t ?_
  | with_reducible refine f_isnot_t ?_
  | with_reducible refine f_is_r ?_
  | with_reducible refine f_isnot_r ?_
  | with_reducible refine f_is ?_
  | with_reducible refine f_isnot ?_
  | with_reducible refine f_neg ?_
  | with_reducible refine f_len_ml ?_
  | with_reducible refine f_len_mt ?_
  | with_reducible refine f_sum_l ?_
  | with_reducible refine f_sum_t ?_
  | with_reducible refine f_all ?_
  | with_reducible refine f_any ?_
  | with_reducible refine f_len_l ?_
  | with_reducible refine f_len_t ?_
  | with_reducible refine f_len_c ?_
  | with_reducible refine f_abs ?_
  | with_reducible refine f_min2 ?_
  | with_reducible refine f_max2 ?_
  | with_reducible refine f_list_l ?_
  | with_reducible refine f_list_t ?_
  | with_reducible refine f_tup_l ?_
  | with_reducible refine f_tup_t ?_
  | with_reducible refine f_int_i ?_
  | with_reducible refine f_int_b ?_
  | with_reducible refine f_sl_l ?_
  | with_reducible refine f_sl_t ?_
  | with_reducible refine f_tr_n ?_
  | with_reducible refine f_tr_b ?_
  | with_reducible refine f_tr_i ?_
  | with_reducible refine f_tr_l ?_
  | with_reducible refine f_tr_t ?_
  | with_reducible refine f_tr_c ?_)
local macro_rules | `(tactic| walk_at "m") => `(tactic| first
  | assumption
  | exact mset_same
  | ((refine (mset_ne ?_).trans ?_); (first | assumption | exact Ne.symm (by assumption)); walk_at "m"))
local macro_rules | `(tactic| walk_at "w") => `(tactic| first
  | walk_at "v"
  | with_reducible refine ev_rev ?_
  | with_reducible refine ev_sset ?_
  | with_reducible refine ev_lcl ?_
  | with_reducible refine ev_lct ?_
  | with_reducible refine ev_lcs ?_
  | with_reducible refine ev_lc1 ?_
  | with_reducible refine ev_lc2 ?_
  | with_reducible refine st_forl ?_
  | with_reducible refine st_fort ?_
  | with_reducible refine st_fors ?_
  | with_reducible refine st_for1 ?_
  | with_reducible refine st_for2 ?_
  | with_reducible refine ex_bl ?_
  | with_reducible refine ex_in ?_
  | with_reducible refine ex_ls ?_
  | with_reducible refine ex_tu ?_
  | with_reducible refine ex_st ?_
  | with_reducible refine ex_d0 ?_
  | with_reducible refine ex_d1 ?_
  | with_reducible refine ex_d2 ?_
  | with_reducible refine ex_d3 ?_
  | with_reducible refine ex_d4 ?_
  | with_reducible refine ex_d5 ?_
  | with_reducible refine ex_d6 ?_
  | with_reducible refine ex_d7 ?_
  | with_reducible refine ex_d8 ?_
  | with_reducible refine m_and ?_
  | with_reducible refine i_t ?_
  | with_reducible refine i_f ?_
  | with_reducible refine i_nt ?_
  | with_reducible refine i_nf ?_
  | with_reducible refine ev_fld ?_
  | ((with_reducible refine x_fld (fs := ?fs) (v := ?vv) ?hh ?ll ?_); (case hh => walk_at "m"); (case ll => exact rfl))
  | with_reducible refine ev_meth ?_
  | ((with_reducible refine x_meth (fs := ?fs) ?hh ?ll ?_); (case hh => walk_at "m"); (case ll => exact rfl))
  | with_reducible refine ev_make ?_
  | with_reducible refine st_fld ?_
  | ((with_reducible refine x_set (fs := ?fs) ?hh ?ll ?_); (case hh => walk_at "m"); (case ll => exact Nat.le_of_ble_eq_true rfl))
  | with_reducible refine ev_lstP ?_
  | with_reducible refine ev_tup ?_
  | with_reducible refine ev_lst ?_
  | with_reducible refine ev_int ?_
  | with_reducible refine ea_cons ?_
  | with_reducible refine ea_nil ?_
  | with_reducible refine ev_op ?_
  | with_reducible refine st_seq ?_
  | with_reducible refine st_asg ?_
  | with_reducible refine ev_call ?_
  | with_reducible refine ev_cb ?_
  | with_reducible refine st_if ?_
  | with_reducible refine et_test ?_
  | with_reducible refine et_not ?_
  | with_reducible refine et_or ?_
  | with_reducible refine et_and ?_
  | with_reducible refine et_tru ?_
  | with_reducible refine et_yes ?_
  | with_reducible refine et_B ?_
  | with_reducible refine ev_chain ?_
  | with_reducible refine ev_chain3 ?_
  | with_reducible refine ev_un ?_
  | with_reducible refine ev_if ?_
  | with_reducible refine ev_bl ?_
  | with_reducible refine ev_non ?_
  | with_reducible refine ev_str ?_
  | with_reducible refine ev_andV ?_
  | with_reducible refine ev_orV ?_
  | with_reducible refine ev_notV ?_
  | with_reducible refine ev_isB ?_
  | with_reducible refine ev_isE ?_
  | with_reducible refine ev_sl2 ?_
  | with_reducible refine ev_slA ?_
  | with_reducible refine ev_slB ?_
  | with_reducible refine ev_bmL ?_
  | with_reducible refine ev_bmL0 ?_
  | with_reducible refine st_ret ?_
  | with_reducible refine st_drop ?_
  | with_reducible refine st_next ?_
  | with_reducible refine st_setL ?_
  | with_reducible refine st_asgG ?_
  | with_reducible refine st_raise ?_
  | with_reducible refine gt_name ?_
  | with_reducible refine gt_tup2 ?_
  | with_reducible refine gt_tup3 ?_
  | walk_at "f")
local macro_rules | `(tactic| walk_at "r") => `(tactic| repeat walk_at "w")

abbrev QA := List Int × Bool
abbrev dQA (p : QA) : D := .tup [dInts p.1, .bl p.2]
abbrev dRow (row : List QA) : D := .lst (row.map dQA)
/-- how many answers are lies of a thing -/
def liesN (row : List QA) (t : Int) : Nat := (row.filter fun p => decide (t ∈ p.1) != p.2).length
theorem lies_app (row : List QA) (p : QA) (t : Int) : liesN (row ++ [p]) t = liesN row t + if (decide (t ∈ p.1) != p.2) = true then 1 else 0 := by
  unfold liesN
  rw [List.filter_append, List.length_append, List.filter_cons, List.filter_nil]
  split <;> rfl
abbrev gameF (n l : Nat) (b c : Addr) : List (Str × DV) := [("things", .d (.int (n : Nat))), ("most", .d (.int (l : Nat))), ("told", .r b), ("row", .r c)]
def toldN (n : Nat) (row : List QA) : List Int := (List.range n).map fun t => ((liesN row ((t : Nat) : Int) : Nat) : Int)
structure GameAt (m : Mu) (a b c : Addr) (n l : Nat) (row : List QA) : Prop where
  o : m a = some (.ins .game (gameF n l b c))
  t : m b = some (.lst ((toldN n row).map D.int))
  r : m c = some (.lst (row.map dQA))
  bc : b ≠ c
theorem GameAt.ab {m : Mu} {a b c : Addr} {n l : Nat} {row : List QA} (g : GameAt m a b c n l row) : a ≠ b := fun e => by have := g.t; rw [← e, g.o] at this; cases this
theorem GameAt.ac {m : Mu} {a b c : Addr} {n l : Nat} {row : List QA} (g : GameAt m a b c n l row) : a ≠ c := fun e => by have := g.r; rw [← e, g.o] at this; cases this
theorem GameAt.of {m m' : Mu} {a b c : Addr} {n l : Nat} {row : List QA} (g : GameAt m a b c n l row) (h1 : m' a = m a) (h2 : m' b = m b) (h3 : m' c = m c) : GameAt m' a b c n l row := ⟨h1.trans g.o, h2.trans g.t, h3.trans g.r, g.bc⟩
theorem GameAt.new {m : Mu} {a b c : Addr} {n l : Nat} {row : List QA} (g : GameAt m a b c n l row) {d : Addr} {o : MO} (hd : m d = none) : GameAt (mset m d o) a b c n l row := g.of (mset_ne (ne_new g.o hd)) (mset_ne (ne_new g.t hd)) (mset_ne (ne_new g.r hd))
/-! ### making one -/
def S_Game___init__ : SpD := fun es m R XR => ∃ (a : Addr) (n l : Int), es = [.r a, .d (.int n), .d (.int l)] ∧ m a = some (.ins .game []) ∧ (¬ GameOk n l → XR .game m) ∧
  (GameOk n l → ∀ b c m', m b = none → m c = none → GameAt m' a b c n.toNat l.toNat [] → (∀ x, x ≠ a → x ≠ b → x ≠ c → m' x = m x) → R (.d .non) m')
def rd_Game___init__ (G : Ctx) (W : WX) : TS :=
  tSeq (tDrop (tCallS (spL G S_look_game) (WE W) (tCons (tVar 1) (tCons (tVar 2) (tNil)))))
  (tSeq (sFldD G .game (tVar 0) (tVar 1) "things")
  (tSeq (sFldD G .game (tVar 0) (tVar 2) "most")
  (tSeq (sFldD G .game (tVar 0) (tOp (rD2 G mulO) (tLst (tCons (tC (.int 0)) (tNil))) (tVar 1)) "told")
  (sFldD G .game (tVar 0) (tLstO (tNil)) "row"))))

theorem len_Game___init__ : ∀ es m R XR, S_Game___init__ es m R XR → es.length = 3 := by
  rintro es m R XR ⟨a, b, c, rfl, _⟩
  rfl
theorem told_0 (n : Nat) : (toldN n []).map D.int = List.replicate n (D.int 0) := by
  unfold toldN
  rw [List.map_map]
  apply List.ext_getElem
  · simp
  · intro i h1 h2
    simp [liesN]
theorem sem_Game___init__ (G : Ctx) : BodyD G 3 (rd_Game___init__ G) S_Game___init__ := by
  rintro W es m R XR ⟨a, n, l, rfl, ha, h1, h2⟩
  unfold rd_Game___init__
  walk_at "r"
  refine ⟨n, l, rfl, fun g => ?_, h1⟩
  obtain ⟨g1, g2, g3, g4⟩ := id g
  obtain ⟨k, rfl⟩ := Int.eq_ofNat_of_zero_le (show 0 ≤ n by omega)
  obtain ⟨j, rfl⟩ := Int.eq_ofNat_of_zero_le g3
  have hh := h2 g
  rw [Int.toNat_natCast, Int.toNat_natCast] at hh
  walk_at "r"
  refine ⟨by omega, by omega, by rw [Int.toNat_natCast]; show 1 * _ ≤ _; omega, fun b hb => ?_⟩
  rw [mset_mset] at hb ⊢
  have hab : a ≠ b := ne_new mset_same hb
  have hb0 : m b = none := by rw [mset_ne hab.symm] at hb; exact hb
  walk_at "r"
  intro c hc
  have hac : a ≠ c := ne_new (mset_same) hc
  have hbc : b ≠ c := fun e => by rw [← e, mset_ne hab.symm, mset_same] at hc; cases hc
  have hc0 : m c = none := by rw [mset_ne hac.symm, mset_ne hbc.symm, mset_ne hac.symm] at hc; exact hc
  walk_at "r"
  refine hh b c _ hb0 hc0 ⟨mset_same, ?_, ?_, hbc⟩ fun x x1 x2 x3 => ?_
  · rw [mset_ne hab.symm, mset_ne hbc, mset_ne hab.symm, mset_same, told_0, flatten_rep, Int.toNat_natCast]
  · rw [mset_ne hac.symm, mset_same]
    rfl
  · rw [mset_ne x1, mset_ne x3, mset_ne x1, mset_ne x2, mset_ne x1]
/-! ### asking -/
def S_Game_ask : SpD := fun es m R XR => ∃ (a b c : Addr) (n l : Nat) (row : List QA) (x : DV) (q : List Int) (ans : Bool), es = [.r a, x, .d (.bl ans)] ∧ GameAt m a b c n l row ∧ 1 ≤ n ∧ n ≤ 64 ∧ l ≤ 4 ∧ row.length < 1000 ∧ vw m x = some (dInts q) ∧ q.length < 64 ∧
  (¬ QOk n q → XR .question m) ∧ (QOk n q → (∀ t : Nat, t < n → l < liesN (row ++ [(q, ans)]) t) → XR .liar m) ∧
  (QOk n q → ¬ (∀ t : Nat, t < n → l < liesN (row ++ [(q, ans)]) t) → ∀ d m', m d = none → GameAt m' a d c n l (row ++ [(q, ans)]) → (∀ x, x ≠ a → x ≠ b → x ≠ c → x ≠ d → m' x = m x) → R (.d .non) m')
def rd_Game_ask (G : Ctx) (W : WX) : TS :=
  tSeq (tDrop (tCallS (spL G S_look_question) (WE W) (tCons (tFldD G .game (tVar 0) "things") (tCons (tVar 1) (tNil)))))
  (tSeq (tAsg (tCB (rDn G listO) (tCons (tFldD G .game (tVar 0) "told") (tNil))) (gName 3))
  (tSeq (tFor (iRng1 (tCons (tFldD G .game (tVar 0) "things") (tNil))) (gName 4) (tIfS (tTest (tOp (rD2 G neF) (tOp (rD2 G inF) (tVar 4) (tVar 1)) (tVar 2))) (tAsg (tOp (rD2 G addF) (tOp (rD2 G idxF) (tVar 3) (tVar 4)) (tC (.int 1))) (gSub (tVar 3) (tVar 4) L2.rSetL)) (tNext)))
  (tSeq (tIfS (tTest (tOp (rD2 G gtF) (tCB (rDn G minF) (tCons (tVar 3) (tNil))) (tFldD G .game (tVar 0) "most"))) (tRaise W (G.has .liar) (G.ex .liar)) (tNext))
  (tSeq (sFldD G .game (tVar 0) (tVar 3) "told")
  (tDrop (tBM G.K "list" (rDM G appendF) (tFldD G .game (tVar 0) "row") (tCons (tTup (tCons (tCB (rDn G listF) (tCons (tVar 1) (tNil))) (tCons (tVar 2) (tNil)))) (tNil))))))))

theorem len_Game_ask : ∀ es m R XR, S_Game_ask es m R XR → es.length = 3 := by
  rintro es m R XR ⟨a, b, c, d, e, f, g, h, i, rfl, _⟩
  rfl
def laterN (n i : Nat) (row : List QA) (p : QA) : List D := (List.range n).map fun t => D.int (if t < i then ((liesN (row ++ [p]) (t : Nat) : Nat) : Int) else ((liesN row (t : Nat) : Nat) : Int))
theorem later_0 (n : Nat) (row : List QA) (p : QA) : laterN n 0 row p = (toldN n row).map D.int := by
  unfold laterN toldN
  rw [List.map_map]
  apply List.map_congr_left
  intro t _
  simp
theorem later_n (n : Nat) (row : List QA) (p : QA) : laterN n n row p = (toldN n (row ++ [p])).map D.int := by
  unfold laterN toldN
  rw [List.map_map]
  apply List.map_congr_left
  intro t ht
  rw [if_pos (List.mem_range.mp ht)]
  rfl
theorem later_len (n i : Nat) (row : List QA) (p : QA) : (laterN n i row p).length = n := by unfold laterN; simp
theorem later_get {n i : Nat} {row : List QA} {p : QA} (hi : i < n) : atI (laterN n i row p) (i : Int) = some (.int ((liesN row (i : Nat) : Nat) : Int)) := by
  unfold laterN
  rw [atI_map_range _ hi, if_neg (by omega)]
theorem later_set {n i : Nat} {row : List QA} {p : QA} : (laterN n i row p).set i (.int ((liesN (row ++ [p]) (i : Nat) : Nat) : Int)) = laterN n (i + 1) row p := by
  unfold laterN
  rw [map_set_range]
  apply List.map_congr_left
  intro t _
  by_cases h : t = i
  · subst h; simp
  · rw [if_neg h]
    by_cases h2 : t < i
    · rw [if_pos h2, if_pos (by omega)]
    · rw [if_neg h2, if_neg (by omega)]
theorem later_same {n i : Nat} {row : List QA} {p : QA} (h : liesN (row ++ [p]) (i : Nat) = liesN row (i : Nat)) : laterN n i row p = laterN n (i + 1) row p := by
  unfold laterN
  apply List.map_congr_left
  intro t _
  by_cases h1 : t = i
  · subst h1; simp [h]
  · by_cases h2 : t < i
    · rw [if_pos h2, if_pos (by omega)]
    · rw [if_neg h2, if_neg (by omega)]
theorem sem_Game_ask (G : Ctx) : BodyD G 5 (rd_Game_ask G) S_Game_ask := by
  rintro W es m R XR ⟨a, b, c, n, l, row, x, q, ans, rfl, g, hn1, hn2, hl, hrow, hx, hq, h1, h2, h3⟩
  have go := g.o
  have gt := g.t
  have gr := g.r
  have gab := g.ab
  have gac := g.ac
  have gbc := g.bc
  unfold rd_Game_ask
  walk_at "r"
  refine ⟨n, q, x, rfl, hx, hq, fun hQ => ?_, h1⟩
  walk_at "r"
  refine ⟨_, gt, fun d hd => ?_⟩
  have had : a ≠ d := ne_new go hd
  have hbd : b ≠ d := ne_new gt hd
  have hcd : c ≠ d := ne_new gr hd
  walk_at "r"
  refine ⟨_, rfl, by omega, by omega, ?_⟩
  rw [Int.toNat_natCast]
  refine forN (fun i ds' m' => mset m d (.lst (laterN n i row (q, ans))) = m' ∧ ∃ o4, ds' = [some (.r a), some x, some (.d (.bl ans)), some (.r d), o4]) ⟨by rw [later_0], none, rfl⟩ ?_ ?_
  · rintro i ds' m' hi ⟨rfl, o4, rfl⟩
    have eL := lies_app row (q, ans) (i : Nat)
    walk_at "r"
    rw [Int.zero_add]
    refine v_in (vw_new hx hd) ?_
    walk_at "r"
    refine i_b (fun e => ?_) (fun e => ?_)
    · rw [if_pos (show (decide ((i : Int) ∈ (q, ans).1) != (q, ans).2) = true from e)] at eL
      walk_at "r"
      refine ⟨_, mset_same, _, later_get hi, ?_⟩
      walk_at "r"
      refine ⟨d, _, _, i, _, rfl, rfl, rfl, mset_same, ixN_in (by rw [later_len]; exact hi), ?_, _, rfl⟩
      rw [mset_mset, ← later_set, eL]
      rfl
    · rw [if_neg (show ¬ (decide ((i : Int) ∈ (q, ans).1) != (q, ans).2) = true by rw [show (decide ((i : Int) ∈ (q, ans).1) != (q, ans).2) = false from e]; exact Bool.false_ne_true)] at eL
      walk_at "r"
      refine ⟨?_, _, rfl⟩
      rw [later_same (n := n) (i := i) (row := row) (p := (q, ans)) (by omega)]
  · rintro ds' m' ⟨rfl, o4, rfl⟩
    rw [later_n]
    walk_at "r"
    refine ⟨_, mset_same, by unfold toldN; simp; omega, fun k k1 k2 => ?_⟩
    walk_at "r"
    have key : (l : Int) < k ↔ ∀ t : Nat, t < n → l < liesN (row ++ [(q, ans)]) t := by
      constructor
      · intro z t ht
        have := k2 _ (List.mem_map.mpr ⟨t, List.mem_range.mpr ht, rfl⟩)
        omega
      · intro z
        obtain ⟨t, ht, rfl⟩ := List.mem_map.mp k1
        have := z t (List.mem_range.mp ht)
        omega
    refine i_d (fun e => ?_) (fun e => ?_)
    · refine StD.sub (m' := m) ?_ (sub_mset hd)
      walk_at "r"
      exact h2 hQ (key.mp e)
    · walk_at "r"
      have hce : mset (mset m d (.lst ((toldN n (row ++ [(q, ans)])).map D.int))) a (.ins .game (gameF n l d c)) c = some (.lst (row.map dQA)) := by rw [mset_ne gac.symm, mset_ne hcd]; exact gr
      refine ⟨⟨_, hce⟩, ?_⟩
      walk_at "r"
      refine v_list (by
        rcases vw_cases hx with rfl | ⟨z, rfl, ez⟩
        · rfl
        · refine vw_r ?_
          rw [mset_ne (fun w => by rw [w, go] at ez; cases ez), mset_ne (ne_new ez hd)]
          exact ez) ?_
      walk_at "r"
      refine ⟨_, hce, by rw [List.length_map]; omega, ?_⟩
      refine h3 hQ (fun z => e (key.mpr z)) d _ hd ⟨?_, ?_, ?_, hcd.symm⟩ fun y y1 y2 y3 y4 => ?_
      · rw [mset_ne gac]
        exact mset_same
      · rw [mset_ne hcd.symm, mset_ne had.symm, mset_same]
      · rw [mset_same, List.map_append]
        rfl
      · rw [mset_ne y3, mset_ne y1, mset_ne y4]
/-! ### what is told of it -/
def leftN (n l : Nat) (row : List QA) : List Int := ((List.range n).filter fun t => decide (liesN row ((t : Nat) : Int) ≤ l)).map fun t => ((t : Nat) : Int)
def countsN (n l : Nat) (row : List QA) : List Int := (List.range (l + 1)).map fun k => (((List.range n).countP fun t => decide (liesN row ((t : Nat) : Int) = k) : Nat) : Int)
def lieD (l : Nat) (k : Int) : D := if k ≤ (l : Int) then .int k else .non
def liesD (n l : Nat) (row : List QA) : List D := (toldN n row).map (lieD l)
def S_Game_lies : SpD := fun es m R _ => ∃ (a b c : Addr) (n l : Nat) (row : List QA), es = [.r a] ∧ GameAt m a b c n l row ∧ n ≤ 64 ∧ ∀ d, m d = none → R (.r d) (mset m d (.lst (liesD n l row)))
def rd_Game_lies (G : Ctx) (W : WX) : TS :=
  tRet (tLc (iList G.K (tFldD G .game (tVar 0) "told")) (gName 1) (tYes) (tIf (tTest (tOp (rD2 G leF) (tVar 1) (tFldD G .game (tVar 0) "most"))) (tVar 1) (tC .non)) [1])

theorem len_Game_lies : ∀ es m R XR, S_Game_lies es m R XR → es.length = 1 := by
  rintro es m R XR ⟨a, b, c, d, e, f, rfl, _⟩
  rfl
theorem told_len (n : Nat) (row : List QA) : (toldN n row).length = n := by unfold toldN; simp
theorem sem_Game_lies (G : Ctx) : BodyD G 2 (rd_Game_lies G) S_Game_lies := by
  rintro W es m R XR ⟨a, b, c, n, l, row, rfl, g, hn, h⟩
  have go := g.o
  have gt := g.t
  unfold rd_Game_lies
  refine st_ret (ev_lcmO ?_)
  walk_at "r"
  refine ⟨_, _, rfl, gt, ?_⟩
  refine lcM (toldN n row) (fun k => .d (.int k)) (lieD l) (by rw [List.map_map]; rfl) (by rw [told_len]; omega) (fun k M hk hM => ⟨_, .name (by decide), ?_⟩) ?_ (fun M hM => hM _ _ gt)
  · have goM := hM _ _ go
    walk_at "r"
    unfold lieD
    refine i_d (fun e => ?_) (fun e => ?_)
    · walk_at "r"
      rw [if_pos e]
    · walk_at "r"
      rw [if_neg e]
  · exact h
def S_Game_left : SpD := fun es m R _ => ∃ (a b c : Addr) (n l : Nat) (row : List QA), es = [.r a] ∧ GameAt m a b c n l row ∧ n ≤ 64 ∧ ∀ d, m d = none → R (.r d) (mset m d (.lst ((leftN n l row).map D.int)))
def rd_Game_left (G : Ctx) (W : WX) : TS :=
  tRet (tLc (iRng1 (tCons (tFldD G .game (tVar 0) "things") (tNil))) (gName 1) (tTest (tOp (rD2 G leF) (tOp (rD2 G idxF) (tFldD G .game (tVar 0) "told") (tVar 1)) (tFldD G .game (tVar 0) "most"))) (tVar 1) [1])

theorem len_Game_left : ∀ es m R XR, S_Game_left es m R XR → es.length = 1 := by
  rintro es m R XR ⟨a, b, c, d, e, f, rfl, _⟩
  rfl
theorem told_get {n : Nat} {row : List QA} {t : Nat} (ht : t < n) : atI ((toldN n row).map D.int) (0 + (t : Int)) = some (.int ((liesN row (t : Nat) : Nat) : Int)) := by
  rw [Int.zero_add]
  apply atI_nat
  unfold toldN
  rw [List.getElem?_map, List.getElem?_map, List.getElem?_range ht]
  rfl
theorem sem_Game_left (G : Ctx) : BodyD G 2 (rd_Game_left G) S_Game_left := by
  rintro W es m R XR ⟨a, b, c, n, l, row, rfl, g, hn, h⟩
  have go := g.o
  have gt := g.t
  unfold rd_Game_left
  refine st_ret (ev_lc1O ?_)
  walk_at "r"
  refine ⟨_, rfl, by omega, by omega, ?_⟩
  rw [Int.toNat_natCast]
  refine lcF (List.range n) (fun t => .d (.int (0 + (t : Nat)))) (fun t => decide (liesN row ((t : Nat) : Int) ≤ l)) (fun t => .int ((t : Nat) : Int)) rfl (by rw [List.length_range]; omega) (fun t M ht hM => ⟨_, .name (by decide), ?_, fun _ => ?_⟩) ?_
  · have ht := List.mem_range.mp ht
    have goM := hM _ _ go
    have gtM := hM _ _ gt
    walk_at "r"
    refine ⟨_, gtM, _, told_get ht, ?_⟩
    walk_at "r"
    apply decide_eq_decide.mpr
    omega
  · walk_at "r"
    rw [Int.zero_add]
  · intro d hd
    have := h d hd
    unfold leftN at this
    rw [List.map_map] at this
    exact this
def S_Game_counts : SpD := fun es m R _ => ∃ (a b c : Addr) (n l : Nat) (row : List QA), es = [.r a] ∧ GameAt m a b c n l row ∧ n ≤ 64 ∧ l ≤ 4 ∧ R (.d (dTup (countsN n l row))) m
def rd_Game_counts (G : Ctx) (W : WX) : TS :=
  tRet (tCB (rDn G tupleF) (tCons (tLc (iRng1 (tCons (tOp (rD2 G addF) (tFldD G .game (tVar 0) "most") (tC (.int 1))) (tNil))) (gName 1) (tYes) (tBM G.K "list" (rDM G countF) (tFldD G .game (tVar 0) "told") (tCons (tVar 1) (tNil))) [1]) (tNil)))

theorem len_Game_counts : ∀ es m R XR, S_Game_counts es m R XR → es.length = 1 := by
  rintro es m R XR ⟨a, b, c, d, e, f, rfl, _⟩
  rfl
theorem count_told (n : Nat) (row : List QA) (k : Nat) : ((toldN n row).map D.int).countP (fun y => eqD y (.int (k : Int))) = (List.range n).countP fun t => decide (liesN row ((t : Nat) : Int) = k) := by
  unfold toldN
  rw [List.countP_map, List.countP_map]
  apply List.countP_congr
  intro t _
  show eqD (.int ((liesN row (t : Nat) : Nat) : Int)) (.int (k : Int)) = true ↔ _
  rw [eqD_int, decide_eq_true_eq, decide_eq_true_eq]
  omega
theorem sem_Game_counts (G : Ctx) : BodyD G 2 (rd_Game_counts G) S_Game_counts := by
  rintro W es m R XR ⟨a, b, c, n, l, row, rfl, g, hn, hl, h⟩
  have go := g.o
  have gt := g.t
  unfold rd_Game_counts
  walk_at "r"
  refine ⟨_, rfl, by omega, by omega, ?_⟩
  rw [show ((l : Int) + 1).toNat = l + 1 by omega]
  refine lcM (List.range (l + 1)) (fun t => .d (.int (0 + (t : Nat)))) (fun k => .int (((List.range n).countP fun t => decide (liesN row ((t : Nat) : Int) = k) : Nat) : Int)) rfl (by rw [List.length_range]; omega) (fun k M hk hM => ⟨_, .name (by decide), ?_⟩) ?_
  · have goM := hM _ _ go
    have gtM := hM _ _ gt
    walk_at "r"
    refine ⟨⟨_, gtM⟩, ?_⟩
    walk_at "r"
    refine ⟨_, _, rfl, vw_r gtM, sh_ints, sh_int, ?_⟩
    rw [Int.zero_add, count_told]
    exact ⟨rfl, rfl⟩
  · walk_at "r"
    have := h
    unfold countsN at this
    rw [dTup, List.map_map] at this
    exact this
def S_Game_asked : SpD := fun es m R _ => ∃ (a b c : Addr) (n l : Nat) (row : List QA), es = [.r a] ∧ GameAt m a b c n l row ∧ row.length ≤ 1000 ∧ ∀ d, m d = none → R (.r d) (mset m d (.lst (row.map dQA)))
def rd_Game_asked (G : Ctx) (W : WX) : TS :=
  tRet (tLc (iList G.K (tFldD G .game (tVar 0) "row")) (gTup G.K 2 (gCons (gName 1) (gCons (gName 2) (gNil)))) (tYes) (tTup (tCons (tCB (rDn G listF) (tCons (tVar 1) (tNil))) (tCons (tVar 2) (tNil)))) [1, 2])

theorem len_Game_asked : ∀ es m R XR, S_Game_asked es m R XR → es.length = 1 := by
  rintro es m R XR ⟨a, b, c, d, e, f, rfl, _⟩
  rfl
theorem sem_Game_asked (G : Ctx) : BodyD G 3 (rd_Game_asked G) S_Game_asked := by
  rintro W es m R XR ⟨a, b, c, n, l, row, rfl, g, hn, h⟩
  have go := g.o
  have gr := g.r
  unfold rd_Game_asked
  refine st_ret (ev_lcmO ?_)
  walk_at "r"
  refine ⟨_, _, rfl, gr, ?_⟩
  refine lcM row (fun p => .d (dQA p)) dQA (by rw [List.map_map]; rfl) (by omega) (fun p M hk hM => ⟨_, .pair (by decide) (by decide), ?_⟩) h (fun M hM => hM _ _ gr)
  walk_at "r"
  exact rfl
/-! ### taking back -/
def S_Game_back : SpD := fun es m R _ => ∃ (a b c : Addr) (n l : Nat) (row : List QA), es = [.r a] ∧ GameAt m a b c n l row ∧ n ≤ 64 ∧ (row = [] → R (.d (.bl false)) m) ∧
  (∀ r0 p, row = r0 ++ [p] → ∀ m', GameAt m' a b c n l r0 → (∀ x, x ≠ b → x ≠ c → m' x = m x) → R (.d (.bl true)) m')
def rd_Game_back (G : Ctx) (W : WX) : TS :=
  tSeq (tIfS (tNot (tTru G.K (tFldD G .game (tVar 0) "row"))) (tRet (tC (.bl false))) (tNext))
  (tSeq (tAsg (tBM0 G.K "list" (rDM G popF) (tFldD G .game (tVar 0) "row")) (gTup G.K 2 (gCons (gName 1) (gCons (gName 2) (gNil)))))
  (tSeq (tFor (iRng1 (tCons (tFldD G .game (tVar 0) "things") (tNil))) (gName 3) (tIfS (tTest (tOp (rD2 G neF) (tOp (rD2 G inF) (tVar 3) (tVar 1)) (tVar 2))) (tAsg (tOp (rD2 G subF) (tOp (rD2 G idxF) (tFldD G .game (tVar 0) "told") (tVar 3)) (tC (.int 1))) (gSub (tFldD G .game (tVar 0) "told") (tVar 3) L2.rSetL)) (tNext)))
  (tRet (tC (.bl true)))))

theorem len_Game_back : ∀ es m R XR, S_Game_back es m R XR → es.length = 1 := by
  rintro es m R XR ⟨a, b, c, d, e, f, rfl, _⟩
  rfl
/-- .. so far -/
def backN (n i : Nat) (row : List QA) (p : QA) : List D := (List.range n).map fun t => D.int (if t < i then ((liesN row (t : Nat) : Nat) : Int) else ((liesN (row ++ [p]) (t : Nat) : Nat) : Int))
theorem back_0 (n : Nat) (row : List QA) (p : QA) : backN n 0 row p = (toldN n (row ++ [p])).map D.int := by
  unfold backN toldN
  rw [List.map_map]
  apply List.map_congr_left
  intro t _
  simp
theorem back_n (n : Nat) (row : List QA) (p : QA) : backN n n row p = (toldN n row).map D.int := by
  unfold backN toldN
  rw [List.map_map]
  apply List.map_congr_left
  intro t ht
  rw [if_pos (List.mem_range.mp ht)]
  rfl
theorem back_len (n i : Nat) (row : List QA) (p : QA) : (backN n i row p).length = n := by unfold backN; simp
theorem back_get {n i : Nat} {row : List QA} {p : QA} (hi : i < n) : atI (backN n i row p) (i : Int) = some (.int ((liesN (row ++ [p]) (i : Nat) : Nat) : Int)) := by
  unfold backN
  rw [atI_map_range _ hi, if_neg (by omega)]
theorem back_set {n i : Nat} {row : List QA} {p : QA} : (backN n i row p).set i (.int ((liesN row (i : Nat) : Nat) : Int)) = backN n (i + 1) row p := by
  unfold backN
  rw [map_set_range]
  apply List.map_congr_left
  intro t _
  by_cases h : t = i
  · subst h; simp
  · rw [if_neg h]
    by_cases h2 : t < i
    · rw [if_pos h2, if_pos (by omega)]
    · rw [if_neg h2, if_neg (by omega)]
theorem back_same {n i : Nat} {row : List QA} {p : QA} (h : liesN (row ++ [p]) (i : Nat) = liesN row (i : Nat)) : backN n i row p = backN n (i + 1) row p := by
  unfold backN
  apply List.map_congr_left
  intro t _
  by_cases h1 : t = i
  · subst h1; simp [h]
  · by_cases h2 : t < i
    · rw [if_pos h2, if_pos (by omega)]
    · rw [if_neg h2, if_neg (by omega)]
theorem sem_Game_back (G : Ctx) : BodyD G 4 (rd_Game_back G) S_Game_back := by
  rintro W es m R XR ⟨a, b, c, n, l, row, rfl, g, hn, h1, h2⟩
  have go := g.o
  have gt := g.t
  have gr := g.r
  have gab := g.ab
  have gac := g.ac
  have gbc := g.bc
  unfold rd_Game_back
  walk_at "r"
  refine v_tru (vw_r gr) ?_
  rcases List.eq_nil_or_concat row with rfl | ⟨r0, ⟨q, ans⟩, rfl⟩
  · refine i_nf ?_
    walk_at "r"
    exact h1 rfl
  · rw [List.concat_eq_append] at *
    rw [show (!List.isEmpty (List.map dQA (r0 ++ [(q, ans)]))) = true by cases r0 <;> rfl]
    walk_at "r"
    refine ⟨⟨_, gr⟩, ?_⟩
    refine ⟨r0.map dQA, dQA (q, ans), by rw [gr, List.map_append]; rfl, ?_⟩
    walk_at "r"
    refine ⟨_, rfl, by omega, by omega, ?_⟩
    rw [Int.toNat_natCast]
    refine forN (fun i ds' m' => m' a = m a ∧ m' b = some (.lst (backN n i r0 (q, ans))) ∧ m' c = some (.lst (r0.map dQA)) ∧ (∀ x, x ≠ b → x ≠ c → m' x = m x) ∧ ∃ o3, ds' = [some (.r a), some (.d (dInts q)), some (.d (.bl ans)), o3]) ⟨mset_ne gac, by rw [back_0, mset_ne gbc]; exact gt, mset_same, fun x _ x2 => mset_ne x2, none, rfl⟩ ?_ ?_
    · rintro i ds' m' hi ⟨e1, e2, e3, e4, o3, rfl⟩
      have go2 := e1.trans go
      have eL := lies_app r0 (q, ans) (i : Nat)
      walk_at "r"
      rw [Int.zero_add]
      refine i_b (fun e => ?_) (fun e => ?_)
      · rw [if_pos (show (decide ((i : Int) ∈ (q, ans).1) != (q, ans).2) = true from e)] at eL
        walk_at "r"
        refine ⟨_, e2, _, back_get hi, ?_⟩
        walk_at "r"
        refine ⟨b, _, _, i, _, rfl, rfl, rfl, e2, ixN_in (by rw [back_len]; exact hi), by rw [mset_ne gab]; exact e1, ?_, by rw [mset_ne gbc.symm]; exact e3, fun x x1 x2 => by rw [mset_ne x1]; exact e4 x x1 x2, _, rfl⟩
        rw [mset_same, ← back_set, eL]
        congr 3
        congr 1
        omega
      · rw [if_neg (show ¬ (decide ((i : Int) ∈ (q, ans).1) != (q, ans).2) = true by rw [show (decide ((i : Int) ∈ (q, ans).1) != (q, ans).2) = false from e]; exact Bool.false_ne_true)] at eL
        walk_at "r"
        exact ⟨e1, by rw [← back_same (n := n) (i := i) (row := r0) (p := (q, ans)) (by omega)]; exact e2, e3, e4, _, rfl⟩
    · rintro ds' m' ⟨e1, e2, e3, e4, o3, rfl⟩
      walk_at "r"
      rw [back_n] at e2
      exact h2 r0 (q, ans) rfl m' ⟨e1.trans go, e2, e3, gbc⟩ e4
end Lb

/-! MaW: ways to lie and weights: plain. -/
namespace Lb
open PySem L2
def bin : Nat → Nat → Nat
  | _, 0 => 1
  | 0, _ + 1 => 0
  | n + 1, k + 1 => bin n k + bin n (k + 1)
theorem bin_zero (n : Nat) : bin n 0 = 1 := by cases n <;> rfl
theorem bin_over : ∀ (n k : Nat), n < k → bin n k = 0
  | 0, k + 1, _ => rfl
  | n + 1, k + 1, h => by
    show bin n k + bin n (k + 1) = 0
    rw [bin_over n k (by omega), bin_over n (k + 1) (by omega)]
theorem bin_mul : ∀ (n k : Nat), (k + 1) * bin n (k + 1) + k * bin n k = n * bin n k
  | 0, 0 => rfl
  | 0, k + 1 => by simp [bin]
  | n + 1, 0 => by
    have ih := bin_mul n 0
    rw [bin_zero] at ih ⊢
    show (0 + 1) * (bin n 0 + bin n (0 + 1)) + 0 * 1 = (n + 1) * 1
    rw [bin_zero]
    omega
  | n + 1, k + 1 => by
    have h1 := bin_mul n k
    have h2 := bin_mul n (k + 1)
    show (k + 1 + 1) * (bin n (k + 1) + bin n (k + 1 + 1)) + (k + 1) * (bin n k + bin n (k + 1)) = (n + 1) * (bin n k + bin n (k + 1))
    simp only [Nat.mul_add, Nat.add_mul, Nat.one_mul] at h1 h2 ⊢
    omega
/-- of so many questions at most so many lied at -/
def cumN (m : Nat) : Nat → Nat
  | 0 => bin m 0
  | j + 1 => cumN m j + bin m (j + 1)
theorem cum_zero (m : Nat) : cumN m 0 = 1 := bin_zero m
theorem cum_succ (m : Nat) : ∀ j, cumN (m + 1) (j + 1) = cumN m (j + 1) + cumN m j
  | 0 => by
    show bin (m + 1) 0 + (bin m 0 + bin m 1) = (bin m 0 + bin m 1) + bin m 0
    rw [bin_zero, bin_zero]
    omega
  | j + 1 => by
    have ih := cum_succ m j
    show cumN (m + 1) (j + 1) + (bin m (j + 1) + bin m (j + 2)) = (cumN m (j + 1) + bin m (j + 2)) + (cumN m j + bin m (j + 1))
    rw [ih]
    omega
theorem cum_pos (m : Nat) : ∀ j, 1 ≤ cumN m j
  | 0 => by rw [cum_zero]; exact Nat.le_refl _
  | j + 1 => Nat.le_trans (cum_pos m j) (Nat.le_add_right _ _)
theorem cum_over (m : Nat) : ∀ j d, m ≤ j → cumN m (j + d) = cumN m j
  | j, 0, _ => rfl
  | j, d + 1, h => by
    show cumN m (j + d) + bin m (j + d + 1) = _
    rw [cum_over m j d h, bin_over m (j + d + 1) (by omega)]
    rfl
/-- the program's loop -/
def chStep (many : Nat) (s : Int × Int) (k : Nat) : Int × Int := (s.1 + s.2, s.2 * ((many : Int) - (k : Int)) / ((k : Int) + 1))
theorem ch_loop (many : Nat) : ∀ k, k ≤ many + 1 → (List.range k).foldl (chStep many) (0, 1) = (((match k with | 0 => 0 | j + 1 => cumN many j : Nat) : Int), ((bin many k : Nat) : Int))
  | 0, _ => by rw [bin_zero]; rfl
  | k + 1, h => by
    rw [List.range_succ, List.foldl_append, ch_loop many k (by omega)]
    show chStep many _ k = _
    unfold chStep
    refine Prod.ext ?_ ?_
    · dsimp only
      cases k with
      | zero => rw [bin_zero, cum_zero]; rfl
      | succ j => show ((cumN many j : Nat) : Int) + ((bin many (j + 1) : Nat) : Int) = ((cumN many j + bin many (j + 1) : Nat) : Int); omega
    · dsimp only
      have e := bin_mul many k
      have e2 : ((bin many k : Nat) : Int) * ((many : Int) - (k : Int)) = ((k : Int) + 1) * ((bin many (k + 1) : Nat) : Int) := by
        have e3 : ((((k + 1) * bin many (k + 1) + k * bin many k : Nat)) : Int) = ((many * bin many k : Nat) : Int) := by rw [e]
        rw [Int.natCast_add, Int.natCast_mul, Int.natCast_mul, Int.natCast_mul, Int.natCast_add] at e3
        rw [Int.mul_sub, Int.mul_comm _ (many : Int), Int.mul_comm _ (k : Int)]
        have e4 : ((1 : Nat) : Int) = 1 := rfl
        rw [e4] at e3
        omega
      rw [e2, Int.mul_ediv_cancel_left _ (by omega)]
/-- the law's rows -/
def rowN (most : Nat) : Nat → List Int
  | 0 => 1 :: List.replicate most 0
  | m + 1 => (List.range (most + 1)).map fun j => (rowN most m).getD j 0 + if 0 < j then (rowN most m).getD (j - 1) 0 else 0
theorem row_eq (most : Nat) : ∀ m, rowN most m = (List.range (most + 1)).map fun j => ((bin m j : Nat) : Int)
  | 0 => by
    show 1 :: List.replicate most 0 = _
    rw [List.range_succ_eq_map, List.map_cons, List.map_map, bin_zero]
    congr 1
    apply List.ext_getElem
    · simp
    · intro i h1 h2
      simp [bin]
  | m + 1 => by
    show (List.range (most + 1)).map _ = _
    apply List.map_congr_left
    intro j hj
    have hj := List.mem_range.mp hj
    rw [row_eq most m]
    have at_ : ∀ i, i < most + 1 → ((List.range (most + 1)).map fun j => ((bin m j : Nat) : Int)).getD i 0 = ((bin m i : Nat) : Int) := fun i hi => by
      rw [List.getD_eq_getElem?_getD, List.getElem?_map, List.getElem?_range hi]
      rfl
    rw [at_ j hj]
    cases j with
    | zero => rw [if_neg (by decide), bin_zero, bin_zero]; rfl
    | succ i =>
      rw [if_pos (Nat.succ_pos _), show i + 1 - 1 = i from rfl, at_ i (by omega)]
      show _ = ((bin m i + bin m (i + 1) : Nat) : Int)
      omega
theorem sum_range (f : Nat → Int) : ∀ n, ((List.range (n + 1)).map f).sum = ((List.range n).map f).sum + f n := fun n => by
  rw [List.range_succ, List.map_append, List.sum_append]
  simp
theorem row_sum (m : Nat) : ∀ most, ((List.range (most + 1)).map fun j => ((bin m j : Nat) : Int)).sum = ((cumN m most : Nat) : Int)
  | 0 => by simp [cumN]
  | j + 1 => by
    rw [sum_range, row_sum m j]
    show _ = ((cumN m j + bin m (j + 1) : Nat) : Int)
    omega
/-! ### weights -/
def wL (m : Nat) : List Int → Int
  | [] => 0
  | c :: cs => c * ((cumN m cs.length : Nat) : Int) + wL m cs
def yesL (x : Int) : List Int → List Int → List Int
  | c :: cs, p :: ps => (p + x) :: yesL (c - p) cs ps
  | _, _ => []
def noL (y : Int) : List Int → List Int → List Int
  | c :: cs, p :: ps => (c - p + y) :: noL p cs ps
  | _, _ => []
theorem yes_len : ∀ (x : Int) (cs ps : List Int), cs.length = ps.length → (yesL x cs ps).length = cs.length
  | _, [], [], _ => rfl
  | x, c :: cs, p :: ps, h => by
    show (yesL (c - p) cs ps).length + 1 = _
    rw [yes_len _ cs ps (by simpa using h)]
    rfl
theorem no_len : ∀ (x : Int) (cs ps : List Int), cs.length = ps.length → (noL x cs ps).length = cs.length
  | _, [], [], _ => rfl
  | x, c :: cs, p :: ps, h => by
    show (noL p cs ps).length + 1 = _
    rw [no_len _ cs ps (by simpa using h)]
    rfl
theorem w_both (m : Nat) : ∀ (cs ps : List Int) (x y : Int), cs.length = ps.length → wL m (yesL x cs ps) + wL m (noL y cs ps) = wL (m + 1) cs + (match cs with | [] => 0 | _ :: t => (x + y) * ((cumN m t.length : Nat) : Int))
  | [], [], x, y, _ => rfl
  | c :: cs, p :: ps, x, y, h => by
    have hl : cs.length = ps.length := by simpa using h
    have ih := w_both m cs ps (c - p) p hl
    show ((p + x) * ((cumN m (yesL (c - p) cs ps).length : Nat) : Int) + wL m (yesL (c - p) cs ps)) + ((c - p + y) * ((cumN m (noL p cs ps).length : Nat) : Int) + wL m (noL p cs ps)) = (c * ((cumN (m + 1) cs.length : Nat) : Int) + wL (m + 1) cs) + (x + y) * ((cumN m cs.length : Nat) : Int)
    rw [yes_len _ _ _ hl, no_len _ _ _ hl]
    cases cs with
    | nil =>
      cases ps with
      | cons _ _ => cases hl
      | nil =>
        show ((p + x) * ((cumN m 0 : Nat) : Int) + 0) + ((c - p + y) * ((cumN m 0 : Nat) : Int) + 0) = (c * ((cumN (m + 1) 0 : Nat) : Int) + 0) + (x + y) * ((cumN m 0 : Nat) : Int)
        rw [cum_zero, cum_zero]
        show ((p + x) * 1 + 0) + ((c - p + y) * 1 + 0) = (c * 1 + 0) + (x + y) * 1
        omega
    | cons d ds =>
      have ih : wL m (yesL (c - p) (d :: ds) ps) + wL m (noL p (d :: ds) ps) = wL (m + 1) (d :: ds) + (c - p + p) * ((cumN m ds.length : Nat) : Int) := ih
      rw [show (d :: ds).length = ds.length + 1 from rfl, cum_succ, Int.natCast_add, Int.mul_add, show c - p + p = c by omega] at *
      rw [Int.add_mul, Int.add_mul, Int.add_mul, Int.sub_mul]
      omega
end Lb

/-! SmW: weights: what the defs do. -/
namespace Lb
open PySem L2
local macro_rules | `(tactic| walk_at "v") => `(tactic| ((with_reducible refine ev_var (d := ?dv) ?hv ?_); (case hv => exact rfl)))
local macro_rules | `(tactic| walk_at "f") => `(tactic| first
  | with_reducible refine f_in ?_
  | with_reducible refine f_notin ?_
  | with_reducible refine f_add_i ?_
  | with_reducible refine f_add_s ?_
  | with_reducible refine f_add_l ?_
  | with_reducible refine f_add_t ?_
  | with_reducible refine f_sub ?_
  | with_reducible refine f_mul_i ?_
  | with_reducible refine f_mul_l ?_
  | with_reducible refine f_mul_t ?_
  | with_reducible refine f_div ?_
  | with_reducible refine f_mod ?_
  | with_reducible refine f_pow ?_
  | with_reducible refine f_lt ?_
  | with_reducible refine f_le ?_
  | with_reducible refine f_gt ?_
  | with_reducible refine f_ge ?_
  | with_reducible refine f_eq_i ?_
  | with_reducible refine f_ne_i ?_
  | with_reducible refine f_eq_b ?_
  | with_reducible refine f_ne_b ?_
  | with_reducible refine f_is_n ?_
  | with_reducible refine f_isnot_n ?_
  | with_reducible refine f_is_i ?_
  | with_reducible refine f_isnot_i ?_
  | with_reducible refine f_is_b ?_
  | with_reducible refine f_isnot_b ?_
  | with_reducible refine f_is_s ?_
  | with_reducible refine f_isnot_s ?_
  | with_reducible refine f_is_l ?_
  | with_reducible refine f_isnot_l ?_
  | with_reducible refine f_is_t ?_
  | with_reducible refine f_isnot_t ?_
  | with_reducible refine f_is_r ?_
  | with_reducible refine f_isnot_r ?_
  | with_reducible refine f_is ?_
  | with_reducible refine f_isnot ?_
  | with_reducible refine f_neg ?_
  | with_reducible refine f_len_ml ?_
  | with_reducible refine f_len_mt ?_
  | with_reducible refine f_sum_l ?_
  | with_reducible refine f_sum_t ?_
  | with_reducible refine f_all ?_
  | with_reducible refine f_any ?_
  | with_reducible refine f_len_l ?_
  | with_reducible refine f_len_t ?_
  | with_reducible refine f_len_c ?_
  | with_reducible refine f_abs ?_
  | with_reducible refine f_min2 ?_
  | with_reducible refine f_max2 ?_
  | with_reducible refine f_list_l ?_
  | with_reducible refine f_list_t ?_
  | with_reducible refine f_tup_l ?_
  | with_reducible refine f_tup_t ?_
  | with_reducible refine f_int_i ?_
  | with_reducible refine f_int_b ?_
  | with_reducible refine f_sl_l ?_
  | with_reducible refine f_sl_t ?_
  | with_reducible refine f_tr_n ?_
  | with_reducible refine f_tr_b ?_
  | with_reducible refine f_tr_i ?_
  | with_reducible refine f_tr_l ?_
  | with_reducible refine f_tr_t ?_
  | with_reducible refine f_tr_c ?_)
local macro_rules | `(tactic| walk_at "w") => `(tactic| first
  | walk_at "v"
  | with_reducible refine ev_rev ?_
  | with_reducible refine ev_sset ?_
  | with_reducible refine ev_lcl ?_
  | with_reducible refine ev_lct ?_
  | with_reducible refine ev_lcs ?_
  | with_reducible refine ev_lc1 ?_
  | with_reducible refine ev_lc2 ?_
  | with_reducible refine st_forl ?_
  | with_reducible refine st_fort ?_
  | with_reducible refine st_fors ?_
  | with_reducible refine st_for1 ?_
  | with_reducible refine st_for2 ?_
  | with_reducible refine ex_bl ?_
  | with_reducible refine ex_in ?_
  | with_reducible refine ex_ls ?_
  | with_reducible refine ex_tu ?_
  | with_reducible refine ex_st ?_
  | with_reducible refine ex_d0 ?_
  | with_reducible refine ex_d1 ?_
  | with_reducible refine ex_d2 ?_
  | with_reducible refine ex_d3 ?_
  | with_reducible refine ex_d4 ?_
  | with_reducible refine ex_d5 ?_
  | with_reducible refine ex_d6 ?_
  | with_reducible refine ex_d7 ?_
  | with_reducible refine ex_d8 ?_
  | with_reducible refine m_and ?_
  | with_reducible refine i_t ?_
  | with_reducible refine i_f ?_
  | with_reducible refine i_nt ?_
  | with_reducible refine i_nf ?_
  | with_reducible refine ev_tup ?_
  | with_reducible refine ev_lst ?_
  | with_reducible refine ev_int ?_
  | with_reducible refine ea_cons ?_
  | with_reducible refine ea_nil ?_
  | with_reducible refine ev_op ?_
  | with_reducible refine st_seq ?_
  | with_reducible refine st_asg ?_
  | with_reducible refine ev_call ?_
  | with_reducible refine ev_cb ?_
  | with_reducible refine st_if ?_
  | with_reducible refine et_test ?_
  | with_reducible refine et_not ?_
  | with_reducible refine et_or ?_
  | with_reducible refine et_and ?_
  | with_reducible refine et_tru ?_
  | with_reducible refine et_yes ?_
  | with_reducible refine et_B ?_
  | with_reducible refine ev_chain ?_
  | with_reducible refine ev_chain3 ?_
  | with_reducible refine ev_un ?_
  | with_reducible refine ev_if ?_
  | with_reducible refine ev_bl ?_
  | with_reducible refine ev_non ?_
  | with_reducible refine ev_str ?_
  | with_reducible refine ev_andV ?_
  | with_reducible refine ev_orV ?_
  | with_reducible refine ev_notV ?_
  | with_reducible refine ev_isB ?_
  | with_reducible refine ev_isE ?_
  | with_reducible refine ev_sl2 ?_
  | with_reducible refine ev_slA ?_
  | with_reducible refine ev_slB ?_
  | with_reducible refine ev_bmL ?_
  | with_reducible refine ev_bmL0 ?_
  | with_reducible refine st_ret ?_
  | with_reducible refine st_drop ?_
  | with_reducible refine st_next ?_
  | with_reducible refine st_setL ?_
  | with_reducible refine st_asgG ?_
  | with_reducible refine st_raise ?_
  | with_reducible refine gt_name ?_
  | with_reducible refine gt_tup2 ?_
  | with_reducible refine gt_tup3 ?_
  | walk_at "f")
local macro_rules | `(tactic| walk_at "r") => `(tactic| repeat walk_at "w")

def CountsOk (cs : List Int) : Prop := 1 ≤ cs.length ∧ cs.length ≤ 5 ∧ ∀ c ∈ cs, 0 ≤ c ∧ c ≤ 64
instance (cs : List Int) : Decidable (CountsOk cs) := by unfold CountsOk; infer_instance
def QsOk (many : Int) : Prop := 0 ≤ many ∧ many ≤ 60
instance (many : Int) : Decidable (QsOk many) := by unfold QsOk; infer_instance
def S_look_counts : SpD := fun es m R XR => ∃ cs : List Int, es = [.d (dTup cs)] ∧ cs.length ≤ 1000 ∧ (CountsOk cs → R (.d .non) m) ∧ (¬ CountsOk cs → XR .counts m)
def rd_look_counts (G : Ctx) (W : WX) : TS :=
  tIfS (tOr (tNot (tTest (tChain (rD2 G leF) (rD2 G leF) (tC (.int 1)) (tCB (rDn G lenF) (tCons (tVar 0) (tNil))) (tC (.int 5))))) (tNot (tTru G.K (tCB (rDn G allF) (tCons (tLc (iTup G.K (tVar 0)) (gName 1) (tYes) (tChain (rD2 G leF) (rD2 G leF) (tC (.int 0)) (tVar 1) (tC (.int 64))) [1]) (tNil)))))) (tRaise W (G.has .counts) (G.ex .counts)) (tNext)

theorem len_look_counts : ∀ es m R XR, S_look_counts es m R XR → es.length = 1 := by
  rintro es m R XR ⟨ns, rfl, _⟩
  rfl
theorem sem_look_counts (G : Ctx) : BodyD G 2 (rd_look_counts G) S_look_counts := by
  rintro W es m R XR ⟨cs, rfl, hl, h1, h2⟩
  unfold rd_look_counts
  walk_at "r"
  refine i_d (fun a => ?_) (fun a => ?_)
  · walk_at "r"
    refine i_nd (fun b => ?_) (fun b => ?_)
    · walk_at "r"
      exact h2 fun z => b (by have := z.2.1; omega)
    · walk_at "r"
      refine lcM cs (fun c => .d (.int c)) (fun c => .bl (decide (0 ≤ c ∧ c ≤ 64))) (by rw [List.map_map]; rfl) (by omega) (fun c M hc hM => ⟨_, .name (by decide), ?_⟩) ?_
      · walk_at "r"
        refine i_d (fun d => ?_) (fun d => ?_)
        · walk_at "r"
          rw [Bool.decide_and, decide_eq_true d, Bool.true_and]
        · rw [Bool.decide_and, decide_eq_false d, Bool.false_and]
          exact ⟨rfl, rfl⟩
      · walk_at "r"
        refine i_b (fun d => ?_) (fun d => ?_)
        · walk_at "r"
          have d2 : cs.all (fun c => decide (0 ≤ c ∧ c ≤ 64)) = false := by simpa using d
          refine h2 fun z => ?_
          rw [List.all_eq_true.mpr fun c hc => decide_eq_true (z.2.2 c hc)] at d2
          cases d2
        · walk_at "r"
          have d2 : cs.all (fun c => decide (0 ≤ c ∧ c ≤ 64)) = true := by simpa using d
          exact h1 ⟨by omega, by omega, fun c hc => of_decide_eq_true (List.all_eq_true.mp d2 c hc)⟩
  · walk_at "r"
    exact h2 fun z => a (by have := z.1; omega)
def S_look_questions : SpD := fun es m R XR => ∃ many : Int, es = [.d (.int many)] ∧ (QsOk many → R (.d .non) m) ∧ (¬ QsOk many → XR .counts m)
def rd_look_questions (G : Ctx) (W : WX) : TS :=
  tIfS (tNot (tTest (tChain (rD2 G leF) (rD2 G leF) (tC (.int 0)) (tVar 0) (tC (.int 60))))) (tRaise W (G.has .counts) (G.ex .counts)) (tNext)

theorem len_look_questions : ∀ es m R XR, S_look_questions es m R XR → es.length = 1 := by
  rintro es m R XR ⟨ns, rfl, _⟩
  rfl
theorem sem_look_questions (G : Ctx) : BodyD G 1 (rd_look_questions G) S_look_questions := by
  rintro W es m R XR ⟨many, rfl, h1, h2⟩
  unfold rd_look_questions
  walk_at "r"
  refine i_d (fun a => ?_) (fun a => ?_)
  · walk_at "r"
    refine i_nd (fun b => ?_) (fun b => ?_)
    · walk_at "r"
      exact h2 fun z => b z.2
    · walk_at "r"
      exact h1 ⟨a, b⟩
  · walk_at "r"
    exact h2 fun z => a z.1
def S_choices : SpD := fun es m R _ => ∃ many most : Nat, es = [.d (.int many), .d (.int most)] ∧ many ≤ 1000 ∧ most ≤ 1000 ∧ R (.d (.int (cumN many most))) m
def rd_choices (G : Ctx) (W : WX) : TS :=
  tSeq (tAsg (tC (.int 0)) (gName 2))
  (tSeq (tAsg (tC (.int 1)) (gName 3))
  (tSeq (tFor (iRng1 (tCons (tOp (rD2 G addF) (tCB (rDn G minF) (tCons (tVar 0) (tCons (tVar 1) (tNil)))) (tC (.int 1))) (tNil))) (gName 4) (tSeq (tAsg (tOp (rD2 G addF) (tVar 2) (tVar 3)) (gName 2))
  (tAsg (tOp (rD2 G divF) (tOp (rD2 G mulF) (tVar 3) (tOp (rD2 G subF) (tVar 0) (tVar 4))) (tOp (rD2 G addF) (tVar 4) (tC (.int 1)))) (gName 3))))
  (tRet (tVar 2))))

theorem len_choices : ∀ es m R XR, S_choices es m R XR → es.length = 2 := by
  rintro es m R XR ⟨a, b, rfl, _⟩
  rfl
theorem sem_choices (G : Ctx) : BodyD G 5 (rd_choices G) S_choices := by
  rintro W es m R XR ⟨many, most, rfl, h1, h2, h⟩
  unfold rd_choices
  walk_at "r"
  have emin : (if (most : Int) < (many : Int) then (most : Int) else (many : Int)) + 1 = ((min many most + 1 : Nat) : Int) := by
    split <;> omega
  rw [emin]
  refine ⟨_, rfl, by omega, by omega, ?_⟩
  rw [Int.toNat_natCast]
  refine forN (fun k ds' m' => m = m' ∧ ∃ o4, ds' = [some (.d (.int many)), some (.d (.int most)), some (.d (.int ((List.range k).foldl (chStep many) (0, 1)).1)), some (.d (.int ((List.range k).foldl (chStep many) (0, 1)).2)), o4]) ⟨rfl, none, rfl⟩ ?_ ?_
  · rintro k ds' m' hk ⟨rfl, o4, rfl⟩
    rw [List.range_succ, List.foldl_append]
    generalize (List.range k).foldl (chStep many) (0, 1) = s
    walk_at "r"
    refine ⟨.inr ⟨by omega, by omega⟩, ?_⟩
    walk_at "r"
    refine ⟨⟨by omega, by omega⟩, ?_⟩
    rw [Int.zero_add]
    exact ⟨rfl, _, rfl⟩
  · rintro ds' m' ⟨rfl, o4, rfl⟩
    walk_at "r"
    rw [ch_loop many _ (by omega)]
    show R (.d (.int ((cumN many (min many most) : Nat) : Int))) m
    rw [show cumN many (min many most) = cumN many most by
      by_cases c : most ≤ many
      · rw [Nat.min_eq_right c]
      · rw [Nat.min_eq_left (by omega), ← cum_over many many (most - many) (Nat.le_refl _), show many + (most - many) = most by omega]]
    exact h
def S_two_to : SpD := fun es m R _ => ∃ many : Nat, es = [.d (.int many)] ∧ many ≤ 1000 ∧ R (.d (.int (2 ^ many))) m
def rd_two_to (G : Ctx) (W : WX) : TS :=
  tSeq (tAsg (tC (.int 1)) (gName 1))
  (tSeq (tFor (iRng1 (tCons (tVar 0) (tNil))) (gName 2) (tAsg (tOp (rD2 G mulF) (tC (.int 2)) (tVar 1)) (gName 1)))
  (tRet (tVar 1)))

theorem len_two_to : ∀ es m R XR, S_two_to es m R XR → es.length = 1 := by
  rintro es m R XR ⟨a, rfl, _⟩
  rfl
theorem sem_two_to (G : Ctx) : BodyD G 3 (rd_two_to G) S_two_to := by
  rintro W es m R XR ⟨many, rfl, h1, h⟩
  unfold rd_two_to
  walk_at "r"
  refine ⟨_, rfl, by omega, by omega, ?_⟩
  rw [Int.toNat_natCast]
  refine forN (fun k ds' m' => m = m' ∧ ∃ o, ds' = [some (.d (.int many)), some (.d (.int (2 ^ k))), o]) ⟨rfl, none, rfl⟩ ?_ ?_
  · rintro k ds' m' hk ⟨rfl, o, rfl⟩
    walk_at "r"
    refine ⟨.inl ⟨by decide, by decide⟩, ?_⟩
    rw [Int.pow_succ, Int.mul_comm]
    exact ⟨rfl, _, rfl⟩
  · rintro ds' m' ⟨rfl, o, rfl⟩
    walk_at "r"
    exact h
def S_weight : SpD := fun es m R XR => ∃ (cs : List Int) (many : Int), es = [.d (dTup cs), .d (.int many)] ∧ cs.length ≤ 1000 ∧ (¬ CountsOk cs → XR .counts m) ∧ (CountsOk cs → ¬ QsOk many → XR .counts m) ∧ (CountsOk cs → QsOk many → R (.d (.int (wL many.toNat cs))) m)
def rd_weight (G : Ctx) (W : WX) : TS :=
  tSeq (tDrop (tCallS (spL G S_look_counts) (WE W) (tCons (tVar 0) (tNil))))
  (tSeq (tDrop (tCallS (spL G S_look_questions) (WE W) (tCons (tVar 1) (tNil))))
  (tSeq (tAsg (tC (.int 0)) (gName 2))
  (tSeq (tFor (iRng1 (tCons (tCB (rDn G lenF) (tCons (tVar 0) (tNil))) (tNil))) (gName 3) (tAsg (tOp (rD2 G addF) (tVar 2) (tOp (rD2 G mulF) (tOp (rD2 G idxF) (tVar 0) (tVar 3)) (tCallS (spL G S_choices) (WE W) (tCons (tVar 1) (tCons (tOp (rD2 G subF) (tOp (rD2 G subF) (tCB (rDn G lenF) (tCons (tVar 0) (tNil))) (tC (.int 1))) (tVar 3)) (tNil)))))) (gName 2)))
  (tRet (tVar 2)))))

theorem len_weight : ∀ es m R XR, S_weight es m R XR → es.length = 2 := by
  rintro es m R XR ⟨a, b, rfl, _⟩
  rfl
theorem wL_drop (m : Nat) (cs : List Int) {k : Nat} (h : k < cs.length) : wL m (cs.drop k) = cs.getD k 0 * ((cumN m (cs.length - 1 - k) : Nat) : Int) + wL m (cs.drop (k + 1)) := by
  rw [List.drop_eq_getElem_cons h]
  show cs[k] * ((cumN m (cs.drop (k + 1)).length : Nat) : Int) + _ = _
  rw [List.length_drop, List.getD_eq_getElem?_getD, List.getElem?_eq_getElem h, show cs.length - (k + 1) = cs.length - 1 - k by omega]
  rfl
theorem sem_weight (G : Ctx) : BodyD G 4 (rd_weight G) S_weight := by
  rintro W es m R XR ⟨cs, many, rfl, hl, h1, h2, h3⟩
  unfold rd_weight
  walk_at "r"
  refine ⟨cs, rfl, hl, fun a => ?_, h1⟩
  walk_at "r"
  refine ⟨many, rfl, fun b => ?_, h2 a⟩
  have hR := h3 a b
  obtain ⟨b1, b2⟩ := id b
  obtain ⟨n, rfl⟩ := Int.eq_ofNat_of_zero_le b1
  rw [Int.toNat_natCast] at hR
  obtain ⟨a1, a2, a3⟩ := id a
  walk_at "r"
  refine ⟨_, rfl, by omega, by omega, ?_⟩
  rw [Int.toNat_natCast]
  refine forN (fun k ds' m' => m = m' ∧ ∃ (f : Int) (o : Option DV), f + wL n (cs.drop k) = wL n cs ∧ ds' = [some (.d (dTup cs)), some (.d (.int n)), some (.d (.int f)), o]) ⟨rfl, 0, none, by rw [List.drop_zero]; omega, rfl⟩ ?_ ?_
  · rintro k ds' m' hk ⟨rfl, f, o, hf, rfl⟩
    walk_at "r"
    refine ⟨_, atI_is hk, ?_⟩
    walk_at "r"
    refine ⟨n, cs.length - 1 - k, ?_, by omega, by omega, ?_⟩
    · rw [show (cs.length : Int) - 1 - (0 + (k : Int)) = ((cs.length - 1 - k : Nat) : Int) by omega]
    have z := a3 _ (getD_mem hk)
    walk_at "r"
    refine ⟨.inl ⟨by omega, by omega⟩, ?_⟩
    walk_at "r"
    refine ⟨_, _, ?_, rfl⟩
    rw [wL_drop n cs hk] at hf
    omega
  · rintro ds' m' ⟨rfl, f, o, hf, rfl⟩
    walk_at "r"
    rw [List.drop_of_length_le (Nat.le_refl _)] at hf
    rw [show f = wL n cs by rw [← hf]; show f = f + 0; omega]
    exact hR
/-! ### behind -/
def PartOk (cs ps : List Int) : Prop := ps.length = cs.length ∧ ∀ k, k < cs.length → 0 ≤ ps.getD k 0 ∧ ps.getD k 0 ≤ cs.getD k 0
def S_behind : SpD := fun es m R XR => ∃ (cs ps : List Int), es = [.d (dTup cs), .d (dTup ps)] ∧ cs.length ≤ 1000 ∧ ps.length ≤ 1000 ∧ (¬ CountsOk cs → XR .counts m) ∧ (CountsOk cs → ¬ PartOk cs ps → XR .counts m) ∧ (CountsOk cs → PartOk cs ps → R (.d (.tup [dTup (yesL 0 cs ps), dTup (noL 0 cs ps)])) m)
def rd_behind (G : Ctx) (W : WX) : TS :=
  tSeq (tDrop (tCallS (spL G S_look_counts) (WE W) (tCons (tVar 0) (tNil))))
  (tSeq (tIfS (tOr (tTest (tOp (rD2 G neF) (tCB (rDn G lenF) (tCons (tVar 1) (tNil))) (tCB (rDn G lenF) (tCons (tVar 0) (tNil))))) (tNot (tTru G.K (tCB (rDn G allF) (tCons (tLc (iRng1 (tCons (tCB (rDn G lenF) (tCons (tVar 0) (tNil))) (tNil))) (gName 5) (tYes) (tChain (rD2 G leF) (rD2 G leF) (tC (.int 0)) (tOp (rD2 G idxF) (tVar 1) (tVar 5)) (tOp (rD2 G idxF) (tVar 0) (tVar 5))) [5]) (tNil)))))) (tRaise W (G.has .counts) (G.ex .counts)) (tNext))
  (tSeq (tAsg (tLc (iRng1 (tCons (tCB (rDn G lenF) (tCons (tVar 0) (tNil))) (tNil))) (gName 5) (tYes) (tOp (rD2 G subF) (tOp (rD2 G idxF) (tVar 0) (tVar 5)) (tOp (rD2 G idxF) (tVar 1) (tVar 5))) [5]) (gName 2))
  (tSeq (tAsg (tCB (rDn G tupleF) (tCons (tLc (iRng1 (tCons (tCB (rDn G lenF) (tCons (tVar 0) (tNil))) (tNil))) (gName 5) (tYes) (tOp (rD2 G addF) (tOp (rD2 G idxF) (tVar 1) (tVar 5)) (tIf (tTest (tOp (rD2 G gtF) (tVar 5) (tC (.int 0)))) (tOp (rD2 G idxF) (tVar 2) (tOp (rD2 G subF) (tVar 5) (tC (.int 1)))) (tC (.int 0)))) [5]) (tNil))) (gName 3))
  (tSeq (tAsg (tCB (rDn G tupleF) (tCons (tLc (iRng1 (tCons (tCB (rDn G lenF) (tCons (tVar 0) (tNil))) (tNil))) (gName 5) (tYes) (tOp (rD2 G addF) (tOp (rD2 G idxF) (tVar 2) (tVar 5)) (tIf (tTest (tOp (rD2 G gtF) (tVar 5) (tC (.int 0)))) (tOp (rD2 G idxF) (tVar 1) (tOp (rD2 G subF) (tVar 5) (tC (.int 1)))) (tC (.int 0)))) [5]) (tNil))) (gName 4))
  (tRet (tTup (tCons (tVar 3) (tCons (tVar 4) (tNil)))))))))

theorem len_behind : ∀ es m R XR, S_behind es m R XR → es.length = 2 := by
  rintro es m R XR ⟨a, b, rfl, _⟩
  rfl
theorem yes_at : ∀ (x : Int) (cs ps : List Int), ps.length = cs.length → yesL x cs ps = (List.range cs.length).map fun k => ps.getD k 0 + if 0 < k then cs.getD (k - 1) 0 - ps.getD (k - 1) 0 else x
  | x, [], [], _ => rfl
  | x, c :: cs, p :: ps, h => by
    rw [List.length_cons, range_cons]
    show (p + x) :: yesL (c - p) cs ps = _
    rw [yes_at (c - p) cs ps (by simpa using h)]
    congr 1
    apply List.map_congr_left
    intro k _
    cases k with
    | zero => rfl
    | succ j => rfl
theorem no_at : ∀ (x : Int) (cs ps : List Int), ps.length = cs.length → noL x cs ps = (List.range cs.length).map fun k => cs.getD k 0 - ps.getD k 0 + if 0 < k then ps.getD (k - 1) 0 else x
  | x, [], [], _ => rfl
  | x, c :: cs, p :: ps, h => by
    rw [List.length_cons, range_cons]
    show (c - p + x) :: noL p cs ps = _
    rw [no_at p cs ps (by simpa using h)]
    congr 1
    apply List.map_congr_left
    intro k _
    cases k with
    | zero => rfl
    | succ j => rfl
theorem sem_behind (G : Ctx) : BodyD G 6 (rd_behind G) S_behind := by
  rintro W es m R XR ⟨cs, ps, rfl, hl, hp, h1, h2, h3⟩
  unfold rd_behind
  walk_at "r"
  refine ⟨cs, rfl, hl, fun a => ?_, h1⟩
  obtain ⟨a1, a2, a3⟩ := id a
  walk_at "r"
  refine i_nd (fun b => ?_) (fun b => ?_)
  · walk_at "r"
    exact h2 a fun z => b (by rw [z.1])
  have b : ps.length = cs.length := by omega
  walk_at "r"
  refine ⟨_, rfl, by omega, by omega, ?_⟩
  rw [Int.toNat_natCast]
  refine lcM (List.range cs.length) (fun k => .d (.int (0 + (k : Nat)))) (fun k => .bl (decide (0 ≤ ps.getD k 0 ∧ ps.getD k 0 ≤ cs.getD k 0))) rfl (by rw [List.length_range]; omega) (fun k M hk hM => ⟨_, .name (by decide), ?_⟩) ?_
  · have hk := List.mem_range.mp hk
    walk_at "r"
    refine ⟨_, atI_is (by omega), ?_⟩
    walk_at "r"
    refine i_d (fun d => ?_) (fun d => ?_)
    · walk_at "r"
      refine ⟨_, atI_is hk, ?_⟩
      walk_at "r"
      rw [Bool.decide_and, decide_eq_true d, Bool.true_and]
    · rw [Bool.decide_and, decide_eq_false d, Bool.false_and]
      exact ⟨rfl, rfl⟩
  walk_at "r"
  refine i_b (fun d => ?_) (fun d => ?_)
  · walk_at "r"
    have d2 : (List.range cs.length).all (fun k => decide (0 ≤ ps.getD k 0 ∧ ps.getD k 0 ≤ cs.getD k 0)) = false := by simpa using d
    refine h2 a fun z => ?_
    rw [List.all_eq_true.mpr fun k hk => decide_eq_true (z.2 k (List.mem_range.mp hk))] at d2
    cases d2
  have d2 : (List.range cs.length).all (fun k => decide (0 ≤ ps.getD k 0 ∧ ps.getD k 0 ≤ cs.getD k 0)) = true := by simpa using d
  have pok : PartOk cs ps := ⟨b, fun k hk => of_decide_eq_true (List.all_eq_true.mp d2 k (List.mem_range.mpr hk))⟩
  have hR := h3 a pok
  rw [yes_at 0 cs ps b, no_at 0 cs ps b] at hR
  walk_at "r"
  refine ⟨_, rfl, by omega, by omega, ?_⟩
  rw [Int.toNat_natCast]
  refine lcM (List.range cs.length) (fun k => .d (.int (0 + (k : Nat)))) (fun k => .int (cs.getD k 0 - ps.getD k 0)) rfl (by rw [List.length_range]; omega) (fun k M hk hM => ⟨_, .name (by decide), ?_⟩) ?_
  · have hk := List.mem_range.mp hk
    walk_at "r"
    refine ⟨_, atI_is hk, ?_⟩
    walk_at "r"
    refine ⟨_, atI_is (by omega), ?_⟩
    walk_at "r"
    exact rfl
  have er : List.map (fun k : Nat => D.int (cs.getD k 0 - ps.getD k 0)) (List.range cs.length) = ((List.range cs.length).map fun k => cs.getD k 0 - ps.getD k 0).map D.int := by
    rw [List.map_map]
    rfl
  rw [er]
  have rl : ((List.range cs.length).map fun k => cs.getD k 0 - ps.getD k 0).length = cs.length := by simp
  have rat : ∀ k, k < cs.length → ((List.range cs.length).map fun k => cs.getD k 0 - ps.getD k 0).getD k 0 = cs.getD k 0 - ps.getD k 0 := fun k hk => getD_map_range _ hk
  generalize ((List.range cs.length).map fun k => cs.getD k 0 - ps.getD k 0) = rs at rl rat
  walk_at "r"
  refine ⟨_, rfl, by omega, by omega, ?_⟩
  rw [Int.toNat_natCast]
  refine lcM (List.range cs.length) (fun k => .d (.int (0 + (k : Nat)))) (fun k => .int (ps.getD k 0 + if 0 < k then cs.getD (k - 1) 0 - ps.getD (k - 1) 0 else 0)) rfl (by rw [List.length_range]; omega) (fun k M hk hM => ⟨_, .name (by decide), ?_⟩) ?_
  · have hk := List.mem_range.mp hk
    walk_at "r"
    refine ⟨_, atI_is (by omega), ?_⟩
    walk_at "r"
    refine i_d (fun c => ?_) (fun c => ?_)
    · walk_at "r"
      refine ⟨.int (rs.getD (k - 1) 0), ?_, ?_⟩
      · rw [show 0 + (k : Int) - 1 = 0 + ((k - 1 : Nat) : Int) by omega]
        exact atI_is (by omega)
      walk_at "r"
      rw [rat _ (by omega), if_pos (by omega)]
    · walk_at "r"
      rw [if_neg (by omega)]
  walk_at "r"
  refine ⟨_, rfl, by omega, by omega, ?_⟩
  rw [Int.toNat_natCast]
  refine lcM (List.range cs.length) (fun k => .d (.int (0 + (k : Nat)))) (fun k => .int (cs.getD k 0 - ps.getD k 0 + if 0 < k then ps.getD (k - 1) 0 else 0)) rfl (by rw [List.length_range]; omega) (fun k M hk hM => ⟨_, .name (by decide), ?_⟩) ?_
  · have hk := List.mem_range.mp hk
    walk_at "r"
    refine ⟨_, atI_is (by omega), ?_⟩
    walk_at "r"
    refine i_d (fun c => ?_) (fun c => ?_)
    · walk_at "r"
      refine ⟨.int (ps.getD (k - 1) 0), ?_, ?_⟩
      · rw [show 0 + (k : Int) - 1 = 0 + ((k - 1 : Nat) : Int) by omega]
        exact atI_is (by omega)
      walk_at "r"
      rw [rat _ hk, if_pos (by omega)]
    · walk_at "r"
      rw [rat _ hk, if_neg (by omega)]
  walk_at "r"
  rw [dTup, dTup, List.map_map, List.map_map] at hR
  exact hR
end Lb

/-! SmX: the bound; the law's own reckoning of weights. -/
namespace Lb
open PySem L2
local macro_rules | `(tactic| walk_at "v") => `(tactic| ((with_reducible refine ev_var (d := ?dv) ?hv ?_); (case hv => exact rfl)))
local macro_rules | `(tactic| walk_at "f") => `(tactic| first
  | with_reducible refine f_in ?_
  | with_reducible refine f_notin ?_
  | with_reducible refine f_add_i ?_
  | with_reducible refine f_add_s ?_
  | with_reducible refine f_add_l ?_
  | with_reducible refine f_add_t ?_
  | with_reducible refine f_sub ?_
  | with_reducible refine f_mul_i ?_
  | with_reducible refine f_mul_l ?_
  | with_reducible refine f_mul_t ?_
  | with_reducible refine f_div ?_
  | with_reducible refine f_mod ?_
  | with_reducible refine f_pow ?_
  | with_reducible refine f_lt ?_
  | with_reducible refine f_le ?_
  | with_reducible refine f_gt ?_
  | with_reducible refine f_ge ?_
  | with_reducible refine f_eq_i ?_
  | with_reducible refine f_ne_i ?_
  | with_reducible refine f_eq_b ?_
  | with_reducible refine f_ne_b ?_
  | with_reducible refine f_is_n ?_
  | with_reducible refine f_isnot_n ?_
  | with_reducible refine f_is_i ?_
  | with_reducible refine f_isnot_i ?_
  | with_reducible refine f_is_b ?_
  | with_reducible refine f_isnot_b ?_
  | with_reducible refine f_is_s ?_
  | with_reducible refine f_isnot_s ?_
  | with_reducible refine f_is_l ?_
  | with_reducible refine f_isnot_l ?_
  | with_reducible refine f_is_t ?_
  | with_reducible refine f_isnot_t ?_
  | with_reducible refine f_is_r ?_
  | with_reducible refine f_isnot_r ?_
  | with_reducible refine f_is ?_
  | with_reducible refine f_isnot ?_
  | with_reducible refine f_neg ?_
  | with_reducible refine f_len_ml ?_
  | with_reducible refine f_len_mt ?_
  | with_reducible refine f_sum_l ?_
  | with_reducible refine f_sum_t ?_
  | with_reducible refine f_all ?_
  | with_reducible refine f_any ?_
  | with_reducible refine f_len_l ?_
  | with_reducible refine f_len_t ?_
  | with_reducible refine f_len_c ?_
  | with_reducible refine f_abs ?_
  | with_reducible refine f_min2 ?_
  | with_reducible refine f_max2 ?_
  | with_reducible refine f_list_l ?_
  | with_reducible refine f_list_t ?_
  | with_reducible refine f_tup_l ?_
  | with_reducible refine f_tup_t ?_
  | with_reducible refine f_int_i ?_
  | with_reducible refine f_int_b ?_
  | with_reducible refine f_sl_l ?_
  | with_reducible refine f_sl_t ?_
  | with_reducible refine f_tr_n ?_
  | with_reducible refine f_tr_b ?_
  | with_reducible refine f_tr_i ?_
  | with_reducible refine f_tr_l ?_
  | with_reducible refine f_tr_t ?_
  | with_reducible refine f_tr_c ?_)
local macro_rules | `(tactic| walk_at "w") => `(tactic| first
  | walk_at "v"
  | with_reducible refine ev_rev ?_
  | with_reducible refine ev_sset ?_
  | with_reducible refine ev_lcl ?_
  | with_reducible refine ev_lct ?_
  | with_reducible refine ev_lcs ?_
  | with_reducible refine ev_lc1 ?_
  | with_reducible refine ev_lc2 ?_
  | with_reducible refine st_forl ?_
  | with_reducible refine st_fort ?_
  | with_reducible refine st_fors ?_
  | with_reducible refine st_for1 ?_
  | with_reducible refine st_for2 ?_
  | with_reducible refine ex_bl ?_
  | with_reducible refine ex_in ?_
  | with_reducible refine ex_ls ?_
  | with_reducible refine ex_tu ?_
  | with_reducible refine ex_st ?_
  | with_reducible refine ex_d0 ?_
  | with_reducible refine ex_d1 ?_
  | with_reducible refine ex_d2 ?_
  | with_reducible refine ex_d3 ?_
  | with_reducible refine ex_d4 ?_
  | with_reducible refine ex_d5 ?_
  | with_reducible refine ex_d6 ?_
  | with_reducible refine ex_d7 ?_
  | with_reducible refine ex_d8 ?_
  | with_reducible refine m_and ?_
  | with_reducible refine i_t ?_
  | with_reducible refine i_f ?_
  | with_reducible refine i_nt ?_
  | with_reducible refine i_nf ?_
  | with_reducible refine ev_tup ?_
  | with_reducible refine ev_lst ?_
  | with_reducible refine ev_int ?_
  | with_reducible refine ea_cons ?_
  | with_reducible refine ea_nil ?_
  | with_reducible refine ev_op ?_
  | with_reducible refine st_seq ?_
  | with_reducible refine st_asg ?_
  | with_reducible refine ev_call ?_
  | with_reducible refine ev_cb ?_
  | with_reducible refine st_if ?_
  | with_reducible refine et_test ?_
  | with_reducible refine et_not ?_
  | with_reducible refine et_or ?_
  | with_reducible refine et_and ?_
  | with_reducible refine et_tru ?_
  | with_reducible refine et_yes ?_
  | with_reducible refine et_B ?_
  | with_reducible refine ev_chain ?_
  | with_reducible refine ev_chain3 ?_
  | with_reducible refine ev_un ?_
  | with_reducible refine ev_if ?_
  | with_reducible refine ev_bl ?_
  | with_reducible refine ev_non ?_
  | with_reducible refine ev_str ?_
  | with_reducible refine ev_andV ?_
  | with_reducible refine ev_orV ?_
  | with_reducible refine ev_notV ?_
  | with_reducible refine ev_isB ?_
  | with_reducible refine ev_isE ?_
  | with_reducible refine ev_sl2 ?_
  | with_reducible refine ev_slA ?_
  | with_reducible refine ev_slB ?_
  | with_reducible refine ev_bmL ?_
  | with_reducible refine ev_bmL0 ?_
  | with_reducible refine st_ret ?_
  | with_reducible refine st_drop ?_
  | with_reducible refine st_next ?_
  | with_reducible refine st_setL ?_
  | with_reducible refine st_asgG ?_
  | with_reducible refine st_raise ?_
  | with_reducible refine gt_name ?_
  | with_reducible refine gt_tup2 ?_
  | with_reducible refine gt_tup3 ?_
  | walk_at "f")
local macro_rules | `(tactic| walk_at "r") => `(tactic| repeat walk_at "w")

theorem cum_le (m : Nat) : ∀ j, cumN m j ≤ (m + 1) ^ j := by
  induction m with
  | zero =>
    intro j
    have : ∀ j, cumN 0 j = 1 := fun j => by
      have := cum_over 0 0 j (Nat.le_refl _)
      rw [Nat.zero_add] at this
      rw [this, cum_zero]
    rw [this, Nat.zero_add, Nat.one_pow]
    exact Nat.le_refl _
  | succ m ih =>
    intro j
    cases j with
    | zero => rw [cum_zero]; exact Nat.le_refl _
    | succ j =>
      rw [cum_succ]
      have h1 := ih (j + 1)
      have h2 := ih j
      have h3 : (m + 1) ^ j ≤ (m + 1 + 1) ^ j := Nat.pow_le_pow_left (by omega) j
      rw [Nat.pow_succ] at h1 ⊢
      have h4 : (m + 1) ^ j * (m + 1) ≤ (m + 1 + 1) ^ j * (m + 1) := Nat.mul_le_mul_right _ h3
      rw [Nat.mul_succ]
      omega
theorem wL_le (m : Nat) : ∀ cs : List Int, (∀ c ∈ cs, 0 ≤ c ∧ c ≤ 64) → cs.length ≤ 5 → wL m cs ≤ 64 * ((cs.length : Nat) : Int) * (((m + 1) ^ 4 : Nat) : Int)
  | [], _, _ => by simp [wL]
  | c :: cs, h, hl => by
    have hl : cs.length ≤ 4 := by simpa using hl
    have ih := wL_le m cs (fun c hc => h c (List.mem_cons_of_mem _ hc)) (by omega)
    have hc := h c List.mem_cons_self
    have h1 : cumN m cs.length ≤ (m + 1) ^ 4 := Nat.le_trans (cum_le m cs.length) (Nat.pow_le_pow_right (by omega) hl)
    have h2 : c * ((cumN m cs.length : Nat) : Int) ≤ 64 * (((m + 1) ^ 4 : Nat) : Int) := Int.mul_le_mul hc.2 (by omega) (by omega) (by omega)
    show c * ((cumN m cs.length : Nat) : Int) + wL m cs ≤ 64 * ((cs.length + 1 : Nat) : Int) * _
    rw [Int.natCast_add, Int.mul_add, Int.add_mul]
    show _ ≤ _ + 64 * 1 * _
    omega
theorem w60 {cs : List Int} (h : CountsOk cs) : wL 60 cs ≤ 2 ^ 60 := by
  have h1 := wL_le 60 cs h.2.2 h.2.1
  have h2 := h.2.1
  have h3 : (((60 + 1) ^ 4 : Nat) : Int) = 13845841 := by decide
  rw [h3] at h1
  have h4 : (2 : Int) ^ 60 = 1152921504606846976 := by decide
  rw [h4]
  omega
def boundF (cs : List Int) : Nat → Nat → Nat
  | 0, b => b
  | f + 1, b => if 1 < cs.sum ∧ (2 : Int) ^ b < wL b cs then boundF cs f (b + 1) else b
def boundN (cs : List Int) : Nat := boundF cs 60 0
theorem bound_stop {cs : List Int} {f b : Nat} (h : ¬ (1 < cs.sum ∧ (2 : Int) ^ b < wL b cs)) : boundF cs f b = b := by
  cases f with
  | zero => rfl
  | succ f => exact if_neg h
def S_bound : SpD := fun es m R XR => ∃ cs : List Int, es = [.d (dTup cs)] ∧ cs.length ≤ 1000 ∧ (¬ CountsOk cs → XR .counts m) ∧ (CountsOk cs → R (.d (.int (boundN cs))) m)
def rd_bound (G : Ctx) (W : WX) : TS :=
  tSeq (tDrop (tCallS (spL G S_look_counts) (WE W) (tCons (tVar 0) (tNil))))
  (tSeq (tAsg (tC (.int 0)) (gName 1))
  (tSeq (tWhile (tAnd (tTest (tOp (rD2 G gtF) (tCB (rDn G sumF) (tCons (tVar 0) (tNil))) (tC (.int 1)))) (tTest (tOp (rD2 G gtF) (tCallS (spL G S_weight) (WE W) (tCons (tVar 0) (tCons (tVar 1) (tNil)))) (tCallS (spL G S_two_to) (WE W) (tCons (tVar 1) (tNil)))))) (tAsg (tOp (rD2 G addF) (tVar 1) (tC (.int 1))) (gName 1)))
  (tRet (tVar 1))))

theorem len_bound : ∀ es m R XR, S_bound es m R XR → es.length = 1 := by
  rintro es m R XR ⟨ns, rfl, _⟩
  rfl
theorem sem_bound (G : Ctx) : BodyD G 2 (rd_bound G) S_bound := by
  rintro W es m R XR ⟨cs, rfl, hl, h1, h2⟩
  unfold rd_bound
  walk_at "r"
  refine ⟨cs, rfl, hl, fun a => ?_, h1⟩
  have hR := h2 a
  walk_at "r"
  refine st_while (fun f ds' m' => m = m' ∧ ∃ b : Nat, b + f = 60 ∧ boundF cs f b = boundN cs ∧ ds' = [some (.d (dTup cs)), some (.d (.int b))]) 60 ⟨rfl, 0, rfl, rfl, rfl⟩ ?_
  rintro f ds' m' ⟨rfl, b, hb, hf, rfl⟩
  walk_at "r"
  refine i_d (fun c1 => ?_) (fun c1 => ?_)
  · walk_at "r"
    refine ⟨cs, b, rfl, hl, fun z => absurd a z, fun _ z => absurd ⟨by omega, by omega⟩ z, fun _ _ => ?_⟩
    rw [Int.toNat_natCast]
    walk_at "r"
    refine ⟨b, rfl, by omega, ?_⟩
    walk_at "r"
    refine i_d (fun c2 => ?_) (fun c2 => ?_)
    · cases f with
      | zero =>
        obtain rfl : b = 60 := by omega
        have := w60 a
        omega
      | succ f =>
        walk_at "r"
        refine ⟨f, by omega, rfl, b + 1, by omega, ?_, rfl⟩
        rw [boundF, if_pos ⟨c1, c2⟩] at hf
        exact hf
    · walk_at "r"
      rw [← hf, bound_stop fun z => c2 z.2] at hR
      exact hR
  · walk_at "r"
    rw [← hf, bound_stop fun z => c1 z.1] at hR
    exact hR
end Lb

/-! Ma20: counts, parts, what can be done: the numbers. -/
namespace Lb
open PySem L2
/-! ### what is behind, as numbers -/
structure CsOk (cs : List Int) : Prop where
  nn : ∀ c ∈ cs, 0 ≤ c
  s : cs.sum ≤ 12
  l1 : 1 ≤ cs.length
  l3 : cs.length ≤ 3
theorem sum_nn : ∀ {cs : List Int}, (∀ c ∈ cs, 0 ≤ c) → 0 ≤ cs.sum
  | [], _ => Int.le_refl _
  | c :: cs, h => by
    rw [List.sum_cons]
    have := sum_nn fun x hx => h x (List.mem_cons_of_mem _ hx)
    have := h c List.mem_cons_self
    omega
theorem le_sum : ∀ {cs : List Int}, (∀ c ∈ cs, 0 ≤ c) → ∀ c ∈ cs, c ≤ cs.sum
  | [], _, _, hc => nomatch hc
  | x :: cs, h, c, hc => by
    rw [List.sum_cons]
    have h1 := sum_nn fun x hx => h x (List.mem_cons_of_mem _ hx)
    have h2 := h x List.mem_cons_self
    rcases List.mem_cons.mp hc with rfl | hc
    · omega
    · have := le_sum (fun x hx => h x (List.mem_cons_of_mem _ hx)) c hc
      omega
theorem CsOk.counts {cs : List Int} (h : CsOk cs) : CountsOk cs := ⟨h.l1, by have := h.l3; omega, fun c hc => ⟨h.nn c hc, by have := le_sum h.nn c hc; have := h.s; omega⟩⟩
/-- a part, row by row -/
inductive PartL : List Int → List Int → Prop
  | nil : PartL [] []
  | cons {c p : Int} {cs ps : List Int} : 0 ≤ p → p ≤ c → PartL cs ps → PartL (c :: cs) (p :: ps)
theorem PartL.len {cs ps : List Int} (h : PartL cs ps) : ps.length = cs.length := by
  induction h with
  | nil => rfl
  | cons _ _ _ ih => rw [List.length_cons, List.length_cons, ih]
theorem PartL.ok {cs ps : List Int} (h : PartL cs ps) : PartOk cs ps := by
  refine ⟨h.len, ?_⟩
  induction h with
  | nil => intro k hk; exact absurd hk (Nat.not_lt_zero _)
  | cons h1 h2 _ ih =>
    intro k hk
    cases k with
    | zero => exact ⟨h1, h2⟩
    | succ k => exact ih k (by rw [List.length_cons] at hk; omega)
theorem PartL.of : ∀ {cs ps : List Int}, PartOk cs ps → PartL cs ps
  | [], [], _ => .nil
  | [], _ :: _, h => absurd h.1 (by simp)
  | _ :: _, [], h => absurd h.1 (by simp)
  | c :: cs, p :: ps, h => by
    have h0 := h.2 0 (by simp)
    exact .cons h0.1 h0.2 (PartL.of ⟨by have := h.1; simpa using this, fun k hk => by have := h.2 (k + 1) (by rw [List.length_cons]; omega); simpa using this⟩)
theorem yes_nn : ∀ {cs ps : List Int} {x : Int}, 0 ≤ x → PartL cs ps → (∀ c ∈ yesL x cs ps, 0 ≤ c) ∧ (yesL x cs ps).sum ≤ cs.sum + x ∧ (yesL x cs ps).length = cs.length
  | _, _, _, hx, .nil => ⟨(fun _ h => nomatch h), by show (0 : Int) ≤ 0 + _; omega, rfl⟩
  | _, _, _, hx, .cons (c := c) (p := p) h1 h2 t => by
    obtain ⟨a1, a2, a3⟩ := yes_nn (x := c - p) (by omega) t
    refine ⟨fun y hy => ?_, ?_, by rw [yesL, List.length_cons, a3, List.length_cons]⟩
    · rcases List.mem_cons.mp hy with rfl | hy
      · omega
      · exact a1 y hy
    · rw [yesL, List.sum_cons, List.sum_cons]
      omega
theorem no_nn : ∀ {cs ps : List Int} {x : Int}, 0 ≤ x → PartL cs ps → (∀ c ∈ noL x cs ps, 0 ≤ c) ∧ (noL x cs ps).sum ≤ cs.sum + x ∧ (noL x cs ps).length = cs.length
  | _, _, _, hx, .nil => ⟨(fun _ h => nomatch h), by show (0 : Int) ≤ 0 + _; omega, rfl⟩
  | _, _, _, hx, .cons (c := c) (p := p) h1 h2 t => by
    obtain ⟨a1, a2, a3⟩ := no_nn (x := p) (by omega) t
    refine ⟨fun y hy => ?_, ?_, by rw [noL, List.length_cons, a3, List.length_cons]⟩
    · rcases List.mem_cons.mp hy with rfl | hy
      · omega
      · exact a1 y hy
    · rw [noL, List.sum_cons, List.sum_cons]
      omega
theorem CsOk.yes {cs ps : List Int} (h : CsOk cs) (p : PartL cs ps) : CsOk (yesL 0 cs ps) := by
  obtain ⟨a1, a2, a3⟩ := yes_nn (Int.le_refl 0) p
  exact ⟨a1, by have := h.s; omega, by rw [a3]; exact h.l1, by rw [a3]; exact h.l3⟩
theorem CsOk.no {cs ps : List Int} (h : CsOk cs) (p : PartL cs ps) : CsOk (noL 0 cs ps) := by
  obtain ⟨a1, a2, a3⟩ := no_nn (Int.le_refl 0) p
  exact ⟨a1, by have := h.s; omega, by rw [a3]; exact h.l1, by rw [a3]; exact h.l3⟩
/-! ### turned about -/
def compN (cs ps : List Int) : List Int := (List.range cs.length).map fun k => cs.getD k 0 - ps.getD k 0
theorem comp_cons (c p : Int) (cs ps : List Int) : compN (c :: cs) (p :: ps) = (c - p) :: compN cs ps := by
  unfold compN
  rw [List.length_cons, range_cons]
  rfl
theorem comp_part : ∀ {cs ps : List Int}, PartL cs ps → PartL cs (compN cs ps)
  | _, _, .nil => .nil
  | _, _, .cons h1 h2 t => by rw [comp_cons]; exact .cons (by omega) (by omega) (comp_part t)
theorem yes_comp : ∀ {cs ps : List Int} (x : Int), PartL cs ps → yesL x cs (compN cs ps) = noL x cs ps
  | _, _, _, .nil => rfl
  | _, _, x, .cons (c := c) (p := p) h1 h2 t => by
    rw [comp_cons, yesL, noL, yes_comp _ t, show c - (c - p) = p by omega]
theorem no_comp : ∀ {cs ps : List Int} (x : Int), PartL cs ps → noL x cs (compN cs ps) = yesL x cs ps
  | _, _, _, .nil => rfl
  | _, _, x, .cons (c := c) (p := p) h1 h2 t => by
    rw [comp_cons, yesL, noL, no_comp _ t, show c - (c - p) + x = p + x by omega]
theorem comp_comp : ∀ {cs ps : List Int}, PartL cs ps → compN cs (compN cs ps) = ps
  | _, _, .nil => rfl
  | _, _, .cons (c := c) (p := p) h1 h2 t => by rw [comp_cons, comp_cons, comp_comp t, show c - (c - p) = p by omega]
/-! ### all parts -/
def growP (found : List (List Int)) (c : Int) : List (List Int) := found.flatMap fun p => (List.range (c + 1).toNat).map fun k => p ++ [((k : Nat) : Int)]
def allP (cs : List Int) : List (List Int) := cs.foldl growP [[]]
theorem allP_app (cs : List Int) (c : Int) : allP (cs ++ [c]) = growP (allP cs) c := by unfold allP; rw [List.foldl_append]; rfl
theorem part_app {cs ps : List Int} {c k : Int} (h : PartL cs ps) (h1 : 0 ≤ k) (h2 : k ≤ c) : PartL (cs ++ [c]) (ps ++ [k]) := by
  induction h with
  | nil => exact .cons h1 h2 .nil
  | cons a b _ ih => exact .cons a b ih
theorem part_snoc : ∀ {cs qs : List Int} {c : Int}, PartL (cs ++ [c]) qs → ∃ ps k, qs = ps ++ [k] ∧ PartL cs ps ∧ 0 ≤ k ∧ k ≤ c
  | [], _, c, .cons h1 h2 .nil => ⟨[], _, rfl, .nil, h1, h2⟩
  | x :: cs, _, c, .cons h1 h2 t => by
    obtain ⟨ps, k, rfl, a, b, d⟩ := part_snoc (cs := cs) t
    exact ⟨_ :: ps, k, rfl, .cons h1 h2 a, b, d⟩
theorem mem_allP {cs : List Int} : ∀ p, p ∈ allP cs ↔ PartL cs p := by
  refine snoc_ind (P := fun cs => ∀ p, p ∈ allP cs ↔ PartL cs p) ?_ ?_ cs
  · intro p
    show p ∈ [[]] ↔ _
    constructor
    · intro h; rw [List.mem_singleton.mp h]; exact .nil
    · intro h; cases h; exact List.mem_singleton.mpr rfl
  · intro cs c ih p
    rw [allP_app]
    unfold growP
    rw [List.mem_flatMap]
    constructor
    · rintro ⟨q, hq, hp⟩
      obtain ⟨k, hk, rfl⟩ := List.mem_map.mp hp
      have := List.mem_range.mp hk
      exact part_app ((ih q).mp hq) (by omega) (by omega)
    · intro h
      obtain ⟨ps, k, rfl, a, b, d⟩ := part_snoc h
      refine ⟨ps, (ih ps).mpr a, List.mem_map.mpr ⟨k.toNat, List.mem_range.mpr (by omega), ?_⟩⟩
      rw [Int.toNat_of_nonneg b]
/-! ### the parts of which one of each two is told, in their order -/
theorem lexLe_total : ∀ a b : List Int, lexLeI a b = true ∨ lexLeI b a = true
  | [], _ => .inl rfl
  | _ :: _, [] => .inr rfl
  | x :: xs, y :: ys => by
    unfold lexLeI
    by_cases e : x = y
    · rw [if_pos e, if_pos e.symm]; exact lexLe_total xs ys
    · rw [if_neg e, if_neg (Ne.symm e), decide_eq_true_eq, decide_eq_true_eq]; omega
theorem lexLt_antisymm : ∀ a b : List Int, HT.lexLt a b = false → HT.lexLt b a = false → a = b
  | [], [], _, _ => rfl
  | [], _ :: _, h, _ => by cases h
  | _ :: _, [], _, h => by cases h
  | x :: xs, y :: ys, h1, h2 => by
    rw [HT.lexLt_cons] at h1 h2
    by_cases e : x = y
    · rw [if_pos e] at h1
      rw [if_pos e.symm] at h2
      rw [e, lexLt_antisymm xs ys h1 h2]
    · rw [if_neg e, decide_eq_false_iff_not] at h1
      rw [if_neg (Ne.symm e), decide_eq_false_iff_not] at h2
      omega
theorem sorted_uniq {α : Type} {lt : α → α → Bool} (anti : ∀ a b, lt a b = false → lt b a = false → a = b) (irr : ∀ a, lt a a = false) : ∀ {l m : List α}, l.Perm m → l.Pairwise (fun a b => lt b a = false) → m.Pairwise (fun a b => lt b a = false) → l = m
  | [], m, h, _, _ => (List.perm_nil.mp h.symm).symm
  | x :: l, m, h, h1, h2 => by
    cases m with
    | nil => exact absurd (List.perm_nil.mp h) (by simp)
    | cons y m =>
      have e : x = y := by
        have hx : x ∈ y :: m := h.mem_iff.mp List.mem_cons_self
        have hy : y ∈ x :: l := h.mem_iff.mpr List.mem_cons_self
        have a1 : lt x y = false := by
          rcases List.mem_cons.mp hx with rfl | hx
          · exact irr _
          · exact (List.pairwise_cons.mp h2).1 x hx
        have a2 : lt y x = false := by
          rcases List.mem_cons.mp hy with rfl | hy
          · exact irr _
          · exact (List.pairwise_cons.mp h1).1 y hy
        exact anti x y a1 a2
      subst e
      rw [sorted_uniq anti irr (List.Perm.cons_inv h) (List.pairwise_cons.mp h1).2 (List.pairwise_cons.mp h2).2]
def absI (i : Int) : Int := if i < 0 then -i else i
def unevN (cs ps : List Int) : Int := ((List.range cs.length).map fun k => absI (cs.getD k 0 - 2 * ps.getD k 0) * (((cs.length : Nat) : Int) - ((k : Nat) : Int))).sum
def halfP (cs : List Int) : List (List Int) := (allP cs).filter fun p => lexLeI p (compN cs p)
def pairsP (cs : List Int) : List (Int × List Int) := (halfP cs).map fun p => (unevN cs p, p)
def ltQ (a b : Int × List Int) : Bool := HT.lexLt (a.1 :: a.2) (b.1 :: b.2)
def sortQ (ps : List (Int × List Int)) : List (Int × List Int) := ps.mergeSort fun a b => !ltQ b a
theorem sortQ_perm (ps : List (Int × List Int)) : (sortQ ps).Perm ps := List.mergeSort_perm _ _
theorem sortQ_sorted (ps : List (Int × List Int)) : (sortQ ps).Pairwise (fun a b => ltQ b a = false) := by
  have := List.pairwise_mergeSort (le := fun a b => !ltQ b a) (fun a b c h1 h2 => ?_) (fun a b => ?_) ps
  · exact this.imp fun h => by simpa using h
  · have h1 : ltQ b a = false := by simpa using h1
    have h2 : ltQ c b = false := by simpa using h2
    have : ltQ c a = false := NtL.lex_tr _ _ _ h1 h2
    rw [this]
    rfl
  · cases h : ltQ b a with
    | false => rfl
    | true =>
      have : ltQ a b = false := NtL.lex_asym _ _ h
      rw [this]
      rfl
theorem ltQ_anti (a b : Int × List Int) (h1 : ltQ a b = false) (h2 : ltQ b a = false) : a = b := by
  have := lexLt_antisymm _ _ h1 h2
  injection this with e1 e2
  exact Prod.ext e1 e2
theorem sortQ_uniq {ps qs : List (Int × List Int)} (h1 : qs.Perm ps) (h2 : qs.Pairwise (fun a b => ltQ b a = false)) : qs = sortQ ps := sorted_uniq ltQ_anti (fun a => lexLt_irr _) (h1.trans (sortQ_perm ps).symm) h2 (sortQ_sorted ps)
def partsN (cs : List Int) : List (List Int) := (sortQ (pairsP cs)).map (·.2)
theorem mem_partsN {cs p : List Int} : p ∈ partsN cs ↔ PartL cs p ∧ lexLeI p (compN cs p) = true := by
  unfold partsN
  rw [List.mem_map]
  constructor
  · rintro ⟨q, hq, rfl⟩
    rw [(sortQ_perm _).mem_iff] at hq
    obtain ⟨r, hr, rfl⟩ := List.mem_map.mp hq
    obtain ⟨h1, h2⟩ := List.mem_filter.mp hr
    exact ⟨(mem_allP _).mp h1, h2⟩
  · rintro ⟨h1, h2⟩
    refine ⟨(unevN cs p, p), ?_, rfl⟩
    rw [(sortQ_perm _).mem_iff]
    exact List.mem_map.mpr ⟨p, List.mem_filter.mpr ⟨(mem_allP _).mpr h1, h2⟩, rfl⟩
/-! ### what can be done -/
def canB : Nat → List Int → Bool
  | 0, cs => decide (cs.sum ≤ 1)
  | n + 1, cs => decide (cs.sum ≤ 1) || (allP cs).any fun p => canB n (yesL 0 cs p) && canB n (noL 0 cs p)
def canW : Nat → List Int → Option (List Int)
  | 0, cs => if cs.sum ≤ 1 then some [] else none
  | n + 1, cs => if cs.sum ≤ 1 then some [] else if n + 1 < boundN cs then none else (partsN cs).find? fun p => (canW n (yesL 0 cs p)).isSome && (canW n (noL 0 cs p)).isSome
theorem cum_two : ∀ n j : Nat, cumN n j ≤ 2 ^ n
  | 0, j => by
    have e2 : cumN 0 j = cumN 0 0 := by have := cum_over 0 0 j (Nat.le_refl _); rwa [Nat.zero_add] at this
    rw [e2, cum_zero]
    exact Nat.le_refl _
  | n + 1, 0 => by rw [cum_zero]; exact Nat.one_le_two_pow
  | n + 1, j + 1 => by
    rw [cum_succ, Nat.pow_succ]
    have := cum_two n (j + 1)
    have := cum_two n j
    omega
theorem wL_sum_le (n : Nat) : ∀ cs : List Int, (∀ c ∈ cs, 0 ≤ c) → wL n cs ≤ cs.sum * 2 ^ n
  | [], _ => by show (0 : Int) ≤ 0 * _; omega
  | c :: cs, h => by
    have ih := wL_sum_le n cs fun x hx => h x (List.mem_cons_of_mem _ hx)
    have hc := h c List.mem_cons_self
    rw [wL, List.sum_cons, Int.add_mul]
    have h2 : ((cumN n cs.length : Nat) : Int) ≤ 2 ^ n := by
      have := cum_two n cs.length
      have e : ((2 ^ n : Nat) : Int) = (2 : Int) ^ n := by simp
      omega
    have := Int.mul_le_mul_of_nonneg_left h2 hc
    omega
theorem canB_w : ∀ (n : Nat) (cs : List Int), (∀ c ∈ cs, 0 ≤ c) → canB n cs = true → wL n cs ≤ 2 ^ n
  | n, cs, h, hc => by
    have base : cs.sum ≤ 1 → wL n cs ≤ 2 ^ n := fun hs => by
      have h1 := wL_sum_le n cs h
      have h2 : (0 : Int) ≤ 2 ^ n := Int.pow_nonneg (by decide)
      have h3 : cs.sum * 2 ^ n ≤ 1 * 2 ^ n := Int.mul_le_mul_of_nonneg_right hs h2
      omega
    cases n with
    | zero => exact base (of_decide_eq_true hc)
    | succ n =>
      rw [canB, Bool.or_eq_true] at hc
      rcases hc with hc | hc
      · exact base (of_decide_eq_true hc)
      · obtain ⟨p, hp, hc⟩ := List.any_eq_true.mp hc
        rw [Bool.and_eq_true] at hc
        have hP := (mem_allP p).mp hp
        have a := canB_w n _ (yes_nn (Int.le_refl 0) hP).1 hc.1
        have b := canB_w n _ (no_nn (Int.le_refl 0) hP).1 hc.2
        have e : wL n (yesL 0 cs p) + wL n (noL 0 cs p) = wL (n + 1) cs := by
          have e := w_both n cs p 0 0 hP.len.symm
          cases cs with
          | nil => simpa using e
          | cons c t => simpa using e
        rw [Int.pow_succ]
        omega
theorem bound_lt {cs : List Int} : ∀ (f b n : Nat), b ≤ n → n < boundF cs f b → 1 < cs.sum ∧ (2 : Int) ^ n < wL n cs
  | 0, b, n, h1, h2 => absurd h2 (by show ¬ n < b; omega)
  | f + 1, b, n, h1, h2 => by
    unfold boundF at h2
    split at h2
    · rename_i c
      by_cases e : n = b
      · rw [e]; exact c
      · exact bound_lt f (b + 1) n (by omega) h2
    · omega
theorem half_or {cs p : List Int} (h : PartL cs p) : (lexLeI p (compN cs p) = true) ∨ (lexLeI (compN cs p) (compN cs (compN cs p)) = true) := by
  rw [comp_comp h]
  exact lexLe_total _ _
theorem can_iff : ∀ (n : Nat) (cs : List Int), (∀ c ∈ cs, 0 ≤ c) → (canW n cs).isSome = canB n cs
  | 0, cs, h => by
    unfold canW canB
    by_cases c : cs.sum ≤ 1
    · rw [if_pos c, decide_eq_true c]; rfl
    · rw [if_neg c, decide_eq_false c]; rfl
  | n + 1, cs, h => by
    rw [canW]
    by_cases c : cs.sum ≤ 1
    · rw [if_pos c, canB, decide_eq_true c]; rfl
    · rw [if_neg c]
      by_cases b : n + 1 < boundN cs
      · rw [if_pos b]
        have hw := bound_lt 60 0 (n + 1) (Nat.zero_le _) b
        cases e : canB (n + 1) cs with
        | false => rfl
        | true => have := canB_w (n + 1) cs h e; omega
      · rw [if_neg b, canB, decide_eq_false c, Bool.false_or, Bool.eq_iff_iff, List.find?_isSome, List.any_eq_true]
        have ih : ∀ p, PartL cs p → (((canW n (yesL 0 cs p)).isSome && (canW n (noL 0 cs p)).isSome) = (canB n (yesL 0 cs p) && canB n (noL 0 cs p))) := fun p hp => by
          rw [can_iff n _ (yes_nn (Int.le_refl 0) hp).1, can_iff n _ (no_nn (Int.le_refl 0) hp).1]
        constructor
        · rintro ⟨p, hp, hc⟩
          have hP := (mem_partsN.mp hp).1
          exact ⟨p, (mem_allP p).mpr hP, by rw [← ih p hP]; exact hc⟩
        · rintro ⟨p, hp, hc⟩
          have hP := (mem_allP p).mp hp
          rcases half_or hP with hh | hh
          · exact ⟨p, mem_partsN.mpr ⟨hP, hh⟩, by rw [ih p hP]; exact hc⟩
          · have hQ := comp_part hP
            refine ⟨compN cs p, mem_partsN.mpr ⟨hQ, hh⟩, ?_⟩
            rw [ih _ hQ, yes_comp 0 hP, no_comp 0 hP, Bool.and_comm]
            exact hc
theorem canB_mono : ∀ (n : Nat) (cs : List Int), canB n cs = true → canB (n + 1) cs = true
  | 0, cs, h => by
    have h : decide (cs.sum ≤ 1) = true := h
    show (decide (cs.sum ≤ 1) || _) = true
    rw [h]
    rfl
  | n + 1, cs, h => by
    rw [canB, Bool.or_eq_true] at h
    rw [canB, Bool.or_eq_true]
    rcases h with h | h
    · exact .inl h
    · right
      obtain ⟨p, hp, hc⟩ := List.any_eq_true.mp h
      rw [Bool.and_eq_true] at hc
      exact List.any_eq_true.mpr ⟨p, hp, by rw [Bool.and_eq_true]; exact ⟨canB_mono n _ hc.1, canB_mono n _ hc.2⟩⟩
theorem canB_le {n k : Nat} {cs : List Int} (h : canB n cs = true) (hk : n ≤ k) : canB k cs = true := by
  induction hk with
  | refl => exact h
  | step _ ih => exact canB_mono _ cs ih
end Lb

/-! Ma20b: the fewest questions. -/
namespace Lb
open PySem L2
def phC : List Int → Int
  | [] => 0
  | c :: cs => c * ((cs.length : Nat) : Int) + c + phC cs
theorem phC_nn : ∀ {cs : List Int}, (∀ c ∈ cs, 0 ≤ c) → 0 ≤ phC cs
  | [], _ => Int.le_refl _
  | c :: cs, h => by
    have := phC_nn fun x hx => h x (List.mem_cons_of_mem _ hx)
    have h1 := h c List.mem_cons_self
    have h2 : 0 ≤ c * ((cs.length : Nat) : Int) := Int.mul_nonneg h1 (by omega)
    rw [phC]
    omega
theorem phC_yes : ∀ {cs ps : List Int} (x : Int), PartL cs ps → phC (yesL x cs ps) = phC cs + x * ((cs.length : Nat) : Int) - (cs.sum - ps.sum)
  | _, _, x, .nil => by
    show (0 : Int) = 0 + x * ((0 : Nat) : Int) - (0 - 0)
    rw [show ((0 : Nat) : Int) = 0 from rfl, Int.mul_zero]
    rfl
  | _, _, x, .cons (c := c) (p := p) (cs := cs) (ps := ps) h1 h2 t => by
    have ih := phC_yes (c - p) t
    have hl := (yes_nn (x := c - p) (by omega) t).2.2
    rw [yesL, phC, phC, ih, hl, List.sum_cons, List.sum_cons, List.length_cons]
    rw [Int.add_mul, Int.sub_mul, show ((cs.length + 1 : Nat) : Int) = ((cs.length : Nat) : Int) + 1 by omega, Int.mul_add, Int.mul_one]
    omega
theorem phC_no : ∀ {cs ps : List Int} (x : Int), PartL cs ps → phC (noL x cs ps) = phC cs + x * ((cs.length : Nat) : Int) - ps.sum
  | _, _, x, .nil => by
    show (0 : Int) = 0 + x * ((0 : Nat) : Int) - 0
    rw [show ((0 : Nat) : Int) = 0 from rfl, Int.mul_zero]
    rfl
  | _, _, x, .cons (c := c) (p := p) (cs := cs) (ps := ps) h1 h2 t => by
    have ih := phC_no p t
    have hl := (no_nn (x := p) (by omega) t).2.2
    rw [noL, phC, phC, ih, hl, List.sum_cons, List.length_cons]
    rw [Int.add_mul, Int.sub_mul, show ((cs.length + 1 : Nat) : Int) = ((cs.length : Nat) : Int) + 1 by omega, Int.mul_add, Int.mul_one]
    omega
theorem zero_part : ∀ {cs : List Int}, (∀ c ∈ cs, 0 ≤ c) → ∃ p, PartL cs p ∧ p.sum = 0
  | [], _ => ⟨[], .nil, rfl⟩
  | c :: cs, h => by
    obtain ⟨p, h1, h2⟩ := zero_part fun x hx => h x (List.mem_cons_of_mem _ hx)
    exact ⟨0 :: p, .cons (Int.le_refl _) (h c List.mem_cons_self) h1, by rw [List.sum_cons, h2]; rfl⟩
theorem one_part : ∀ {cs : List Int}, (∀ c ∈ cs, 0 ≤ c) → 1 ≤ cs.sum → ∃ p, PartL cs p ∧ p.sum = 1
  | [], _, h => absurd h (by decide)
  | c :: cs, h, hs => by
    have h0 := h c List.mem_cons_self
    have ht : ∀ x ∈ cs, 0 ≤ x := fun x hx => h x (List.mem_cons_of_mem _ hx)
    by_cases e : c = 0
    · rw [List.sum_cons] at hs
      obtain ⟨p, h1, h2⟩ := one_part ht (by omega)
      exact ⟨0 :: p, .cons (Int.le_refl _) h0 h1, by rw [List.sum_cons, h2]; rfl⟩
    · obtain ⟨p, h1, h2⟩ := zero_part ht
      exact ⟨1 :: p, .cons (by decide) (by omega) h1, by rw [List.sum_cons, h2]; rfl⟩
theorem can_phC : ∀ (f : Nat) (cs : List Int), (∀ c ∈ cs, 0 ≤ c) → phC cs ≤ (f : Int) → canB f cs = true
  | f, cs, h, hf => by
    by_cases c : cs.sum ≤ 1
    · cases f with
      | zero => exact decide_eq_true c
      | succ f => rw [canB, decide_eq_true c]; rfl
    · obtain ⟨p, hp, hs⟩ := one_part h (by omega)
      have a := phC_yes 0 hp
      have b := phC_no 0 hp
      rw [Int.zero_mul] at a b
      have y := yes_nn (Int.le_refl 0) hp
      have n := no_nn (Int.le_refl 0) hp
      have yn := phC_nn y.1
      have nn := phC_nn n.1
      cases f with
      | zero => omega
      | succ f =>
        rw [canB, decide_eq_false c, Bool.false_or]
        refine List.any_eq_true.mpr ⟨p, (mem_allP p).mpr hp, ?_⟩
        rw [Bool.and_eq_true]
        exact ⟨can_phC f _ y.1 (by omega), can_phC f _ n.1 (by omega)⟩
theorem CsOk.ph {cs : List Int} (h : CsOk cs) : phC cs ≤ 36 := by
  have hs := h.s
  have h3 := h.l3
  have h0 := h.nn
  match cs, h3 with
  | [], _ => decide
  | [a], _ =>
    have := h0 a (by simp)
    simp [phC] at *
    omega
  | [a, b], _ =>
    have := h0 a (by simp)
    have := h0 b (by simp)
    simp [phC] at *
    omega
  | [a, b, c], _ =>
    have := h0 a (by simp)
    have := h0 b (by simp)
    have := h0 c (by simp)
    simp [phC] at *
    omega
def leastW (cs : List Int) : Nat := ((List.range 37).find? fun n => canB n cs).getD 0
theorem find_least {c : Nat → Bool} {N : Nat} (mono : ∀ n k, n ≤ k → c n = true → c k = true) (ex : ∃ n, n < N ∧ c n = true) (n : Nat) : c n = true ↔ ((List.range N).find? c).getD 0 ≤ n := by
  cases e : (List.range N).find? c with
  | none =>
    rw [List.find?_eq_none] at e
    obtain ⟨k, hk, hc⟩ := ex
    exact absurd hc (e k (List.mem_range.mpr hk))
  | some M =>
    have h1 := List.find?_some e
    show _ ↔ M ≤ n
    constructor
    · intro z
      apply Classical.byContradiction
      intro y
      have hN := List.mem_range.mp (List.mem_of_find?_eq_some e)
      rw [List.find?_eq_some_iff_append] at e
      obtain ⟨_, as, bs, e2, e3⟩ := e
      have hlen : as.length = M := by
        have e4 : (List.range N)[as.length]? = some M := by rw [e2]; simp
        obtain ⟨q1, q2⟩ := List.getElem?_eq_some_iff.mp e4
        rw [List.getElem_range] at q2
        exact q2
      have hn : n ∈ as := by
        have e5 : as = (List.range N).take M := by rw [e2, ← hlen]; simp
        rw [e5, List.mem_take_iff_getElem]
        refine ⟨n, ?_, by rw [List.getElem_range]⟩
        rw [List.length_range]
        omega
      have := e3 n hn
      rw [z] at this
      cases this
    · intro z
      exact mono M n z h1
theorem leastW_spec {cs : List Int} (h : CsOk cs) (n : Nat) : canB n cs = true ↔ leastW cs ≤ n := find_least (fun _ _ hk hc => canB_le hc hk) ⟨36, by decide, can_phC 36 cs h.nn h.ph⟩ n
theorem leastW_le {cs : List Int} (h : CsOk cs) : leastW cs ≤ 36 := (leastW_spec h 36).mp (can_phC 36 cs h.nn h.ph)
theorem wL_zero : ∀ cs : List Int, wL 0 cs = cs.sum
  | [] => rfl
  | c :: cs => by
    rw [wL, List.sum_cons, wL_zero cs]
    have e2 : cumN 0 cs.length = cumN 0 0 := by have := cum_over 0 0 cs.length (Nat.le_refl _); rwa [Nat.zero_add] at this
    rw [e2, cum_zero]
    simp
theorem bound_pos {cs : List Int} (h : 1 < cs.sum) : 1 ≤ boundN cs := by
  unfold boundN
  rw [show (60 : Nat) = 59 + 1 from rfl, boundF, if_pos ⟨h, by rw [wL_zero]; exact h⟩]
  have : ∀ f b, b ≤ boundF cs f b := by
    intro f
    induction f with
    | zero => intro b; exact Nat.le_refl _
    | succ f ih =>
      intro b
      unfold boundF
      split
      · exact Nat.le_trans (Nat.le_succ b) (ih (b + 1))
      · exact Nat.le_refl _
  exact this 59 1
theorem bound_least {cs : List Int} (h : CsOk cs) : boundN cs ≤ leastW cs := by
  apply Classical.byContradiction
  intro z
  have hb := bound_lt 60 0 (leastW cs) (Nat.zero_le _) (show leastW cs < boundN cs by omega)
  have := canB_w _ cs h.nn ((leastW_spec h (leastW cs)).mpr (Nat.le_refl _))
  omega
theorem canW_some {n : Nat} {cs p : List Int} (h : CsOk cs) (hs : 1 < cs.sum) (e : canW n cs = some p) : ∃ k, n = k + 1 ∧ PartL cs p ∧ (canW k (yesL 0 cs p)).isSome = true ∧ (canW k (noL 0 cs p)).isSome = true := by
  cases n with
  | zero =>
    rw [canW, if_neg (by omega)] at e
    cases e
  | succ k =>
    rw [canW, if_neg (by omega)] at e
    split at e
    · cases e
    · have h1 := List.find?_some e
      have h2 := List.mem_of_find?_eq_some e
      rw [Bool.and_eq_true] at h1
      exact ⟨k, rfl, (mem_partsN.mp h2).1, h1.1, h1.2⟩
theorem allP_len : ∀ (cs : List Int), (∀ c ∈ cs, 0 ≤ c ∧ c ≤ 12) → (allP cs).length ≤ 13 ^ cs.length := by
  intro cs
  refine snoc_ind (P := fun cs => (∀ c ∈ cs, 0 ≤ c ∧ c ≤ 12) → (allP cs).length ≤ 13 ^ cs.length) (fun _ => by decide) (fun cs c ih h => ?_) cs
  have ih := ih fun x hx => h x (List.mem_append_left _ hx)
  have hc := h c (by simp)
  rw [allP_app, List.length_append]
  have : ∀ f : List (List Int), (growP f c).length = f.length * (c + 1).toNat := by
    intro f
    unfold growP
    induction f with
    | nil => simp
    | cons p f ih => rw [List.flatMap_cons, List.length_append, ih, List.length_map, List.length_range, List.length_cons, Nat.succ_mul]; omega
  rw [this]
  show _ ≤ 13 ^ (cs.length + 1)
  rw [Nat.pow_succ]
  exact Nat.mul_le_mul ih (by omega)
end Lb

/-! SmP: plans: parts, the worker, the fewest. -/
namespace Lb
open PySem L2
local macro_rules | `(tactic| walk_at "v") => `(tactic| ((with_reducible refine ev_var (d := ?dv) ?hv ?_); (case hv => exact rfl)))
local macro_rules | `(tactic| walk_at "f") => `(tactic| first
  | with_reducible refine f_in ?_
  | with_reducible refine f_notin ?_
  | with_reducible refine f_add_i ?_
  | with_reducible refine f_add_s ?_
  | with_reducible refine f_add_l ?_
  | with_reducible refine f_add_t ?_
  | with_reducible refine f_sub ?_
  | with_reducible refine f_mul_i ?_
  | with_reducible refine f_mul_l ?_
  | with_reducible refine f_mul_t ?_
  | with_reducible refine f_div ?_
  | with_reducible refine f_mod ?_
  | with_reducible refine f_pow ?_
  | with_reducible refine f_lt ?_
  | with_reducible refine f_le ?_
  | with_reducible refine f_gt ?_
  | with_reducible refine f_ge ?_
  | with_reducible refine f_eq_i ?_
  | with_reducible refine f_ne_i ?_
  | with_reducible refine f_eq_b ?_
  | with_reducible refine f_ne_b ?_
  | with_reducible refine f_is_n ?_
  | with_reducible refine f_isnot_n ?_
  | with_reducible refine f_is_i ?_
  | with_reducible refine f_isnot_i ?_
  | with_reducible refine f_is_b ?_
  | with_reducible refine f_isnot_b ?_
  | with_reducible refine f_is_s ?_
  | with_reducible refine f_isnot_s ?_
  | with_reducible refine f_is_l ?_
  | with_reducible refine f_isnot_l ?_
  | with_reducible refine f_is_t ?_
  | with_reducible refine f_isnot_t ?_
  | with_reducible refine f_is_r ?_
  | with_reducible refine f_isnot_r ?_
  | with_reducible refine f_is ?_
  | with_reducible refine f_isnot ?_
  | with_reducible refine f_neg ?_
  | with_reducible refine f_len_ml ?_
  | with_reducible refine f_len_mt ?_
  | with_reducible refine f_sum_l ?_
  | with_reducible refine f_sum_t ?_
  | with_reducible refine f_all ?_
  | with_reducible refine f_any ?_
  | with_reducible refine f_len_l ?_
  | with_reducible refine f_len_t ?_
  | with_reducible refine f_len_c ?_
  | with_reducible refine f_abs ?_
  | with_reducible refine f_min2 ?_
  | with_reducible refine f_max2 ?_
  | with_reducible refine f_list_l ?_
  | with_reducible refine f_list_t ?_
  | with_reducible refine f_tup_l ?_
  | with_reducible refine f_tup_t ?_
  | with_reducible refine f_int_i ?_
  | with_reducible refine f_int_b ?_
  | with_reducible refine f_sl_l ?_
  | with_reducible refine f_sl_t ?_
  | with_reducible refine f_tr_n ?_
  | with_reducible refine f_tr_b ?_
  | with_reducible refine f_tr_i ?_
  | with_reducible refine f_tr_l ?_
  | with_reducible refine f_tr_t ?_
  | with_reducible refine f_tr_c ?_)
local macro_rules | `(tactic| walk_at "m") => `(tactic| first
  | assumption
  | exact mset_same
  | ((refine (mset_ne ?_).trans ?_); (first | assumption | exact Ne.symm (by assumption)); walk_at "m"))
local macro_rules | `(tactic| walk_at "w") => `(tactic| first
  | walk_at "v"
  | with_reducible refine ev_rev ?_
  | with_reducible refine ev_sset ?_
  | with_reducible refine ev_lcl ?_
  | with_reducible refine ev_lct ?_
  | with_reducible refine ev_lcs ?_
  | with_reducible refine ev_lc1 ?_
  | with_reducible refine ev_lc2 ?_
  | with_reducible refine st_forl ?_
  | with_reducible refine st_fort ?_
  | with_reducible refine st_fors ?_
  | with_reducible refine st_for1 ?_
  | with_reducible refine st_for2 ?_
  | with_reducible refine ex_bl ?_
  | with_reducible refine ex_in ?_
  | with_reducible refine ex_ls ?_
  | with_reducible refine ex_tu ?_
  | with_reducible refine ex_st ?_
  | with_reducible refine ex_d0 ?_
  | with_reducible refine ex_d1 ?_
  | with_reducible refine ex_d2 ?_
  | with_reducible refine ex_d3 ?_
  | with_reducible refine ex_d4 ?_
  | with_reducible refine ex_d5 ?_
  | with_reducible refine ex_d6 ?_
  | with_reducible refine ex_d7 ?_
  | with_reducible refine ex_d8 ?_
  | with_reducible refine m_and ?_
  | with_reducible refine i_t ?_
  | with_reducible refine i_f ?_
  | with_reducible refine i_nt ?_
  | with_reducible refine i_nf ?_
  | with_reducible refine ev_fld ?_
  | ((with_reducible refine x_fld (fs := ?fs) (v := ?vv) ?hh ?ll ?_); (case hh => walk_at "m"); (case ll => exact rfl))
  | with_reducible refine ev_meth ?_
  | ((with_reducible refine x_meth (fs := ?fs) ?hh ?ll ?_); (case hh => walk_at "m"); (case ll => exact rfl))
  | with_reducible refine ev_make ?_
  | with_reducible refine st_fld ?_
  | ((with_reducible refine x_set (fs := ?fs) ?hh ?ll ?_); (case hh => walk_at "m"); (case ll => exact Nat.le_of_ble_eq_true rfl))
  | with_reducible refine ev_lstP ?_
  | with_reducible refine ev_dnew ?_
  | with_reducible refine st_dset ?_
  | with_reducible refine ev_tup ?_
  | with_reducible refine ev_lst ?_
  | with_reducible refine ev_int ?_
  | with_reducible refine ea_cons ?_
  | with_reducible refine ea_nil ?_
  | with_reducible refine ev_op ?_
  | with_reducible refine st_seq ?_
  | with_reducible refine st_asg ?_
  | with_reducible refine ev_call ?_
  | with_reducible refine ev_cb ?_
  | with_reducible refine st_if ?_
  | with_reducible refine et_test ?_
  | with_reducible refine et_not ?_
  | with_reducible refine et_or ?_
  | with_reducible refine et_and ?_
  | with_reducible refine et_tru ?_
  | with_reducible refine et_yes ?_
  | with_reducible refine et_B ?_
  | with_reducible refine ev_chain ?_
  | with_reducible refine ev_chain3 ?_
  | with_reducible refine ev_un ?_
  | with_reducible refine ev_if ?_
  | with_reducible refine ev_bl ?_
  | with_reducible refine ev_non ?_
  | with_reducible refine ev_str ?_
  | with_reducible refine ev_andV ?_
  | with_reducible refine ev_orV ?_
  | with_reducible refine ev_notV ?_
  | with_reducible refine ev_isB ?_
  | with_reducible refine ev_isE ?_
  | with_reducible refine ev_sl2 ?_
  | with_reducible refine ev_slA ?_
  | with_reducible refine ev_slB ?_
  | with_reducible refine ev_bmL ?_
  | with_reducible refine ev_bmL0 ?_
  | with_reducible refine st_ret ?_
  | with_reducible refine st_drop ?_
  | with_reducible refine st_next ?_
  | with_reducible refine st_setL ?_
  | with_reducible refine st_asgG ?_
  | with_reducible refine st_raise ?_
  | with_reducible refine gt_name ?_
  | with_reducible refine gt_tup2 ?_
  | with_reducible refine gt_tup3 ?_
  | walk_at "f")
local macro_rules | `(tactic| walk_at "r") => `(tactic| repeat walk_at "w")

def Small (cs : List Int) : Prop := CountsOk cs ∧ cs.sum ≤ 12 ∧ cs.length ≤ 3
theorem Small.ok {cs : List Int} (h : Small cs) : CsOk cs := ⟨fun c hc => (h.1.2.2 c hc).1, h.2.1, h.1.1, h.2.2⟩
theorem CsOk.small {cs : List Int} (h : CsOk cs) : Small cs := ⟨h.counts, h.s, h.l3⟩
def S_look_small : SpD := fun es m R XR => ∃ cs : List Int, es = [.d (dTup cs)] ∧ cs.length ≤ 1000 ∧ (Small cs → R (.d .non) m) ∧ (¬ Small cs → XR .counts m)
def rd_look_small (G : Ctx) (W : WX) : TS :=
  tSeq (tDrop (tCallS (spL G S_look_counts) (WE W) (tCons (tVar 0) (tNil))))
  (tIfS (tOr (tTest (tOp (rD2 G gtF) (tCB (rDn G sumF) (tCons (tVar 0) (tNil))) (tC (.int 12)))) (tTest (tOp (rD2 G gtF) (tCB (rDn G lenF) (tCons (tVar 0) (tNil))) (tC (.int 3))))) (tRaise W (G.has .counts) (G.ex .counts)) (tNext))

theorem len_look_small : ∀ es m R XR, S_look_small es m R XR → es.length = 1 := by
  rintro es m R XR ⟨a, rfl, _⟩
  rfl
theorem sem_look_small (G : Ctx) : BodyD G 1 (rd_look_small G) S_look_small := by
  rintro W es m R XR ⟨cs, rfl, hl, h1, h2⟩
  unfold rd_look_small
  walk_at "r"
  refine ⟨cs, rfl, hl, fun ok => ?_, fun z => h2 fun y => z y.1⟩
  walk_at "r"
  refine i_d (fun c => ?_) (fun c => ?_)
  · walk_at "r"
    exact h2 fun y => by have := y.2.1; omega
  · walk_at "r"
    refine i_d (fun d => ?_) (fun d => ?_)
    · walk_at "r"
      exact h2 fun y => by have := y.2.2; omega
    · walk_at "r"
      exact h1 ⟨ok, by omega, by omega⟩
/-! ### parts -/
def S_unevenness : SpD := fun es m R _ => ∃ (cs ps : List Int), es = [.d (dTup cs), .d (dTup ps)] ∧ CsOk cs ∧ PartL cs ps ∧ R (.d (.int (unevN cs ps))) m
def rd_unevenness (G : Ctx) (W : WX) : TS :=
  tRet (tCB (rDn G sumF) (tCons (tLc (iRng1 (tCons (tCB (rDn G lenF) (tCons (tVar 0) (tNil))) (tNil))) (gName 2) (tYes) (tOp (rD2 G mulF) (tCB (rDn G absF) (tCons (tOp (rD2 G subF) (tOp (rD2 G idxF) (tVar 0) (tVar 2)) (tOp (rD2 G mulF) (tC (.int 2)) (tOp (rD2 G idxF) (tVar 1) (tVar 2)))) (tNil))) (tOp (rD2 G subF) (tCB (rDn G lenF) (tCons (tVar 0) (tNil))) (tVar 2))) [2]) (tNil)))

theorem len_unevenness : ∀ es m R XR, S_unevenness es m R XR → es.length = 2 := by
  rintro es m R XR ⟨a, b, rfl, _⟩
  rfl
theorem sem_unevenness (G : Ctx) : BodyD G 3 (rd_unevenness G) S_unevenness := by
  rintro W es m R XR ⟨cs, ps, rfl, ok, hp, h⟩
  have hl := ok.l3
  have hpl := hp.len
  have hP := hp.ok
  unfold rd_unevenness
  walk_at "r"
  refine ⟨_, rfl, by omega, by omega, ?_⟩
  rw [Int.toNat_natCast]
  refine lcM (List.range cs.length) (fun k => .d (.int (0 + (k : Nat)))) (fun k => .int (absI (cs.getD k 0 - 2 * ps.getD k 0) * (((cs.length : Nat) : Int) - ((k : Nat) : Int)))) rfl (by rw [List.length_range]; omega) (fun k M hk hM => ⟨_, .name (by decide), ?_⟩) ?_
  · have hk := List.mem_range.mp hk
    have hb := hP.2 k hk
    have hc := le_sum ok.nn _ (getD_mem hk)
    have hs := ok.s
    walk_at "r"
    refine ⟨_, atI_is hk, ?_⟩
    walk_at "r"
    refine ⟨_, atI_is (by omega), ?_⟩
    walk_at "r"
    refine ⟨.inl ⟨by decide, by decide⟩, ?_⟩
    walk_at "r"
    refine ⟨.inl ⟨by split <;> omega, by split <;> omega⟩, ?_⟩
    refine ⟨rfl, ?_⟩
    rw [Int.zero_add]
    rfl
  · walk_at "r"
    refine ⟨(List.range cs.length).map fun k => absI (cs.getD k 0 - 2 * ps.getD k 0) * (((cs.length : Nat) : Int) - ((k : Nat) : Int)), by rw [List.map_map]; rfl, ?_⟩
    exact h
def S_parts : SpD := fun es m R _ => ∃ (cs : List Int), es = [.d (dTup cs)] ∧ CsOk cs ∧ R (.d (.lst ((partsN cs).map dTup))) m
def rd_parts (G : Ctx) (W : WX) : TS :=
  tSeq (tAsg (tLst (tCons (tTup (tNil)) (tNil))) (gName 1))
  (tSeq (tFor (iTup G.K (tVar 0)) (gName 2) (tSeq (tAsg (tLstO (tNil)) (gName 3))
  (tSeq (tFor (iList G.K (tVar 1)) (gName 4) (tDrop (tBM G.K "list" (rDM G extendF) (tVar 3) (tCons (tLc (iRng1 (tCons (tOp (rD2 G addF) (tVar 2) (tC (.int 1))) (tNil))) (gName 6) (tYes) (tOp (rD2 G addF) (tVar 4) (tTup (tCons (tVar 6) (tNil)))) [6]) (tNil)))))
  (tAsg (tVar 3) (gName 1)))))
  (tSeq (tAsg (tLc (iList G.K (tVar 1)) (gName 4) (tTest (tOp (rD2 G leF) (tVar 4) (tCB (rDn G tupleF) (tCons (tLc (iRng1 (tCons (tCB (rDn G lenF) (tCons (tVar 0) (tNil))) (tNil))) (gName 6) (tYes) (tOp (rD2 G subF) (tOp (rD2 G idxF) (tVar 0) (tVar 6)) (tOp (rD2 G idxF) (tVar 4) (tVar 6))) [6]) (tNil))))) (tVar 4) [4]) (gName 5))
  (tRet (tLc (iList G.K (tCB (rDn G sortPF) (tCons (tLc (iList G.K (tVar 5)) (gName 4) (tYes) (tTup (tCons (tCallS (spL G S_unevenness) (WE WF) (tCons (tVar 0) (tCons (tVar 4) (tNil)))) (tCons (tVar 4) (tNil)))) [4]) (tNil)))) (gTup G.K 2 (gCons (gName 7) (gCons (gName 4) (gNil)))) (tYes) (tVar 4) [7, 4]))))

theorem len_parts : ∀ es m R XR, S_parts es m R XR → es.length = 1 := by
  rintro es m R XR ⟨a, rfl, _⟩
  rfl
def oneP (c : Int) (p : List Int) : List (List Int) := (List.range (c + 1).toNat).map fun k => p ++ [((k : Nat) : Int)]
theorem pow13 {k : Nat} (h : k ≤ 3) : 13 ^ k ≤ 2197 := by
  have : 13 ^ k ≤ 13 ^ 3 := Nat.pow_le_pow_right (by decide) h
  simpa using this
theorem sem_parts (G : Ctx) : BodyD G 8 (rd_parts G) S_parts := by
  rintro W es m R XR ⟨cs, rfl, ok, h⟩
  have hl := ok.l3
  have hb12 : ∀ c ∈ cs, 0 ≤ c ∧ c ≤ 12 := fun c hc => ⟨ok.nn c hc, by have := le_sum ok.nn c hc; have := ok.s; omega⟩
  unfold rd_parts
  walk_at "r"
  refine forL cs (fun c => .d (.int c)) (fun pre ds' m' => m = m' ∧ ∃ o2 o3 o4, ds' = [some (.d (dTup cs)), some (.d (.lst ((allP pre).map dTup))), o2, o3, o4, none, none, none]) (by rw [List.map_map]; rfl) ⟨rfl, none, none, none, rfl⟩ ?_ ?_
  · rintro pre c post ds' m' e ⟨rfl, o2, o3, o4, rfl⟩
    have hc := hb12 c (by rw [e]; simp)
    have hpl : pre.length ≤ 2 := by
      have := congrArg List.length e
      simp at this
      omega
    have hal := allP_len pre fun x hx => hb12 x (by rw [e]; simp [hx])
    have hp13 := pow13 (k := pre.length) (by omega)
    walk_at "r"
    intro a ha
    refine st_seq ?_
    walk_at "r"
    refine forL (allP pre) (fun p => .d (dTup p)) (fun pr ds' m' => mset m a (.lst ((pr.flatMap (oneP c)).map dTup)) = m' ∧ ∃ o4, ds' = [some (.d (dTup cs)), some (.d (.lst ((allP pre).map dTup))), some (.d (.int c)), some (.r a), o4, none, none, none]) (by rw [List.map_map]; rfl) ⟨rfl, o4, rfl⟩ ?_ ?_
    · rintro pr p po ds' m' e2 ⟨rfl, o4, rfl⟩
      have hprl : pr.length ≤ 2197 := by
        have := congrArg List.length e2
        simp at this
        omega
      have hplen : p.length = pre.length := ((mem_allP p).mp (by rw [e2]; simp)).len
      have hfl : ((pr.flatMap (oneP c)).length) ≤ pr.length * 13 := by
        clear e2
        induction pr with
        | nil => simp
        | cons q pr ih =>
          rw [List.flatMap_cons, List.length_append, List.length_cons]
          have := ih (by rw [List.length_cons] at hprl; omega)
          have h1 : (oneP c q).length ≤ 13 := by unfold oneP; rw [List.length_map, List.length_range]; omega
          omega
      walk_at "r"
      refine ⟨⟨_, mset_same⟩, ?_⟩
      walk_at "r"
      refine ⟨_, rfl, by omega, by omega, ?_⟩
      refine lcM (List.range (c + 1).toNat) (fun k => .d (.int (0 + (k : Nat)))) (fun k => dTup (p ++ [((k : Nat) : Int)])) rfl (by rw [List.length_range]; omega) (fun k M hk hM => ⟨_, .name (by decide), ?_⟩) ?_
      · walk_at "r"
        refine ⟨by rw [List.length_map]; show p.length + 1 ≤ _; omega, ?_⟩
        refine ⟨rfl, ?_⟩
        rw [Int.zero_add, dTup, List.map_append]
        rfl
      walk_at "r"
      refine ⟨_, mset_same, by rw [List.length_map, List.length_map, List.length_range]; omega, ?_, _, rfl⟩
      rw [mset_mset, List.flatMap_append, List.map_append]
      congr 3
      simp only [List.flatMap_cons, List.flatMap_nil, List.append_nil, oneP, List.map_map]
      rfl
    · rintro ds' m' ⟨rfl, o4, rfl⟩
      refine st_asg (ev_varF rfl mset_same ?_)
      rw [mdel_mset ha]
      refine ⟨rfl, some (.d (.int c)), some (.r a), o4, ?_⟩
      rw [allP_app]
      rfl
  · rintro ds' m' ⟨rfl, o2, o3, o4, rfl⟩
    have hal := allP_len cs hb12
    have hp13 := pow13 hl
    walk_at "r"
    refine lcF (allP cs) (fun p => .d (dTup p)) (fun p => lexLeI p (compN cs p)) dTup (by rw [List.map_map]; rfl) (by omega) (fun p M hp hM => ⟨_, .name (by decide), ?_, fun _ => ?_⟩) ?_
    · have hP := (mem_allP p).mp hp
      walk_at "r"
      refine ⟨_, rfl, by omega, by omega, ?_⟩
      rw [Int.toNat_natCast]
      refine lcM (List.range cs.length) (fun k => .d (.int (0 + (k : Nat)))) (fun k => .int (cs.getD k 0 - p.getD k 0)) rfl (by rw [List.length_range]; omega) (fun k M hk hM => ⟨_, .name (by decide), ?_⟩) ?_
      · have hk := List.mem_range.mp hk
        walk_at "r"
        refine ⟨_, atI_is hk, ?_⟩
        walk_at "r"
        refine ⟨_, atI_is (by rw [hP.len]; exact hk), ?_⟩
        walk_at "r"
        exact rfl
      walk_at "r"
      refine ⟨p, compN cs p, rfl, by unfold compN; rw [List.map_map]; rfl, ?_⟩
      exact ⟨_, rfl, rfl, rfl⟩
    · walk_at "r"
      exact rfl
    have eH : D.lst (List.map dTup (List.filter (fun p => lexLeI p (compN cs p)) (allP cs))) = D.lst ((halfP cs).map dTup) := rfl
    rw [eH]
    have hhl : (halfP cs).length ≤ 2197 := Nat.le_trans (List.length_filter_le _ _) (by omega)
    walk_at "r"
    refine lcM (halfP cs) (fun p => .d (dTup p)) (fun p => encP (unevN cs p, p)) (by rw [List.map_map]; rfl) (by omega) (fun p M hp hM => ⟨_, .name (by decide), ?_⟩) ?_
    · have hP := (mem_allP p).mp (List.mem_filter.mp hp).1
      walk_at "r"
      refine ⟨cs, p, rfl, ok, hP, ?_⟩
      walk_at "r"
      exact rfl
    walk_at "r"
    refine ⟨pairsP cs, by unfold pairsP; rw [List.map_map]; rfl, fun qs hperm hsort => ?_⟩
    have eQ := sortQ_uniq hperm hsort
    subst eQ
    have hql : (sortQ (pairsP cs)).length ≤ 2197 := by rw [(sortQ_perm _).length_eq]; unfold pairsP; rw [List.length_map]; exact hhl
    walk_at "r"
    refine lcM (sortQ (pairsP cs)) (fun q => .d (encP q)) (fun q => dTup q.2) (by rw [List.map_map]; rfl) (by omega) (fun q M hq hM => ⟨_, .pair (by decide) (by decide), ?_⟩) ?_
    · walk_at "r"
      exact rfl
    · have := h
      unfold partsN at this
      rw [List.map_map] at this
      exact this
end Lb

/-! SmWk: the worker. -/
namespace Lb
open PySem L2
local macro_rules | `(tactic| walk_at "v") => `(tactic| ((with_reducible refine ev_var (d := ?dv) ?hv ?_); (case hv => exact rfl)))
local macro_rules | `(tactic| walk_at "f") => `(tactic| first
  | with_reducible refine f_in ?_
  | with_reducible refine f_notin ?_
  | with_reducible refine f_add_i ?_
  | with_reducible refine f_add_s ?_
  | with_reducible refine f_add_l ?_
  | with_reducible refine f_add_t ?_
  | with_reducible refine f_sub ?_
  | with_reducible refine f_mul_i ?_
  | with_reducible refine f_mul_l ?_
  | with_reducible refine f_mul_t ?_
  | with_reducible refine f_div ?_
  | with_reducible refine f_mod ?_
  | with_reducible refine f_pow ?_
  | with_reducible refine f_lt ?_
  | with_reducible refine f_le ?_
  | with_reducible refine f_gt ?_
  | with_reducible refine f_ge ?_
  | with_reducible refine f_eq_i ?_
  | with_reducible refine f_ne_i ?_
  | with_reducible refine f_eq_b ?_
  | with_reducible refine f_ne_b ?_
  | with_reducible refine f_is_n ?_
  | with_reducible refine f_isnot_n ?_
  | with_reducible refine f_is_i ?_
  | with_reducible refine f_isnot_i ?_
  | with_reducible refine f_is_b ?_
  | with_reducible refine f_isnot_b ?_
  | with_reducible refine f_is_s ?_
  | with_reducible refine f_isnot_s ?_
  | with_reducible refine f_is_l ?_
  | with_reducible refine f_isnot_l ?_
  | with_reducible refine f_is_t ?_
  | with_reducible refine f_isnot_t ?_
  | with_reducible refine f_is_r ?_
  | with_reducible refine f_isnot_r ?_
  | with_reducible refine f_is ?_
  | with_reducible refine f_isnot ?_
  | with_reducible refine f_neg ?_
  | with_reducible refine f_len_ml ?_
  | with_reducible refine f_len_mt ?_
  | with_reducible refine f_sum_l ?_
  | with_reducible refine f_sum_t ?_
  | with_reducible refine f_all ?_
  | with_reducible refine f_any ?_
  | with_reducible refine f_len_l ?_
  | with_reducible refine f_len_t ?_
  | with_reducible refine f_len_c ?_
  | with_reducible refine f_abs ?_
  | with_reducible refine f_min2 ?_
  | with_reducible refine f_max2 ?_
  | with_reducible refine f_list_l ?_
  | with_reducible refine f_list_t ?_
  | with_reducible refine f_tup_l ?_
  | with_reducible refine f_tup_t ?_
  | with_reducible refine f_int_i ?_
  | with_reducible refine f_int_b ?_
  | with_reducible refine f_sl_l ?_
  | with_reducible refine f_sl_t ?_
  | with_reducible refine f_tr_n ?_
  | with_reducible refine f_tr_b ?_
  | with_reducible refine f_tr_i ?_
  | with_reducible refine f_tr_l ?_
  | with_reducible refine f_tr_t ?_
  | with_reducible refine f_tr_c ?_)
local macro_rules | `(tactic| walk_at "m") => `(tactic| first
  | assumption
  | exact mset_same
  | ((refine (mset_ne ?_).trans ?_); (first | assumption | exact Ne.symm (by assumption)); walk_at "m"))
local macro_rules | `(tactic| walk_at "w") => `(tactic| first
  | walk_at "v"
  | with_reducible refine ev_rev ?_
  | with_reducible refine ev_sset ?_
  | with_reducible refine ev_lcl ?_
  | with_reducible refine ev_lct ?_
  | with_reducible refine ev_lcs ?_
  | with_reducible refine ev_lc1 ?_
  | with_reducible refine ev_lc2 ?_
  | with_reducible refine st_forl ?_
  | with_reducible refine st_fort ?_
  | with_reducible refine st_fors ?_
  | with_reducible refine st_for1 ?_
  | with_reducible refine st_for2 ?_
  | with_reducible refine ex_bl ?_
  | with_reducible refine ex_in ?_
  | with_reducible refine ex_ls ?_
  | with_reducible refine ex_tu ?_
  | with_reducible refine ex_st ?_
  | with_reducible refine ex_d0 ?_
  | with_reducible refine ex_d1 ?_
  | with_reducible refine ex_d2 ?_
  | with_reducible refine ex_d3 ?_
  | with_reducible refine ex_d4 ?_
  | with_reducible refine ex_d5 ?_
  | with_reducible refine ex_d6 ?_
  | with_reducible refine ex_d7 ?_
  | with_reducible refine ex_d8 ?_
  | with_reducible refine m_and ?_
  | with_reducible refine i_t ?_
  | with_reducible refine i_f ?_
  | with_reducible refine i_nt ?_
  | with_reducible refine i_nf ?_
  | with_reducible refine ev_fld ?_
  | ((with_reducible refine x_fld (fs := ?fs) (v := ?vv) ?hh ?ll ?_); (case hh => walk_at "m"); (case ll => exact rfl))
  | with_reducible refine ev_meth ?_
  | ((with_reducible refine x_meth (fs := ?fs) ?hh ?ll ?_); (case hh => walk_at "m"); (case ll => exact rfl))
  | with_reducible refine ev_make ?_
  | with_reducible refine st_fld ?_
  | ((with_reducible refine x_set (fs := ?fs) ?hh ?ll ?_); (case hh => walk_at "m"); (case ll => exact Nat.le_of_ble_eq_true rfl))
  | with_reducible refine ev_lstP ?_
  | with_reducible refine ev_dnew ?_
  | with_reducible refine st_dset ?_
  | with_reducible refine ev_tup ?_
  | with_reducible refine ev_lst ?_
  | with_reducible refine ev_int ?_
  | with_reducible refine ea_cons ?_
  | with_reducible refine ea_nil ?_
  | with_reducible refine ev_op ?_
  | with_reducible refine st_seq ?_
  | with_reducible refine st_asg ?_
  | with_reducible refine ev_call ?_
  | with_reducible refine ev_cb ?_
  | with_reducible refine st_if ?_
  | with_reducible refine et_test ?_
  | with_reducible refine et_not ?_
  | with_reducible refine et_or ?_
  | with_reducible refine et_and ?_
  | with_reducible refine et_tru ?_
  | with_reducible refine et_yes ?_
  | with_reducible refine et_B ?_
  | with_reducible refine ev_chain ?_
  | with_reducible refine ev_chain3 ?_
  | with_reducible refine ev_un ?_
  | with_reducible refine ev_if ?_
  | with_reducible refine ev_bl ?_
  | with_reducible refine ev_non ?_
  | with_reducible refine ev_str ?_
  | with_reducible refine ev_andV ?_
  | with_reducible refine ev_orV ?_
  | with_reducible refine ev_notV ?_
  | with_reducible refine ev_isB ?_
  | with_reducible refine ev_isE ?_
  | with_reducible refine ev_sl2 ?_
  | with_reducible refine ev_slA ?_
  | with_reducible refine ev_slB ?_
  | with_reducible refine ev_bmL ?_
  | with_reducible refine ev_bmL0 ?_
  | with_reducible refine st_ret ?_
  | with_reducible refine st_drop ?_
  | with_reducible refine st_next ?_
  | with_reducible refine st_setL ?_
  | with_reducible refine st_asgG ?_
  | with_reducible refine st_raise ?_
  | with_reducible refine gt_name ?_
  | with_reducible refine gt_tup2 ?_
  | with_reducible refine gt_tup3 ?_
  | walk_at "f")
local macro_rules | `(tactic| walk_at "r") => `(tactic| repeat walk_at "w")

def oP : Option (List Int) → D
  | none => .non
  | some p => dTup p
abbrev wrkF (d : Addr) : List (Str × DV) := [("known", .r d)]
structure WorkAt (m : Mu) (a d : Addr) (kvs : List (D × D)) : Prop where
  o : m a = some (.ins .worker (wrkF d))
  k : m d = some (.dic kvs)
theorem WorkAt.ad {m : Mu} {a d : Addr} {kvs : List (D × D)} (h : WorkAt m a d kvs) : a ≠ d := fun e => by have := h.k; rw [← e, h.o] at this; cases this
theorem WorkAt.put {m : Mu} {a d : Addr} {kvs kvs' : List (D × D)} (h : WorkAt m a d kvs) : WorkAt (mset m d (.dic kvs')) a d kvs' := ⟨by rw [mset_ne h.ad]; exact h.o, mset_same⟩
theorem m_same {m : Mu} {d : Addr} {o : MO} (h : m d = some o) : mset m d o = m := by
  funext x
  by_cases e : x = d
  · subst e; rw [mset_same, h]
  · rw [mset_ne e]
def S_Worker___init__ : SpD := fun es m R _ => ∃ (a : Addr), es = [.r a] ∧ m a = some (.ins .worker []) ∧ ∀ d m', m d = none → WorkAt m' a d [] → (∀ x, x ≠ a → x ≠ d → m' x = m x) → R (.d .non) m'
def rd_Worker___init__ (G : Ctx) (W : WX) : TS :=
  sFldD G .worker (tVar 0) (tDNew G) "known"

theorem len_Worker___init__ : ∀ es m R XR, S_Worker___init__ es m R XR → es.length = 1 := by
  rintro es m R XR ⟨a, rfl, _⟩
  rfl
theorem sem_Worker___init__ (G : Ctx) : BodyD G 1 (rd_Worker___init__ G) S_Worker___init__ := by
  rintro W es m R XR ⟨a, rfl, ha, h⟩
  unfold rd_Worker___init__
  walk_at "r"
  intro d hd
  have had := ne_new ha hd
  walk_at "r"
  refine h d _ hd ⟨mset_same, by rw [mset_ne had.symm, mset_same]⟩ fun x x1 x2 => ?_
  rw [mset_ne x1, mset_ne x2]
/-! ### its memo -/
theorem toKeys_map (xs : List D) : toKeys xs = xs.map toKey := by
  induction xs with
  | nil => rw [toKeys]; rfl
  | cons x xs ih => rw [toKeys, ih]; rfl
theorem isKeys_all (xs : List D) : isKeys xs = xs.all isKey := by
  induction xs with
  | nil => rw [isKeys]; rfl
  | cons x xs ih => rw [isKeys, ih]; rfl
theorem toKey_int (i : Int) : toKey (.int i) = .num i := by rw [toKey]
theorem toKey_tup (cs : List Int) : toKey (dTup cs) = .tup (cs.map .num) := by
  rw [toKey, toKeys_map, List.map_map]
  exact congrArg _ (List.map_congr_left fun i _ => toKey_int i)
theorem tup_inj {cs cs' : List Int} (h : toKey (dTup cs) = toKey (dTup cs')) : cs = cs' := by
  rw [toKey_tup, toKey_tup] at h
  injection h with h
  have := beq_nums cs cs'
  rw [h, NestedKey.beqAll_self] at this
  exact of_decide_eq_true this.symm
theorem isKey_tup (cs : List Int) : isKey (dTup cs) = true := by
  rw [isKey, isKeys_all]
  apply List.all_eq_true.mpr
  intro x hx
  obtain ⟨i, _, rfl⟩ := List.mem_map.mp hx
  rw [isKey]
theorem depth_tup (cs : List Int) : (toKey (dTup cs)).depth = 1 := by
  rw [toKey_tup, NestedKey.depth, depth_nums]
theorem tup_key (cs : List Int) : TupKey (dTup cs) := ⟨⟨_, rfl⟩, isKey_tup cs, by rw [depth_tup]; decide⟩
def wKey (k : List Int × Nat) : D := .tup [dTup k.1, .int (k.2 : Nat)]
def wVal (k : List Int × Nat) : D := oP (canW k.2 k.1)
def wOk (k : List Int × Nat) : Prop := CsOk k.1 ∧ k.2 < 64
theorem wKey_inj {k k' : List Int × Nat} (h : toKey (wKey k) = toKey (wKey k')) : k = k' := by
  obtain ⟨t, n⟩ := k
  obtain ⟨t', n'⟩ := k'
  unfold wKey at h
  rw [toKey, toKey, toKeys_map, toKeys_map] at h
  injection h with h
  simp only [List.map_cons, List.map_nil, List.cons.injEq] at h
  have h1 := tup_inj h.1
  have h2 := h.2.1
  rw [toKey_int, toKey_int] at h2
  injection h2 with h2
  rw [h1, show n = n' by omega]
theorem pair_key (cs : List Int) (n : Int) : TupKey (.tup [dTup cs, .int n]) := by
  refine ⟨⟨_, rfl⟩, ?_, ?_⟩
  · rw [isKey, isKeys_all]
    simp only [List.all_cons, List.all_nil, isKey_tup, Bool.true_and, Bool.and_true]
    rw [isKey]
  · rw [toKey, toKeys_map, NestedKey.depth]
    simp only [List.map_cons, List.map_nil, NestedKey.depthAll]
    rw [depth_tup, toKey_int, NestedKey.depth]
    decide
def codeC : List Int → Nat
  | [] => 0
  | c :: cs => (c.toNat + 1) + 14 * codeC cs
theorem codeC_lt : ∀ cs : List Int, (∀ c ∈ cs, 0 ≤ c ∧ c ≤ 12) → codeC cs < 14 ^ cs.length
  | [], _ => by decide
  | c :: cs, h => by
    have ih := codeC_lt cs fun x hx => h x (List.mem_cons_of_mem _ hx)
    have hc := h c List.mem_cons_self
    rw [codeC, List.length_cons, Nat.pow_succ]
    omega
theorem codeC_inj : ∀ cs cs' : List Int, (∀ c ∈ cs, 0 ≤ c ∧ c ≤ 12) → (∀ c ∈ cs', 0 ≤ c ∧ c ≤ 12) → codeC cs = codeC cs' → cs = cs'
  | [], [], _, _, _ => rfl
  | [], c :: cs', _, _, e => by rw [codeC, codeC] at e; omega
  | c :: cs, [], _, _, e => by rw [codeC, codeC] at e; omega
  | c :: cs, c' :: cs', h, h', e => by
    have d1 := h c List.mem_cons_self
    have d2 := h' c' List.mem_cons_self
    rw [codeC, codeC] at e
    rw [codeC_inj cs cs' (fun x hx => h x (List.mem_cons_of_mem _ hx)) (fun x hx => h' x (List.mem_cons_of_mem _ hx)) (by omega), show c = c' by omega]
theorem CsOk.b12 {cs : List Int} (ok : CsOk cs) : ∀ c ∈ cs, 0 ≤ c ∧ c ≤ 12 := fun c hc => ⟨ok.nn c hc, by have := le_sum ok.nn c hc; have := ok.s; omega⟩
theorem CsOk.code {cs : List Int} (ok : CsOk cs) : codeC cs < 2744 := by
  have := codeC_lt cs ok.b12
  have h2 : 14 ^ cs.length ≤ 14 ^ 3 := Nat.pow_le_pow_right (by decide) ok.l3
  have h3 : (14 : Nat) ^ 3 = 2744 := by decide
  omega
theorem memo_few {val : List Int × Nat → D} {good : List Int × Nat → Prop} {kvs : List (D × D)} (h : Memo wKey val wOk good kvs) : kvs.length ≤ 16000000 := by
  refine Nat.le_trans (h.len (code := fun k => codeC k.1 * 64 + k.2) (N := 2744 * 64) (fun k hk => ?_) (fun k k' hk hk' e => ?_)) (by decide)
  · have := hk.1.code
    have := hk.2
    omega
  · have := hk.2
    have := hk'.2
    have e1 : codeC k.1 = codeC k'.1 := by omega
    have e2 : k.2 = k'.2 := by omega
    have e3 := codeC_inj _ _ hk.1.b12 hk'.1.b12 e1
    obtain ⟨t, n⟩ := k
    obtain ⟨t', n'⟩ := k'
    dsimp only at e2 e3
    rw [e2, e3]
abbrev WMemo (kvs : List (D × D)) : Prop := Memo wKey wVal wOk (fun _ => True) kvs
def S_Worker_canAt (f : Nat) : SpD := fun es m R _ => ∃ (a d : Addr) (kvs : List (D × D)) (cs : List Int) (n : Nat), es = [.r a, .d (dTup cs), .d (.int n)] ∧ WorkAt m a d kvs ∧ WMemo kvs ∧ CsOk cs ∧ n < f ∧ n < 64 ∧ ∀ kvs', WMemo kvs' → R (.d (oP (canW n cs))) (mset m d (.dic kvs'))
def S_Worker_foundAt (f : Nat) : SpD := fun es m R _ => ∃ (a d : Addr) (kvs : List (D × D)) (cs : List Int) (n : Nat), es = [.r a, .d (dTup cs), .d (.int ((n + 1 : Nat) : Int))] ∧ WorkAt m a d kvs ∧ WMemo kvs ∧ CsOk cs ∧ n + 1 < f ∧ n + 1 < 64 ∧ 1 < cs.sum ∧ boundN cs ≤ n + 1 ∧ ∀ kvs', WMemo kvs' → R (.d (oP (canW (n + 1) cs))) (mset m d (.dic kvs'))
def rd_Worker_can (G : Ctx) (s_Worker_found : SpD) (W : WX) : TS :=
  tSeq (tIfS (tTest (tOp (rD2 G leF) (tCB (rDn G sumF) (tCons (tVar 1) (tNil))) (tC (.int 1)))) (tRet (tTup (tNil))) (tNext))
  (tSeq (tIfS (tTest (tOp (rD2 G ltF) (tVar 2) (tCallS (spL G S_bound) (WE W) (tCons (tVar 1) (tNil))))) (tRet (tC .non)) (tNext))
  (tSeq (tAsg (tTup (tCons (tVar 1) (tCons (tVar 2) (tNil)))) (gName 3))
  (tSeq (tIfS (tTest (tOp (rD2 G notinD) (tVar 3) (tFldD G .worker (tVar 0) "known"))) (sDSet G (tFldD G .worker (tVar 0) "known") (tVar 3) (tMethD G .worker "found" (spL G s_Worker_found) (WE W) (tVar 0) (tCons (tVar 1) (tCons (tVar 2) (tNil))))) (tNext))
  (tRet (tOp (rD2 G idxD) (tFldD G .worker (tVar 0) "known") (tVar 3))))))

def rd_Worker_found (G : Ctx) (s_Worker_can : SpD) (W : WX) : TS :=
  tSeq (tFor (iList G.K (tCallS (spL G S_parts) (WE W) (tCons (tVar 1) (tNil)))) (gName 3) (tSeq (tAsg (tCallS (spL G S_behind) (WE W) (tCons (tVar 1) (tCons (tVar 3) (tNil)))) (gTup G.K 2 (gCons (gName 4) (gCons (gName 5) (gNil)))))
  (tIfS (tAnd (tTest (tOp (rD2 G isnotF) (tMethD G .worker "can" (spL G s_Worker_can) (WE W) (tVar 0) (tCons (tVar 4) (tCons (tOp (rD2 G subF) (tVar 2) (tC (.int 1))) (tNil)))) (tC .non))) (tTest (tOp (rD2 G isnotF) (tMethD G .worker "can" (spL G s_Worker_can) (WE W) (tVar 0) (tCons (tVar 5) (tCons (tOp (rD2 G subF) (tVar 2) (tC (.int 1))) (tNil)))) (tC .non)))) (tRet (tVar 3)) (tNext))))
  (tRet (tC .non))

theorem len_Worker_can (f : Nat) : ∀ es m R XR, S_Worker_canAt f es m R XR → es.length = 3 := by
  rintro es m R XR ⟨a, b, c, d, e, rfl, _⟩
  rfl
theorem len_Worker_found (f : Nat) : ∀ es m R XR, S_Worker_foundAt f es m R XR → es.length = 3 := by
  rintro es m R XR ⟨a, b, c, d, e, rfl, _⟩
  rfl
theorem no_Worker_can {es : List DV} {m : Mu} {R : DV → Mu → Prop} {XR : Tag → Mu → Prop} (h : S_Worker_canAt 0 es m R XR) : False := by
  obtain ⟨_, _, _, _, n, _, _, _, _, h, _⟩ := h
  omega
def S_Worker_can : SpD := S_Worker_canAt 62
theorem sem_Worker_can (G : Ctx) (f : Nat) : BodyD G 4 (rd_Worker_can G (S_Worker_foundAt f)) (S_Worker_canAt f) := by
  rintro W es m R XR ⟨a, d, kvs, cs, n, rfl, hA, hM, ok, hf, hn, h⟩
  have ho := hA.o
  have hk := hA.k
  have had := hA.ad
  have hl3 := ok.l3
  unfold rd_Worker_can
  walk_at "r"
  refine i_d (fun c => ?_) (fun c => ?_)
  · walk_at "r"
    have e : canW n cs = some [] := by cases n <;> (rw [canW, if_pos c])
    have := h kvs hM
    rw [e, m_same hk] at this
    exact this
  · walk_at "r"
    refine ⟨cs, rfl, by omega, fun z => absurd ok.counts z, fun _ => ?_⟩
    walk_at "r"
    refine i_d (fun c2 => ?_) (fun c2 => ?_)
    · walk_at "r"
      have e : canW n cs = none := by
        cases n with
        | zero => rw [canW, if_neg c]
        | succ n => rw [canW, if_neg c, if_pos (by omega)]
      have := h kvs hM
      rw [e, m_same hk] at this
      exact this
    · have hb := bound_pos (cs := cs) (by omega)
      obtain ⟨k, rfl⟩ : ∃ k, n = k + 1 := ⟨n - 1, by omega⟩
      walk_at "r"
      refine ⟨kvs, hk, pair_key cs _, ?_⟩
      cases e : dgetN kvs (wKey (cs, k + 1)) with
      | none =>
        rw [show dgetN kvs (D.tup [dTup cs, D.int ((k + 1 : Nat) : Int)]) = none from e]
        refine ex_bl (i_t ?_)
        walk_at "r"
        refine ⟨a, d, kvs, cs, k, rfl, hA, hM, ok, hf, hn, by omega, by omega, fun kvs' hM' => ?_⟩
        have hA' := hA.put (kvs' := kvs')
        have ho' := hA'.o
        walk_at "r"
        refine ⟨d, _, _, kvs', rfl, rfl, rfl, mset_same, pair_key cs _, memo_few hM', ?_⟩
        have hM2 : WMemo (dputN kvs' (wKey (cs, k + 1)) (oP (canW (k + 1) cs))) := hM'.putV (fun _ _ _ _ z => wKey_inj z) (k := (cs, k + 1)) ⟨ok, hn⟩ (fun _ => rfl) (fun _ _ _ _ => trivial)
        rw [mset_mset]
        have hA2 := hA.put (kvs' := dputN kvs' (wKey (cs, k + 1)) (oP (canW (k + 1) cs)))
        have ho2 := hA2.o
        walk_at "r"
        exact ⟨_, _, mset_same, pair_key cs _, dget_put, h _ hM2⟩
      | some v =>
        rw [show dgetN kvs (D.tup [dTup cs, D.int ((k + 1 : Nat) : Int)]) = some v from e]
        refine ex_bl (i_f ?_)
        walk_at "r"
        refine ⟨_, _, hk, pair_key cs _, e, ?_⟩
        have ev := hM.get (fun _ _ _ _ z => wKey_inj z) (k := (cs, k + 1)) ⟨ok, hn⟩ trivial e
        rw [ev]
        have := h kvs hM
        rw [m_same hk] at this
        exact this
theorem find_pre {α : Type} {c : α → Bool} {pre : List α} {x : α} {post : List α} (h1 : ∀ y ∈ pre, c y = false) (h2 : c x = true) : (pre ++ x :: post).find? c = some x := by
  rw [List.find?_append, List.find?_eq_none.mpr fun y hy => by rw [h1 y hy]; exact Bool.false_ne_true, List.find?_cons_of_pos h2]
  rfl
theorem sem_Worker_found (G : Ctx) (f : Nat) : BodyD G 6 (rd_Worker_found G (S_Worker_canAt f)) (S_Worker_foundAt (f + 1)) := by
  rintro W es m R XR ⟨a, d, kvs, cs, n, rfl, hA, hM, ok, hf, hn, h2, hb, h⟩
  have had := hA.ad
  have hl3 := ok.l3
  have eC : canW (n + 1) cs = (partsN cs).find? fun p => (canW n (yesL 0 cs p)).isSome && (canW n (noL 0 cs p)).isSome := by rw [canW, if_neg (by omega), if_neg (by omega)]
  unfold rd_Worker_found
  walk_at "r"
  refine ⟨cs, rfl, ok, ?_⟩
  walk_at "r"
  refine forL (partsN cs) (fun p => .d (dTup p)) (fun pre ds' m' => (∀ p ∈ pre, ((canW n (yesL 0 cs p)).isSome && (canW n (noL 0 cs p)).isSome) = false) ∧ ∃ kvs' o3 o4 o5, WMemo kvs' ∧ m' = mset m d (.dic kvs') ∧ ds' = [some (.r a), some (.d (dTup cs)), some (.d (.int ((n + 1 : Nat) : Int))), o3, o4, o5]) (by rw [List.map_map]; rfl) ⟨(fun _ z => nomatch z), kvs, none, none, none, hM, (m_same hA.k).symm, rfl⟩ ?_ ?_
  · rintro pre p post ds' m' epre ⟨hno, kvs', o3, o4, o5, hM', rfl, rfl⟩
    have hP := (mem_partsN.mp (show p ∈ partsN cs by rw [epre]; simp)).1
    have hA' := hA.put (kvs' := kvs')
    have ho' := hA'.o
    have okY := ok.yes hP
    have okN := ok.no hP
    walk_at "r"
    refine ⟨cs, p, rfl, by omega, by rw [hP.len]; omega, fun z => absurd ok.counts z, fun _ z => absurd hP.ok z, fun _ _ => ?_⟩
    walk_at "r"
    rw [show ((n + 1 : Nat) : Int) - 1 = ((n : Nat) : Int) by omega]
    refine ⟨a, d, kvs', _, n, rfl, hA', hM', okY, by omega, by omega, fun kvs2 hM2 => ?_⟩
    rw [mset_mset]
    have hA2 := hA.put (kvs' := kvs2)
    have ho2 := hA2.o
    have fail : ∀ kvs3, WMemo kvs3 → ((canW n (yesL 0 cs p)).isSome && (canW n (noL 0 cs p)).isSome) = false → (∀ q ∈ pre ++ [p], ((canW n (yesL 0 cs q)).isSome && (canW n (noL 0 cs q)).isSome) = false) ∧ ∃ kvs' o3 o4 o5, WMemo kvs' ∧ mset m d (.dic kvs3) = mset m d (.dic kvs') ∧ [some (.r a), some (.d (dTup cs)), some (.d (.int ((n + 1 : Nat) : Int))), some (.d (dTup p)), some (.d (dTup (yesL 0 cs p))), some (.d (dTup (noL 0 cs p)))] = [some (DV.r a), some (.d (dTup cs)), some (.d (.int ((n + 1 : Nat) : Int))), o3, o4, o5] := by
      intro kvs3 h3 hc
      refine ⟨fun q hq => ?_, kvs3, _, _, _, h3, rfl, rfl⟩
      rcases List.mem_append.mp hq with z | z
      · exact hno q z
      · rw [List.mem_singleton.mp z]; exact hc
    cases e1 : canW n (yesL 0 cs p) with
    | none =>
      dsimp only [oP]
      walk_at "r"
      exact fail kvs2 hM2 (by rw [e1]; rfl)
    | some p1 =>
      dsimp only [oP]
      walk_at "r"
      rw [show ((n + 1 : Nat) : Int) - 1 = ((n : Nat) : Int) by omega]
      refine ⟨a, d, kvs2, _, n, rfl, hA2, hM2, okN, by omega, by omega, fun kvs3 hM3 => ?_⟩
      rw [mset_mset]
      cases e2 : canW n (noL 0 cs p) with
      | none =>
        dsimp only [oP]
        walk_at "r"
        exact fail kvs3 hM3 (by rw [e1, e2]; rfl)
      | some p2 =>
        dsimp only [oP]
        walk_at "r"
        have := h kvs3 hM3
        rw [eC, epre, find_pre hno (by rw [e1, e2]; rfl)] at this
        exact this
  · rintro ds' m' ⟨hno, kvs', o3, o4, o5, hM', rfl, rfl⟩
    walk_at "r"
    have := h kvs' hM'
    rw [eC, List.find?_eq_none.mpr fun q hq => by rw [hno q hq]; exact Bool.false_ne_true] at this
    exact this
/-! ### the fewest -/
def S_least : SpD := fun es m R XR => ∃ (cs : List Int), es = [.d (dTup cs)] ∧ cs.length ≤ 1000 ∧ (¬ Small cs → XR .counts m) ∧ (Small cs → R (.d (.int (leastW cs : Nat))) m)
def rd_least (G : Ctx) (W : WX) : TS :=
  tSeq (tDrop (tCallS (spL G S_look_small) (WE W) (tCons (tVar 0) (tNil))))
  (tSeq (tAsg (tMakeS G .worker (spL G S_Worker___init__) (WE W) (tNil)) (gName 1))
  (tSeq (tAsg (tCallS (spL G S_bound) (WE W) (tCons (tVar 0) (tNil))) (gName 2))
  (tSeq (tWhile (tTest (tOp (rD2 G isF) (tMethD G .worker "can" (spL G S_Worker_can) (WE W) (tVar 1) (tCons (tCB (rDn G tupleF) (tCons (tVar 0) (tNil))) (tCons (tVar 2) (tNil)))) (tC .non))) (tAsg (tOp (rD2 G addF) (tVar 2) (tC (.int 1))) (gName 2)))
  (tRet (tVar 2)))))

theorem len_least : ∀ es m R XR, S_least es m R XR → es.length = 1 := by
  rintro es m R XR ⟨a, rfl, _⟩
  rfl
theorem sem_least (G : Ctx) : BodyD G 3 (rd_least G) S_least := by
  rintro W es m R XR ⟨cs, rfl, hl, h1, h2⟩
  unfold rd_least
  walk_at "r"
  refine ⟨cs, rfl, hl, fun sm => ?_, h1⟩
  have hh := h2 sm
  have ok := sm.ok
  have hle := leastW_le ok
  have hbl := bound_least ok
  walk_at "r"
  intro a ha
  refine ⟨a, rfl, mset_same, fun d m1 hd hA fr => ⟨rfl, ?_⟩⟩
  obtain ⟨hda, hdm⟩ := none_mset hd
  have hsub : ∀ kvs, Sub m (mset m1 d (.dic kvs)) := fun kvs x => by
    by_cases x1 : x = d
    · subst x1; exact .inl hdm
    · rw [mset_ne x1]
      by_cases x2 : x = a
      · subst x2; exact .inl ha
      · rw [fr x x2 x1, mset_ne x2]; exact .inr rfl
  walk_at "r"
  refine ⟨cs, rfl, hl, fun z => absurd ok.counts z, fun _ => ?_⟩
  walk_at "r"
  refine st_while (fun f ds' m' => ∃ n kvs, n + f = leastW cs ∧ WMemo kvs ∧ m' = mset m1 d (.dic kvs) ∧ ds' = [some (.d (dTup cs)), some (.r a), some (.d (.int (n : Nat)))]) (leastW cs - boundN cs) ⟨boundN cs, [], by omega, Memo.nil, (m_same hA.k).symm, rfl⟩ ?_
  rintro f ds' m' ⟨n, kvs, hf, hM, rfl, rfl⟩
  have hA' := hA.put (kvs' := kvs)
  have ho' := hA'.o
  walk_at "r"
  refine ⟨a, d, kvs, cs, n, rfl, hA', hM, ok, by omega, by omega, fun kvs2 hM2 => ?_⟩
  rw [mset_mset]
  have key := leastW_spec ok n
  rw [← can_iff n cs ok.nn] at key
  cases e : canW n cs with
  | none =>
    dsimp only [oP]
    walk_at "r"
    rw [e] at key
    have : ¬ leastW cs ≤ n := fun z => by have := key.mpr z; cases this
    exact ⟨f - 1, by omega, n + 1, kvs2, by omega, hM2, rfl, by rw [show ((n : Int) + 1) = ((n + 1 : Nat) : Int) by omega]; rfl⟩
  | some p =>
    dsimp only [oP]
    refine ev_non (f_is_t (ex_bl (i_f ?_)))
    rw [e] at key
    have hn : n = leastW cs := by have := key.mp rfl; omega
    refine st_ret (ev_drop ?_)
    walk_at "r"
    refine ⟨m, hsub _, ?_⟩
    rw [hn]
    exact hh
end Lb

/-! Ma50: counts behind a question of a game. -/
namespace Lb
open PySem L2
def partQ (n l : Nat) (row : List QA) (q : List Int) : List Int := (List.range (l + 1)).map fun k => (((List.range n).countP fun t => decide (((t : Nat) : Int) ∈ q) && decide (liesN row ((t : Nat) : Int) = k) : Nat) : Int)
theorem cnt_yes (a : Nat → Bool) (L L' : Nat → Nat) (hL : ∀ t, L' t = L t + if a t = true then 0 else 1) (k : Nat) : ∀ ts : List Nat, ((ts.countP fun t => decide (L' t = k) : Nat) : Int) = ((ts.countP fun t => a t && decide (L t = k) : Nat) : Int) + (if 0 < k then ((ts.countP fun t => decide (L t = k - 1) : Nat) : Int) - ((ts.countP fun t => a t && decide (L t = k - 1) : Nat) : Int) else 0)
  | [] => by simp
  | t :: ts => by
    have ih := cnt_yes a L L' hL k ts
    have h := hL t
    simp only [List.countP_cons, Bool.and_eq_true, decide_eq_true_eq]
    cases e : a t with
    | true =>
      rw [e] at h
      simp only [if_true] at h
      by_cases h0 : 0 < k
      · simp only [h0, if_true] at ih ⊢
        by_cases c1 : L t = k
        · have c2 : ¬ L t = k - 1 := by omega
          have c3 : L' t = k := by omega
          simp only [c1, c2, c3, if_true, if_false, and_true, and_false, true_and]
          simp; omega
        · have c3 : ¬ L' t = k := by omega
          by_cases c2 : L t = k - 1
          · have c4 : ¬ k - 1 = k := by omega
            simp [c2, c3, c4]; omega
          · simp [c1, c2, c3]; omega
      · simp only [h0, if_false] at ih ⊢
        by_cases c1 : L t = k
        · have c3 : L' t = k := by omega
          simp [c1, c3]; omega
        · have c3 : ¬ L' t = k := by omega
          simp [c1, c3]; omega
    | false =>
      rw [e] at h
      simp only [Bool.false_eq_true, if_false] at h
      by_cases h0 : 0 < k
      · simp only [h0, if_true] at ih ⊢
        by_cases c2 : L t = k - 1
        · have c3 : L' t = k := by omega
          simp [c2, c3]; omega
        · have c3 : ¬ L' t = k := by omega
          simp [c2, c3]; omega
      · simp only [h0, if_false] at ih ⊢
        have c3 : ¬ L' t = k := by omega
        simp [c3]; omega
theorem cnt_split (a : Nat → Bool) (L : Nat → Nat) (k : Nat) : ∀ ts : List Nat, ts.countP (fun t => decide (L t = k)) = ts.countP (fun t => a t && decide (L t = k)) + ts.countP (fun t => !a t && decide (L t = k))
  | [] => rfl
  | t :: ts => by
    have ih := cnt_split a L k ts
    simp only [List.countP_cons]
    cases e : a t <;> by_cases c : L t = k <;> simp [c] <;> omega
theorem counts_len (n l : Nat) (row : List QA) : (countsN n l row).length = l + 1 := by unfold countsN; simp
theorem partQ_len (n l : Nat) (row : List QA) (q : List Int) : (partQ n l row q).length = l + 1 := by unfold partQ; simp
theorem counts_get {n l k : Nat} {row : List QA} (h : k ≤ l) : (countsN n l row).getD k 0 = (((List.range n).countP fun t => decide (liesN row ((t : Nat) : Int) = k) : Nat) : Int) := by
  unfold countsN
  rw [List.getD_eq_getElem?_getD, List.getElem?_map, List.getElem?_range (by omega)]
  rfl
theorem partQ_get {n l k : Nat} {row : List QA} {q : List Int} (h : k ≤ l) : (partQ n l row q).getD k 0 = (((List.range n).countP fun t => decide (((t : Nat) : Int) ∈ q) && decide (liesN row ((t : Nat) : Int) = k) : Nat) : Int) := by
  unfold partQ
  rw [List.getD_eq_getElem?_getD, List.getElem?_map, List.getElem?_range (by omega)]
  rfl
theorem partQ_ok (n l : Nat) (row : List QA) (q : List Int) : PartL (countsN n l row) (partQ n l row q) := by
  refine PartL.of ⟨by rw [counts_len, partQ_len], fun k hk => ?_⟩
  rw [counts_len] at hk
  rw [counts_get (by omega), partQ_get (by omega)]
  have := cnt_split (fun t => decide (((t : Nat) : Int) ∈ q)) (fun t => liesN row ((t : Nat) : Int)) k (List.range n)
  omega
theorem yes_row (n l : Nat) (row : List QA) (q : List Int) : yesL 0 (countsN n l row) (partQ n l row q) = countsN n l (row ++ [(q, true)]) := by
  rw [yes_at 0 _ _ (by rw [counts_len, partQ_len]), counts_len]
  conv => rhs; unfold countsN
  apply List.map_congr_left
  intro k hk
  have hk := List.mem_range.mp hk
  have := cnt_yes (fun t => decide (((t : Nat) : Int) ∈ q)) (fun t => liesN row ((t : Nat) : Int)) (fun t => liesN (row ++ [(q, true)]) ((t : Nat) : Int)) (fun t => by
    rw [lies_app]
    by_cases c : ((t : Nat) : Int) ∈ q <;> simp [c]) k (List.range n)
  rw [this, partQ_get (by omega)]
  by_cases h0 : 0 < k
  · rw [if_pos h0, if_pos h0, counts_get (by omega), partQ_get (by omega)]
  · rw [if_neg h0, if_neg h0]
theorem no_row (n l : Nat) (row : List QA) (q : List Int) : noL 0 (countsN n l row) (partQ n l row q) = countsN n l (row ++ [(q, false)]) := by
  rw [no_at 0 _ _ (by rw [counts_len, partQ_len]), counts_len]
  conv => rhs; unfold countsN
  apply List.map_congr_left
  intro k hk
  have hk := List.mem_range.mp hk
  have := cnt_yes (fun t => !decide (((t : Nat) : Int) ∈ q)) (fun t => liesN row ((t : Nat) : Int)) (fun t => liesN (row ++ [(q, false)]) ((t : Nat) : Int)) (fun t => by
    rw [lies_app]
    by_cases c : ((t : Nat) : Int) ∈ q <;> simp [c]) k (List.range n)
  have s1 := cnt_split (fun t => decide (((t : Nat) : Int) ∈ q)) (fun t => liesN row ((t : Nat) : Int)) k (List.range n)
  have s2 := cnt_split (fun t => decide (((t : Nat) : Int) ∈ q)) (fun t => liesN row ((t : Nat) : Int)) (k - 1) (List.range n)
  rw [this, counts_get (by omega), partQ_get (by omega)]
  by_cases h0 : 0 < k
  · rw [if_pos h0, if_pos h0, partQ_get (by omega)]
    omega
  · rw [if_neg h0, if_neg h0]
    omega
theorem cnt_sum (L : Nat → Nat) : ∀ (l : Nat) (ts : List Nat), ((List.range (l + 1)).map fun k => ((ts.countP fun t => decide (L t = k) : Nat) : Int)).sum = ((ts.countP fun t => decide (L t ≤ l) : Nat) : Int)
  | 0, ts => by
    simp
  | l + 1, ts => by
    rw [List.range_succ, List.map_append, List.sum_append, cnt_sum L l ts]
    simp only [List.map_cons, List.map_nil, List.sum_cons, List.sum_nil]
    have : ∀ ts : List Nat, ts.countP (fun t => decide (L t ≤ l)) + ts.countP (fun t => decide (L t = l + 1)) = ts.countP (fun t => decide (L t ≤ l + 1)) := by
      intro ts
      induction ts with
      | nil => rfl
      | cons t ts ih =>
        simp only [List.countP_cons, decide_eq_true_eq]
        by_cases c1 : L t ≤ l
        · rw [if_pos c1, if_neg (by omega), if_pos (show L t ≤ l + 1 by omega)]; omega
        · by_cases c2 : L t = l + 1
          · rw [if_neg c1, if_pos c2, if_pos (show L t ≤ l + 1 by omega)]; omega
          · rw [if_neg c1, if_neg c2, if_neg (show ¬ L t ≤ l + 1 by omega)]; omega
    have := this ts
    omega
theorem counts_sum (n l : Nat) (row : List QA) : (countsN n l row).sum = ((leftN n l row).length : Nat) := by
  unfold countsN leftN
  rw [cnt_sum (fun t => liesN row ((t : Nat) : Int)) l, List.length_map, List.countP_eq_length_filter]
theorem left_len (n l : Nat) (row : List QA) : (leftN n l row).length ≤ n := by
  unfold leftN
  rw [List.length_map]
  exact Nat.le_trans (List.length_filter_le _ _) (by rw [List.length_range]; exact Nat.le_refl _)
theorem counts_ok {n l : Nat} (row : List QA) (hn : n ≤ 12) (hl : l ≤ 2) : CsOk (countsN n l row) := by
  refine ⟨fun c hc => ?_, ?_, by rw [counts_len]; omega, by rw [counts_len]; omega⟩
  · unfold countsN at hc
    obtain ⟨k, _, rfl⟩ := List.mem_map.mp hc
    omega
  · rw [counts_sum]
    have := left_len n l row
    omega
theorem left_none {n l : Nat} {row : List QA} : leftN n l row = [] ↔ ∀ t : Nat, t < n → l < liesN row t := by
  unfold leftN
  rw [List.map_eq_nil_iff, List.filter_eq_nil_iff]
  constructor
  · intro h t ht
    have := h t (List.mem_range.mpr ht)
    rw [decide_eq_true_eq] at this
    omega
  · intro h t ht
    have := h t (List.mem_range.mp ht)
    rw [decide_eq_true_eq]
    omega
theorem left_one {n l : Nat} {row : List QA} (q : List Int) (h : leftN n l row ≠ []) : leftN n l (row ++ [(q, true)]) ≠ [] ∨ leftN n l (row ++ [(q, false)]) ≠ [] := by
  by_cases c : leftN n l (row ++ [(q, true)]) = []
  · refine .inr fun c2 => h (left_none.mpr fun t ht => ?_)
    have h1 := left_none.mp c t ht
    have h2 := left_none.mp c2 t ht
    rw [lies_app] at h1 h2
    by_cases e : ((t : Nat) : Int) ∈ q
    · simp [e] at h1; exact h1
    · simp [e] at h2; exact h2
  · exact .inl c
theorem least_step {cs p : List Int} (h : CsOk cs) (hp : PartL cs p) : leastW cs ≤ max (leastW (yesL 0 cs p)) (leastW (noL 0 cs p)) + 1 := by
  refine (leastW_spec h _).mp ?_
  rw [canB, Bool.or_eq_true]
  refine .inr (List.any_eq_true.mpr ⟨p, (mem_allP p).mpr hp, ?_⟩)
  rw [(leastW_spec (h.yes hp) _).mpr (Nat.le_max_left _ _), (leastW_spec (h.no hp) _).mpr (Nat.le_max_right _ _)]
  rfl
theorem least_few {cs : List Int} (h : CsOk cs) (hs : cs.sum ≤ 1) : leastW cs = 0 := by
  have := (leastW_spec h 0).mp (by rw [canB]; exact decide_eq_true hs)
  omega
/-- the foe's choice -/
def choice (ys ns : List Int) : Bool := decide ((((leastW ns : Nat) : Int) < ((leastW ys : Nat) : Int)) ∨ ((leastW ns : Nat) : Int) = ((leastW ys : Nat) : Int) ∧ ns.sum ≤ ys.sum)
def ansF (n l : Nat) (row : List QA) (q : List Int) : Bool := choice (countsN n l (row ++ [(q, true)])) (countsN n l (row ++ [(q, false)]))
theorem ans_left {n l : Nat} {row : List QA} {q : List Int} (hn : n ≤ 12) (hl : l ≤ 2) (h : leftN n l row ≠ []) : leftN n l (row ++ [(q, ansF n l row q)]) ≠ [] := by
  have h1 := left_one q h
  have oY := counts_ok (row ++ [(q, true)]) hn hl
  have oN := counts_ok (row ++ [(q, false)]) hn hl
  have sY := counts_sum n l (row ++ [(q, true)])
  have sN := counts_sum n l (row ++ [(q, false)])
  have pos : ∀ r, leftN n l r ≠ [] → 1 ≤ (leftN n l r).length := fun r hr => by
    cases e : leftN n l r with
    | nil => exact absurd e hr
    | cons _ _ => rw [List.length_cons]; omega
  cases e : ansF n l row q with
  | true =>
    intro c
    have w := of_decide_eq_true e
    rw [c, List.length_nil] at sY
    have lY := least_few oY (by omega)
    rcases h1 with h1 | h1
    · exact h1 c
    · have := pos _ h1
      omega
  | false =>
    intro c
    have w := of_decide_eq_false e
    rw [c, List.length_nil] at sN
    have lN := least_few oN (by omega)
    rcases h1 with h1 | h1
    · have := pos _ h1
      omega
    · exact h1 c
theorem ans_least {n l : Nat} {row : List QA} {q : List Int} (hn : n ≤ 12) (hl : l ≤ 2) : leastW (countsN n l row) ≤ leastW (countsN n l (row ++ [(q, ansF n l row q)])) + 1 := by
  have := least_step (counts_ok row hn hl) (partQ_ok n l row q)
  rw [yes_row, no_row] at this
  cases e : ansF n l row q with
  | true =>
    have w := of_decide_eq_true e
    omega
  | false =>
    have w := of_decide_eq_false e
    omega
end Lb

/-! SmFo: foes. -/
namespace Lb
open PySem L2
local macro_rules | `(tactic| walk_at "v") => `(tactic| ((with_reducible refine ev_var (d := ?dv) ?hv ?_); (case hv => exact rfl)))
local macro_rules | `(tactic| walk_at "f") => `(tactic| first
  | with_reducible refine f_in ?_
  | with_reducible refine f_notin ?_
  | with_reducible refine f_add_i ?_
  | with_reducible refine f_add_s ?_
  | with_reducible refine f_add_l ?_
  | with_reducible refine f_add_t ?_
  | with_reducible refine f_sub ?_
  | with_reducible refine f_mul_i ?_
  | with_reducible refine f_mul_l ?_
  | with_reducible refine f_mul_t ?_
  | with_reducible refine f_div ?_
  | with_reducible refine f_mod ?_
  | with_reducible refine f_pow ?_
  | with_reducible refine f_lt ?_
  | with_reducible refine f_le ?_
  | with_reducible refine f_gt ?_
  | with_reducible refine f_ge ?_
  | with_reducible refine f_eq_i ?_
  | with_reducible refine f_ne_i ?_
  | with_reducible refine f_eq_b ?_
  | with_reducible refine f_ne_b ?_
  | with_reducible refine f_is_n ?_
  | with_reducible refine f_isnot_n ?_
  | with_reducible refine f_is_i ?_
  | with_reducible refine f_isnot_i ?_
  | with_reducible refine f_is_b ?_
  | with_reducible refine f_isnot_b ?_
  | with_reducible refine f_is_s ?_
  | with_reducible refine f_isnot_s ?_
  | with_reducible refine f_is_l ?_
  | with_reducible refine f_isnot_l ?_
  | with_reducible refine f_is_t ?_
  | with_reducible refine f_isnot_t ?_
  | with_reducible refine f_is_r ?_
  | with_reducible refine f_isnot_r ?_
  | with_reducible refine f_is ?_
  | with_reducible refine f_isnot ?_
  | with_reducible refine f_neg ?_
  | with_reducible refine f_len_ml ?_
  | with_reducible refine f_len_mt ?_
  | with_reducible refine f_sum_l ?_
  | with_reducible refine f_sum_t ?_
  | with_reducible refine f_all ?_
  | with_reducible refine f_any ?_
  | with_reducible refine f_len_l ?_
  | with_reducible refine f_len_t ?_
  | with_reducible refine f_len_c ?_
  | with_reducible refine f_abs ?_
  | with_reducible refine f_min2 ?_
  | with_reducible refine f_max2 ?_
  | with_reducible refine f_list_l ?_
  | with_reducible refine f_list_t ?_
  | with_reducible refine f_tup_l ?_
  | with_reducible refine f_tup_t ?_
  | with_reducible refine f_int_i ?_
  | with_reducible refine f_int_b ?_
  | with_reducible refine f_sl_l ?_
  | with_reducible refine f_sl_t ?_
  | with_reducible refine f_tr_n ?_
  | with_reducible refine f_tr_b ?_
  | with_reducible refine f_tr_i ?_
  | with_reducible refine f_tr_l ?_
  | with_reducible refine f_tr_t ?_
  | with_reducible refine f_tr_c ?_)
local macro_rules | `(tactic| walk_at "m") => `(tactic| first
  | assumption
  | exact mset_same
  | ((refine (mset_ne ?_).trans ?_); (first | assumption | exact Ne.symm (by assumption)); walk_at "m"))
local macro_rules | `(tactic| walk_at "w") => `(tactic| first
  | walk_at "v"
  | with_reducible refine ev_rev ?_
  | with_reducible refine ev_sset ?_
  | with_reducible refine ev_lcl ?_
  | with_reducible refine ev_lct ?_
  | with_reducible refine ev_lcs ?_
  | with_reducible refine ev_lc1 ?_
  | with_reducible refine ev_lc2 ?_
  | with_reducible refine st_forl ?_
  | with_reducible refine st_fort ?_
  | with_reducible refine st_fors ?_
  | with_reducible refine st_for1 ?_
  | with_reducible refine st_for2 ?_
  | with_reducible refine ex_bl ?_
  | with_reducible refine ex_in ?_
  | with_reducible refine ex_ls ?_
  | with_reducible refine ex_tu ?_
  | with_reducible refine ex_st ?_
  | with_reducible refine ex_d0 ?_
  | with_reducible refine ex_d1 ?_
  | with_reducible refine ex_d2 ?_
  | with_reducible refine ex_d3 ?_
  | with_reducible refine ex_d4 ?_
  | with_reducible refine ex_d5 ?_
  | with_reducible refine ex_d6 ?_
  | with_reducible refine ex_d7 ?_
  | with_reducible refine ex_d8 ?_
  | with_reducible refine m_and ?_
  | with_reducible refine i_t ?_
  | with_reducible refine i_f ?_
  | with_reducible refine i_nt ?_
  | with_reducible refine i_nf ?_
  | with_reducible refine ev_fld ?_
  | ((with_reducible refine x_fld (fs := ?fs) (v := ?vv) ?hh ?ll ?_); (case hh => walk_at "m"); (case ll => exact rfl))
  | with_reducible refine ev_meth ?_
  | ((with_reducible refine x_meth (fs := ?fs) ?hh ?ll ?_); (case hh => walk_at "m"); (case ll => exact rfl))
  | with_reducible refine ev_make ?_
  | with_reducible refine st_fld ?_
  | ((with_reducible refine x_set (fs := ?fs) ?hh ?ll ?_); (case hh => walk_at "m"); (case ll => exact Nat.le_of_ble_eq_true rfl))
  | with_reducible refine ev_lstP ?_
  | with_reducible refine ev_tup ?_
  | with_reducible refine ev_lst ?_
  | with_reducible refine ev_int ?_
  | with_reducible refine ea_cons ?_
  | with_reducible refine ea_nil ?_
  | with_reducible refine ev_op ?_
  | with_reducible refine st_seq ?_
  | with_reducible refine st_asg ?_
  | with_reducible refine ev_call ?_
  | with_reducible refine ev_cb ?_
  | with_reducible refine st_if ?_
  | with_reducible refine et_test ?_
  | with_reducible refine et_not ?_
  | with_reducible refine et_or ?_
  | with_reducible refine et_and ?_
  | with_reducible refine et_tru ?_
  | with_reducible refine et_yes ?_
  | with_reducible refine et_B ?_
  | with_reducible refine ev_chain ?_
  | with_reducible refine ev_chain3 ?_
  | with_reducible refine ev_un ?_
  | with_reducible refine ev_if ?_
  | with_reducible refine ev_bl ?_
  | with_reducible refine ev_non ?_
  | with_reducible refine ev_str ?_
  | with_reducible refine ev_andV ?_
  | with_reducible refine ev_orV ?_
  | with_reducible refine ev_notV ?_
  | with_reducible refine ev_isB ?_
  | with_reducible refine ev_isE ?_
  | with_reducible refine ev_sl2 ?_
  | with_reducible refine ev_slA ?_
  | with_reducible refine ev_slB ?_
  | with_reducible refine ev_bmL ?_
  | with_reducible refine ev_bmL0 ?_
  | with_reducible refine st_ret ?_
  | with_reducible refine st_drop ?_
  | with_reducible refine st_next ?_
  | with_reducible refine st_setL ?_
  | with_reducible refine st_asgG ?_
  | with_reducible refine st_raise ?_
  | with_reducible refine gt_name ?_
  | with_reducible refine gt_tup2 ?_
  | with_reducible refine gt_tup3 ?_
  | walk_at "f")
local macro_rules | `(tactic| walk_at "r") => `(tactic| repeat walk_at "w")

theorem GameAt.sub {m m' : Mu} {a b c : Addr} {n l : Nat} {row : List QA} (g : GameAt m a b c n l row) (h : Sub m m') : GameAt m' a b c n l row := by
  have go := g.o
  have gt := g.t
  have gr := g.r
  refine g.of ?_ ?_ ?_
  · rcases h a with z | z
    · rw [z] at go; cases go
    · exact z.symm
  · rcases h b with z | z
    · rw [z] at gt; cases gt
    · exact z.symm
  · rcases h c with z | z
    · rw [z] at gr; cases gr
    · exact z.symm
def partT (ts : List Nat) (l : Nat) (row : List QA) (q : List Int) : List Int := (List.range (l + 1)).map fun k => ((ts.countP fun t => decide (((t : Nat) : Int) ∈ q) && decide (liesN row ((t : Nat) : Int) = k) : Nat) : Int)
theorem partT_0 (l : Nat) (row : List QA) (q : List Int) : (partT [] l row q).map D.int = List.replicate (l + 1) (D.int 0) := by
  unfold partT
  apply List.ext_getElem
  · simp
  · intro i h1 h2
    simp
theorem partT_len (ts : List Nat) (l : Nat) (row : List QA) (q : List Int) : ((partT ts l row q).map D.int).length = l + 1 := by unfold partT; simp
theorem partT_at {ts : List Nat} {l k : Nat} {row : List QA} {q : List Int} (h : k ≤ l) : atI ((partT ts l row q).map D.int) (k : Int) = some (.int ((ts.countP fun t => decide (((t : Nat) : Int) ∈ q) && decide (liesN row ((t : Nat) : Int) = k) : Nat) : Int)) := by
  unfold partT
  rw [List.map_map, atI_map_range _ (by omega)]
  rfl
theorem partT_set {ts : List Nat} {t l : Nat} {row : List QA} {q : List Int} (hq : ((t : Nat) : Int) ∈ q) : ((partT ts l row q).map D.int).set (liesN row (t : Nat)) (.int (((ts.countP fun u => decide (((u : Nat) : Int) ∈ q) && decide (liesN row ((u : Nat) : Int) = liesN row (t : Nat)) : Nat) : Int) + 1)) = (partT (ts ++ [t]) l row q).map D.int := by
  unfold partT
  rw [List.map_map, List.map_map, map_set_range]
  apply List.map_congr_left
  intro k _
  show (if k = liesN row (t : Nat) then _ else D.int ((ts.countP fun t => decide (((t : Nat) : Int) ∈ q) && decide (liesN row ((t : Nat) : Int) = k) : Nat) : Int)) = D.int (((ts ++ [t]).countP fun t => decide (((t : Nat) : Int) ∈ q) && decide (liesN row ((t : Nat) : Int) = k) : Nat) : Int)
  rw [List.countP_append, List.countP_cons, List.countP_nil, decide_eq_true hq, Bool.true_and]
  by_cases h : k = liesN row (t : Nat)
  · subst h
    simp
  · rw [if_neg h, if_neg (by simp; omega)]
    rfl
theorem partT_same {ts : List Nat} {t l : Nat} {row : List QA} {q : List Int} (h : ((t : Nat) : Int) ∉ q ∨ l < liesN row (t : Nat)) : partT (ts ++ [t]) l row q = partT ts l row q := by
  unfold partT
  apply List.map_congr_left
  intro k hk
  have hk := List.mem_range.mp hk
  rw [List.countP_append, List.countP_cons, List.countP_nil, if_neg (by
    rw [Bool.and_eq_true, decide_eq_true_eq, decide_eq_true_eq]
    rcases h with h | h
    · exact fun z => h z.1
    · exact fun z => by omega)]
  rfl
theorem partT_left (n l : Nat) (row : List QA) (q : List Int) : partT ((List.range n).filter fun t => decide (liesN row ((t : Nat) : Int) ≤ l)) l row q = partQ n l row q := by
  unfold partT partQ
  apply List.map_congr_left
  intro k hk
  have hk := List.mem_range.mp hk
  rw [List.countP_filter]
  congr 1
  apply List.countP_congr
  intro t _
  simp only [Bool.and_eq_true, decide_eq_true_eq]
  exact ⟨fun z => z.1, fun z => ⟨z, by omega⟩⟩
abbrev foeF (g : Addr) : List (Str × DV) := [("game", .r g)]
structure FoeAt (m : Mu) (a g b c : Addr) (n l : Nat) (row : List QA) : Prop where
  o : m a = some (.ins .foe (foeF g))
  g : GameAt m g b c n l row
theorem FoeAt.ag {m : Mu} {a g b c : Addr} {n l : Nat} {row : List QA} (h : FoeAt m a g b c n l row) : a ≠ g := fun e => by have := h.g.o; rw [← e, h.o] at this; cases this
theorem FoeAt.ab {m : Mu} {a g b c : Addr} {n l : Nat} {row : List QA} (h : FoeAt m a g b c n l row) : a ≠ b := fun e => by have := h.g.t; rw [← e, h.o] at this; cases this
theorem FoeAt.ac {m : Mu} {a g b c : Addr} {n l : Nat} {row : List QA} (h : FoeAt m a g b c n l row) : a ≠ c := fun e => by have := h.g.r; rw [← e, h.o] at this; cases this
theorem Sub.some {m m' : Mu} {a : Addr} {o : MO} (h : Sub m m') (e : m a = some o) : m' a = some o := by
  rcases h a with z | z
  · rw [z] at e; cases e
  · rw [← z]; exact e
theorem FoeAt.sub {m m' : Mu} {a g b c : Addr} {n l : Nat} {row : List QA} (f : FoeAt m a g b c n l row) (h : Sub m m') : FoeAt m' a g b c n l row := ⟨h.some f.o, f.g.sub h⟩
/-! ### making one -/
def S_Foe___init__ : SpD := fun es m R XR => ∃ (a : Addr) (n l : Int), es = [.r a, .d (.int n), .d (.int l)] ∧ m a = some (.ins .foe []) ∧ (¬ GameOk n l → XR .game m) ∧
  (GameOk n l → ¬ Small (countsN n.toNat l.toNat []) → ∀ m', (∀ x, x ≠ a → m x = none ∨ m' x = m x) → XR .counts m') ∧
  (GameOk n l → Small (countsN n.toNat l.toNat []) → ∀ g b c m', m g = none → m b = none → m c = none → FoeAt m' a g b c n.toNat l.toNat [] → (∀ x, x ≠ a → x ≠ g → x ≠ b → x ≠ c → m' x = m x) → R (.d .non) m')
def rd_Foe___init__ (G : Ctx) (W : WX) : TS :=
  tSeq (sFldD G .foe (tVar 0) (tMakeS G .game (spL G S_Game___init__) (WE W) (tCons (tVar 1) (tCons (tVar 2) (tNil)))) "game")
  (tDrop (tCallS (spL G S_look_small) (WE W) (tCons (tMethD G .game "counts" (spL G S_Game_counts) (WE W) (tFldD G .foe (tVar 0) "game") (tNil)) (tNil))))

theorem len_Foe___init__ : ∀ es m R XR, S_Foe___init__ es m R XR → es.length = 3 := by
  rintro es m R XR ⟨a, b, c, rfl, _⟩
  rfl
theorem sem_Foe___init__ (G : Ctx) : BodyD G 3 (rd_Foe___init__ G) S_Foe___init__ := by
  rintro W es m R XR ⟨a, n, l, rfl, ha, h1, h2, h3⟩
  unfold rd_Foe___init__
  walk_at "r"
  intro g hg
  have hag := ne_new ha hg
  refine ⟨g, n, l, rfl, mset_same, fun z => ⟨m, sub_mset hg, h1 z⟩, fun ok b c m1 hb hc gA fr => ⟨rfl, ?_⟩⟩
  obtain ⟨hbg, hb0⟩ := none_mset hb
  obtain ⟨hcg, hc0⟩ := none_mset hc
  obtain ⟨g1, g2, g3, g4⟩ := id ok
  have hab := ne_new ha hb0
  have hac := ne_new ha hc0
  have ha1 : m1 a = some (.ins .foe []) := by rw [fr a hag hab hac, mset_ne hag]; exact ha
  walk_at "r"
  have gA' : GameAt (mset m1 a (.ins .foe (foeF g))) g b c n.toNat l.toNat [] := gA.of (mset_ne hag.symm) (mset_ne hab.symm) (mset_ne hac.symm)
  have go := gA'.o
  have fr2 : ∀ x, x ≠ a → x ≠ g → x ≠ b → x ≠ c → mset m1 a (.ins .foe (foeF g)) x = m x := fun x x1 x2 x3 x4 => by rw [mset_ne x1, fr x x2 x3 x4, mset_ne x2]
  walk_at "r"
  refine ⟨g, b, c, n.toNat, l.toNat, [], rfl, gA', by omega, by omega, ?_⟩
  walk_at "r"
  refine ⟨_, rfl, by rw [counts_len]; omega, fun sm => ?_, fun sm => ?_⟩
  · exact h3 ok sm g b c _ hg hb0 hc0 ⟨mset_same, gA'⟩ fr2
  · refine h2 ok sm _ fun x hx => ?_
    by_cases x2 : x = g
    · subst x2; exact .inl hg
    by_cases x3 : x = b
    · subst x3; exact .inl hb0
    by_cases x4 : x = c
    · subst x4; exact .inl hc0
    exact .inr (fr2 x hx x2 x3 x4)
/-! ### weighed, needed, left, asked -/
def S_weighed : SpD := fun es m R _ => ∃ (cs : List Int), es = [.d (dTup cs)] ∧ CsOk cs ∧ R (.d (.tup [.int (leastW cs : Nat), .int cs.sum])) m
def rd_weighed (G : Ctx) (W : WX) : TS :=
  tRet (tTup (tCons (tCallS (spL G S_least) (WE W) (tCons (tVar 0) (tNil))) (tCons (tCB (rDn G sumF) (tCons (tVar 0) (tNil))) (tNil))))

theorem len_weighed : ∀ es m R XR, S_weighed es m R XR → es.length = 1 := by
  rintro es m R XR ⟨a, rfl, _⟩
  rfl
theorem sem_weighed (G : Ctx) : BodyD G 1 (rd_weighed G) S_weighed := by
  rintro W es m R XR ⟨cs, rfl, ok, h⟩
  have hl3 := ok.l3
  unfold rd_weighed
  walk_at "r"
  refine ⟨cs, rfl, by omega, fun z => absurd ok.small z, fun _ => ?_⟩
  walk_at "r"
  exact h
def S_Foe_needed : SpD := fun es m R _ => ∃ (a g b c : Addr) (n l : Nat) (row : List QA), es = [.r a] ∧ FoeAt m a g b c n l row ∧ n ≤ 12 ∧ l ≤ 2 ∧ R (.d (.int (leastW (countsN n l row) : Nat))) m
def rd_Foe_needed (G : Ctx) (W : WX) : TS :=
  tRet (tCallS (spL G S_least) (WE W) (tCons (tMethD G .game "counts" (spL G S_Game_counts) (WE W) (tFldD G .foe (tVar 0) "game") (tNil)) (tNil)))

theorem len_Foe_needed : ∀ es m R XR, S_Foe_needed es m R XR → es.length = 1 := by
  rintro es m R XR ⟨a, b, c, d, e, f, g, rfl, _⟩
  rfl
theorem sem_Foe_needed (G : Ctx) : BodyD G 1 (rd_Foe_needed G) S_Foe_needed := by
  rintro W es m R XR ⟨a, g, b, c, n, l, row, rfl, fA, hn, hl, h⟩
  have fo := fA.o
  have go := fA.g.o
  unfold rd_Foe_needed
  walk_at "r"
  refine ⟨g, b, c, n, l, row, rfl, fA.g, by omega, by omega, ?_⟩
  walk_at "r"
  exact ⟨_, rfl, by rw [counts_len]; omega, fun z => absurd (counts_ok row hn hl).small z, fun _ => h⟩
def S_Foe_left : SpD := fun es m R _ => ∃ (a g b c : Addr) (n l : Nat) (row : List QA), es = [.r a] ∧ FoeAt m a g b c n l row ∧ n ≤ 12 ∧ ∀ d, m d = none → R (.r d) (mset m d (.lst ((leftN n l row).map D.int)))
def rd_Foe_left (G : Ctx) (W : WX) : TS :=
  tRet (tMethD G .game "left" (spL G S_Game_left) (WE W) (tFldD G .foe (tVar 0) "game") (tNil))

theorem len_Foe_left : ∀ es m R XR, S_Foe_left es m R XR → es.length = 1 := by
  rintro es m R XR ⟨a, b, c, d, e, f, g, rfl, _⟩
  rfl
theorem sem_Foe_left (G : Ctx) : BodyD G 1 (rd_Foe_left G) S_Foe_left := by
  rintro W es m R XR ⟨a, g, b, c, n, l, row, rfl, fA, hn, h⟩
  have fo := fA.o
  have go := fA.g.o
  unfold rd_Foe_left
  walk_at "r"
  exact ⟨g, b, c, n, l, row, rfl, fA.g, by omega, h⟩
def S_Foe_asked : SpD := fun es m R _ => ∃ (a g b c : Addr) (n l : Nat) (row : List QA), es = [.r a] ∧ FoeAt m a g b c n l row ∧ row.length ≤ 1000 ∧ ∀ d, m d = none → R (.r d) (mset m d (.lst (row.map dQA)))
def rd_Foe_asked (G : Ctx) (W : WX) : TS :=
  tRet (tMethD G .game "asked" (spL G S_Game_asked) (WE W) (tFldD G .foe (tVar 0) "game") (tNil))

theorem len_Foe_asked : ∀ es m R XR, S_Foe_asked es m R XR → es.length = 1 := by
  rintro es m R XR ⟨a, b, c, d, e, f, g, rfl, _⟩
  rfl
theorem sem_Foe_asked (G : Ctx) : BodyD G 1 (rd_Foe_asked G) S_Foe_asked := by
  rintro W es m R XR ⟨a, g, b, c, n, l, row, rfl, fA, hn, h⟩
  have fo := fA.o
  have go := fA.g.o
  unfold rd_Foe_asked
  walk_at "r"
  exact ⟨g, b, c, n, l, row, rfl, fA.g, hn, h⟩
/-! ### the answer -/
def S_Foe_answer : SpD := fun es m R XR => ∃ (a g b c : Addr) (n l : Nat) (row : List QA) (x : DV) (q : List Int), es = [.r a, x] ∧ FoeAt m a g b c n l row ∧ 1 ≤ n ∧ n ≤ 12 ∧ l ≤ 2 ∧ row.length < 1000 ∧ vw m x = some (dInts q) ∧ q.length < 64 ∧ leftN n l row ≠ [] ∧
  (¬ QOk n q → XR .question m) ∧
  (QOk n q → ∀ d m', m d = none → FoeAt m' a g d c n l (row ++ [(q, ansF n l row q)]) → (∀ y, y ≠ g → y ≠ b → y ≠ c → y ≠ d → m' y = m y) → R (.d (.bl (ansF n l row q))) m')
def rd_Foe_answer (G : Ctx) (W : WX) : TS :=
  tSeq (tAsg (tMethD G .game "lies" (spL G S_Game_lies) (WE W) (tFldD G .foe (tVar 0) "game") (tNil)) (gName 2))
  (tSeq (tAsg (tOp (rD2 G mulO) (tLst (tCons (tC (.int 0)) (tNil))) (tOp (rD2 G addF) (tFldD G .game (tFldD G .foe (tVar 0) "game") "most") (tC (.int 1)))) (gName 3))
  (tSeq (tFor (iRng1 (tCons (tFldD G .game (tFldD G .foe (tVar 0) "game") "things") (tNil))) (gName 4) (tIfS (tAnd (tTest (tOp (rD2 G inF) (tVar 4) (tVar 1))) (tTest (tOp (rD2 G isnotF) (tOp (rD2 G idxF) (tVar 2) (tVar 4)) (tC .non)))) (tAsg (tOp (rD2 G addF) (tOp (rD2 G idxF) (tVar 3) (tOp (rD2 G idxF) (tVar 2) (tVar 4))) (tC (.int 1))) (gSub (tVar 3) (tOp (rD2 G idxF) (tVar 2) (tVar 4)) L2.rSetL)) (tNext)))
  (tSeq (tAsg (tCallS (spL G S_behind) (WE W) (tCons (tMethD G .game "counts" (spL G S_Game_counts) (WE W) (tFldD G .foe (tVar 0) "game") (tNil)) (tCons (tCB (rDn G tupleF) (tCons (tVar 3) (tNil))) (tNil)))) (gTup G.K 2 (gCons (gName 5) (gCons (gName 6) (gNil)))))
  (tSeq (tAsg (tOp (rD2 G geTF) (tCallS (spL G S_weighed) (WE W) (tCons (tVar 5) (tNil))) (tCallS (spL G S_weighed) (WE W) (tCons (tVar 6) (tNil)))) (gName 7))
  (tSeq (tDrop (tMethD G .game "ask" (spL G S_Game_ask) (WE W) (tFldD G .foe (tVar 0) "game") (tCons (tVar 1) (tCons (tVar 7) (tNil)))))
  (tRet (tVar 7)))))))

theorem len_Foe_answer : ∀ es m R XR, S_Foe_answer es m R XR → es.length = 2 := by
  rintro es m R XR ⟨a, b, c, d, e, f, g, h, i, rfl, _⟩
  rfl
theorem lies_at {n l t : Nat} {row : List QA} (h : t < n) : atI (liesD n l row) (t : Int) = some (lieD l ((liesN row (t : Nat) : Nat) : Int)) := by
  unfold liesD toldN
  rw [List.map_map, atI_map_range _ h]
  rfl
theorem sem_Foe_answer (G : Ctx) : BodyD G 8 (rd_Foe_answer G) S_Foe_answer := by
  rintro W es m R XR ⟨a, g, b, c, n, l, row, x, q, rfl, fA, hn1, hn, hl, hrow, hx, hq, hL, h1, h2⟩
  have fo := fA.o
  have go := fA.g.o
  unfold rd_Foe_answer
  walk_at "r"
  refine ⟨g, b, c, n, l, row, rfl, fA.g, by omega, fun k hk => ?_⟩
  have fA1 := fA.sub (sub_mset (o := .lst (liesD n l row)) hk)
  have fo1 := fA1.o
  have go1 := fA1.g.o
  walk_at "r"
  refine ⟨by omega, by omega, by show 1 * _ ≤ _; omega, fun p hp => ?_⟩
  obtain ⟨hpk, hp0⟩ := none_mset hp
  rw [flatten_rep, show ((l : Int) + 1).toNat = l + 1 by omega, ← partT_0 l row q]
  have sb : ∀ o, Sub m (mset (mset m k (.lst (liesD n l row))) p o) := fun o => (sub_mset hk).new hp0
  have fA2 := fun o => fA.sub (sb o)
  have fo2 := fun o => (fA2 o).o
  have go2 := fun o => (fA2 o).g.o
  have fo3 := fo2 (.lst ((partT [] l row q).map D.int))
  have go3 := go2 (.lst ((partT [] l row q).map D.int))
  walk_at "r"
  refine ⟨_, rfl, by omega, by omega, ?_⟩
  rw [Int.toNat_natCast]
  refine forN (fun i ds' m' => mset (mset m k (.lst (liesD n l row))) p (.lst ((partT (List.range i) l row q).map D.int)) = m' ∧ ∃ o4, ds' = [some (.r a), some x, some (.r k), some (.r p), o4, none, none, none]) ⟨rfl, none, rfl⟩ ?_ ?_
  · rintro i ds' m' hi ⟨rfl, o4, rfl⟩
    walk_at "r"
    rw [Int.zero_add]
    refine v_in (vw_new (vw_new hx hk) hp) ?_
    have hk2 : mset (mset m k (.lst (liesD n l row))) p (.lst ((partT (List.range i) l row q).map D.int)) k = some (.lst (liesD n l row)) := by rw [mset_ne hpk.symm, mset_same]
    walk_at "r"
    refine i_b (fun e => ?_) (fun e => ?_)
    · have e := of_decide_eq_true e
      walk_at "r"
      refine ⟨_, hk2, _, lies_at hi, ?_⟩
      by_cases c2 : liesN row (i : Nat) ≤ l
      · rw [show lieD l ((liesN row (i : Nat) : Nat) : Int) = .int ((liesN row (i : Nat) : Nat) : Int) by unfold lieD; rw [if_pos (by omega)]]
        walk_at "r"
        refine ⟨_, hk2, _, lies_at hi, ?_⟩
        rw [show lieD l ((liesN row (i : Nat) : Nat) : Int) = .int ((liesN row (i : Nat) : Nat) : Int) by unfold lieD; rw [if_pos (by omega)]]
        walk_at "r"
        refine ⟨_, mset_same, _, partT_at c2, ?_⟩
        walk_at "r"
        refine ⟨_, hk2, _, lies_at hi, ?_⟩
        rw [show lieD l ((liesN row (i : Nat) : Nat) : Int) = .int ((liesN row (i : Nat) : Nat) : Int) by unfold lieD; rw [if_pos (by omega)]]
        walk_at "r"
        refine ⟨p, _, _, liesN row (i : Nat), _, rfl, rfl, rfl, mset_same, ixN_in (by rw [partT_len]; omega), ?_, _, rfl⟩
        rw [mset_mset, partT_set e, List.range_succ]
      · rw [show lieD l ((liesN row (i : Nat) : Nat) : Int) = .non by unfold lieD; rw [if_neg (by omega)]]
        walk_at "r"
        exact ⟨by rw [List.range_succ, partT_same (.inr (by omega))], _, rfl⟩
    · have e := of_decide_eq_false e
      walk_at "r"
      exact ⟨by rw [List.range_succ, partT_same (.inl e)], _, rfl⟩
  · rintro ds' m' ⟨rfl, o4, rfl⟩
    have fo4 := fo2 (.lst ((partT (List.range n) l row q).map D.int))
    have go4 := go2 (.lst ((partT (List.range n) l row q).map D.int))
    have eP : partT (List.range n) l row q = partQ n l row q := rfl
    walk_at "r"
    refine ⟨g, b, c, n, l, row, rfl, (fA2 _).g, by omega, by omega, ?_⟩
    walk_at "r"
    refine ⟨_, mset_same, ?_⟩
    walk_at "r"
    rw [eP]
    refine ⟨_, _, rfl, by rw [counts_len]; omega, by rw [partQ_len]; omega, fun z => absurd (counts_ok row hn hl).counts z, fun _ z => absurd (partQ_ok n l row q).ok z, fun _ _ => ?_⟩
    rw [yes_row, no_row]
    walk_at "r"
    refine ⟨_, rfl, counts_ok _ hn hl, ?_⟩
    walk_at "r"
    refine ⟨_, rfl, counts_ok _ hn hl, ?_⟩
    refine ⟨[_, _], [_, _], rfl, rfl, ?_⟩
    rw [lexGe_pair]
    refine StD.sub (m' := m) ?_ (sb _)
    walk_at "r"
    refine ⟨g, b, c, n, l, row, x, q, ansF n l row q, rfl, fA.g, hn1, by omega, by omega, hrow, hx, hq, h1, fun z1 z2 => absurd (left_none.mpr z2) (ans_left hn hl hL), fun z1 z2 d m' hd gA fr => ?_⟩
    walk_at "r"
    refine h2 z1 d m' hd ⟨?_, gA⟩ fr
    rw [fr a fA.ag fA.ab fA.ac (ne_new fo hd)]
    exact fo
end Lb

/-! Ma30: the question that is asked. -/
namespace Lb
open PySem L2
def segN (n l : Nat) (row : List QA) (k : Nat) : List Int := (leftN n l row).filter fun t => decide (liesN row t = k)
def foundN (n l : Nat) (row : List QA) (ps : List Int) (i : Nat) : List Int := (List.range i).flatMap fun k => (segN n l row k).take (ps.getD k 0).toNat
theorem found_succ (n l : Nat) (row : List QA) (ps : List Int) (i : Nat) : foundN n l row ps (i + 1) = foundN n l row ps i ++ (segN n l row i).take (ps.getD i 0).toNat := by
  unfold foundN
  rw [List.range_succ, List.flatMap_append]
  simp
theorem left_nodup (n l : Nat) (row : List QA) : (leftN n l row).Nodup := by
  unfold leftN
  refine List.Pairwise.map _ (fun a b h => ?_) (List.Pairwise.filter _ (List.nodup_range (n := n)))
  exact fun e => h (by exact_mod_cast e)
theorem mem_left {n l : Nat} {row : List QA} {t : Int} : t ∈ leftN n l row ↔ ∃ k : Nat, t = (k : Int) ∧ k < n ∧ liesN row t ≤ l := by
  unfold leftN
  rw [List.mem_map]
  constructor
  · rintro ⟨k, hk, rfl⟩
    have := List.mem_filter.mp hk
    exact ⟨k, rfl, List.mem_range.mp this.1, of_decide_eq_true this.2⟩
  · rintro ⟨k, rfl, h1, h2⟩
    exact ⟨k, List.mem_filter.mpr ⟨List.mem_range.mpr h1, decide_eq_true h2⟩, rfl⟩
theorem seg_nodup (n l : Nat) (row : List QA) (k : Nat) : (segN n l row k).Nodup := List.Pairwise.filter _ (left_nodup n l row)
theorem mem_seg {n l k : Nat} {row : List QA} {t : Int} : t ∈ segN n l row k ↔ t ∈ leftN n l row ∧ liesN row t = k := by
  unfold segN
  rw [List.mem_filter, decide_eq_true_eq]
theorem mem_found {n l i : Nat} {row : List QA} {ps : List Int} {t : Int} : t ∈ foundN n l row ps i ↔ ∃ k, k < i ∧ t ∈ (segN n l row k).take (ps.getD k 0).toNat := by
  unfold foundN
  rw [List.mem_flatMap]
  constructor
  · rintro ⟨k, h1, h2⟩
    exact ⟨k, List.mem_range.mp h1, h2⟩
  · rintro ⟨k, h1, h2⟩
    exact ⟨k, List.mem_range.mpr h1, h2⟩
theorem take_seg {n l k j : Nat} {row : List QA} {t : Int} (h : t ∈ (segN n l row k).take j) : t ∈ leftN n l row ∧ liesN row t = k := mem_seg.mp (List.mem_of_mem_take h)
theorem found_nodup (n l : Nat) (row : List QA) (ps : List Int) : ∀ i, (foundN n l row ps i).Nodup
  | 0 => List.nodup_nil
  | i + 1 => by
    rw [found_succ]
    refine List.nodup_append.mpr ⟨found_nodup n l row ps i, List.Pairwise.sublist (List.take_sublist _ _) (seg_nodup n l row i), fun a ha b hb e => ?_⟩
    subst e
    obtain ⟨k, hk, h1⟩ := mem_found.mp ha
    have := (take_seg h1).2
    have := (take_seg hb).2
    omega
theorem seg_len {n l k : Nat} {row : List QA} (h : k ≤ l) : (segN n l row k).length = (List.range n).countP fun t => decide (liesN row ((t : Nat) : Int) = k) := by
  unfold segN leftN
  rw [← List.countP_eq_length_filter, List.countP_map, List.countP_filter]
  apply List.countP_congr
  intro t _
  simp only [Function.comp, Bool.and_eq_true, decide_eq_true_eq]
  exact ⟨fun z => z.1, fun z => ⟨z, by omega⟩⟩
theorem found_part {n l : Nat} {row : List QA} {ps q : List Int} (hpl : ps.length = l + 1) (hp : ∀ k, k ≤ l → 0 ≤ ps.getD k 0 ∧ ps.getD k 0 ≤ (((List.range n).countP fun t => decide (liesN row ((t : Nat) : Int) = k) : Nat) : Int))
    (hq : ∀ t, t ∈ q ↔ t ∈ foundN n l row ps (l + 1)) : partQ n l row q = ps := by
  apply List.ext_getElem
  · unfold partQ; simp [hpl]
  intro k h1 h2
  have hk : k ≤ l := by omega
  have e : ps[k] = ps.getD k 0 := by rw [List.getD_eq_getElem?_getD, List.getElem?_eq_getElem h2]; rfl
  simp only [partQ, List.getElem_map, List.getElem_range]
  rw [e]
  have hb := hp k hk
  have hperm : (((List.range n).filter fun t => decide (((t : Nat) : Int) ∈ q) && decide (liesN row ((t : Nat) : Int) = k)).map fun t => ((t : Nat) : Int)).Perm ((segN n l row k).take (ps.getD k 0).toNat) := by
    refine (List.perm_ext_iff_of_nodup ?_ ?_).mpr fun x => ?_
    · refine List.Pairwise.map _ (fun a b h => ?_) (List.Pairwise.filter _ (List.nodup_range (n := n)))
      exact fun e => h (by exact_mod_cast e)
    · exact List.Pairwise.sublist (List.take_sublist _ _) (seg_nodup n l row k)
    · rw [List.mem_map]
      constructor
      · rintro ⟨t, ht, rfl⟩
        have := List.mem_filter.mp ht
        have h3 := this.2
        simp only [Bool.and_eq_true, decide_eq_true_eq] at h3
        obtain ⟨j, hj, h4⟩ := mem_found.mp ((hq _).mp h3.1)
        have := (take_seg h4).2
        obtain rfl : j = k := by omega
        exact h4
      · intro hx
        obtain ⟨h3, h4⟩ := take_seg hx
        obtain ⟨t, rfl, ht, _⟩ := mem_left.mp h3
        refine ⟨t, List.mem_filter.mpr ⟨List.mem_range.mpr ht, ?_⟩, rfl⟩
        simp only [Bool.and_eq_true, decide_eq_true_eq]
        exact ⟨(hq _).mpr (mem_found.mpr ⟨k, by omega, hx⟩), h4⟩
  have := hperm.length_eq
  rw [List.length_map, ← List.countP_eq_length_filter, List.length_take, seg_len hk] at this
  omega
def sortI (ns : List Int) : List Int := ns.mergeSort fun a b => decide (a ≤ b)
theorem sortI_perm (ns : List Int) : (sortI ns).Perm ns := List.mergeSort_perm _ _
theorem sortI_le (ns : List Int) : (sortI ns).Pairwise (· ≤ ·) := by
  have := List.pairwise_mergeSort (le := fun a b : Int => decide (a ≤ b)) (fun a b c h1 h2 => by simp only [decide_eq_true_eq] at *; omega) (fun a b => by simp only [Bool.or_eq_true, decide_eq_true_eq]; omega) ns
  exact this.imp fun h => of_decide_eq_true h
theorem sortI_uniq {ns qs : List Int} (h1 : qs.Perm ns) (h2 : qs.Pairwise (· ≤ ·)) : qs = sortI ns :=
  List.Perm.eq_of_pairwise (fun a b _ _ h3 h4 => Int.le_antisymm h3 h4) h2 (sortI_le ns) (h1.trans (sortI_perm ns).symm)
theorem lt_of_le_nodup {qs : List Int} (h : qs.Pairwise (· ≤ ·)) (hn : qs.Nodup) : qs.Pairwise (· < ·) := (h.and hn).imp fun h => by have h1 := h.1; have h2 := h.2; omega
def askP (cs : List Int) : List Int := (canW (leastW cs) cs).getD []
structure AskP (cs : List Int) : Prop where
  c : canW (leastW cs) cs = some (askP cs)
  p : PartL cs (askP cs)
  y : leastW (yesL 0 cs (askP cs)) + 1 ≤ leastW cs
  n : leastW (noL 0 cs (askP cs)) + 1 ≤ leastW cs
theorem askP_spec {cs : List Int} (ok : CsOk cs) (hs : 1 < cs.sum) : AskP cs := by
  have h1 := (leastW_spec ok (leastW cs)).mpr (Nat.le_refl _)
  rw [← can_iff _ _ ok.nn] at h1
  cases e : canW (leastW cs) cs with
  | none => rw [e] at h1; cases h1
  | some p =>
    have ep : askP cs = p := by unfold askP; rw [e]; rfl
    obtain ⟨k, hk, hP, hy, hn⟩ := canW_some ok hs e
    rw [can_iff _ _ (ok.yes hP).nn] at hy
    rw [can_iff _ _ (ok.no hP).nn] at hn
    have := (leastW_spec (ok.yes hP) k).mp hy
    have := (leastW_spec (ok.no hP) k).mp hn
    exact ⟨by rw [ep]; exact e, by rw [ep]; exact hP, by rw [ep]; omega, by rw [ep]; omega⟩
def askQ (n l : Nat) (row : List QA) : List Int := sortI (foundN n l row (askP (countsN n l row)) (l + 1))
structure AskOk (n l : Nat) (row : List QA) : Prop where
  q : QOk n (askQ n l row)
  inn : ∀ t ∈ askQ n l row, t ∈ leftN n l row
  p : partQ n l row (askQ n l row) = askP (countsN n l row)
  y : leastW (countsN n l (row ++ [(askQ n l row, true)])) + 1 ≤ leastW (countsN n l row)
  f : leastW (countsN n l (row ++ [(askQ n l row, false)])) + 1 ≤ leastW (countsN n l row)
theorem ask_ok {n l : Nat} {row : List QA} (hn : n ≤ 12) (hl : l ≤ 2) (hs : 1 < (countsN n l row).sum) : AskOk n l row := by
  have ok := counts_ok row hn hl
  have sp := askP_spec ok hs
  have hperm := sortI_perm (foundN n l row (askP (countsN n l row)) (l + 1))
  have hmem : ∀ t, t ∈ askQ n l row ↔ t ∈ foundN n l row (askP (countsN n l row)) (l + 1) := fun t => hperm.mem_iff
  have hP : partQ n l row (askQ n l row) = askP (countsN n l row) := by
    refine found_part (by rw [sp.p.len, counts_len]) (fun k hk => ?_) hmem
    have := sp.p.ok.2 k (by rw [counts_len]; omega)
    rw [counts_get hk] at this
    exact this
  have hin : ∀ t ∈ askQ n l row, t ∈ leftN n l row := fun t ht => by
    obtain ⟨k, _, h⟩ := mem_found.mp ((hmem t).mp ht)
    exact (take_seg h).1
  refine ⟨⟨lt_of_le_nodup (sortI_le _) (hperm.symm.nodup (found_nodup n l row _ _)), fun t ht => ?_⟩, hin, hP, ?_, ?_⟩
  · obtain ⟨k, rfl, hk, _⟩ := mem_left.mp (hin t ht)
    omega
  · rw [← yes_row, hP]; exact sp.y
  · rw [← no_row, hP]; exact sp.n
theorem ask_len {n l : Nat} {row : List QA} (hq : QOk n (askQ n l row)) (hn : n ≤ 12) : (askQ n l row).length ≤ 12 := by
  have : ∀ (q : List Int) (a : Int), q.Pairwise (· < ·) → (∀ k ∈ q, a ≤ k ∧ k < n) → (q.length : Int) ≤ max 0 (n - a) := by
    intro q
    induction q with
    | nil => intro a _ _; simp; omega
    | cons x q ih =>
      intro a h1 h2
      obtain ⟨h3, h4⟩ := List.pairwise_cons.mp h1
      have := ih (x + 1) h4 fun k hk => ⟨by have := h3 k hk; omega, (h2 k (List.mem_cons_of_mem _ hk)).2⟩
      have := h2 x List.mem_cons_self
      rw [List.length_cons]
      omega
  have := this _ 0 hq.1 hq.2
  omega
end Lb

/-! Sm30a: one who asks. -/
namespace Lb
open PySem L2
local macro_rules | `(tactic| walk_at "v") => `(tactic| ((with_reducible refine ev_var (d := ?dv) ?hv ?_); (case hv => exact rfl)))
local macro_rules | `(tactic| walk_at "f") => `(tactic| first
  | with_reducible refine f_in ?_
  | with_reducible refine f_notin ?_
  | with_reducible refine f_add_i ?_
  | with_reducible refine f_add_s ?_
  | with_reducible refine f_add_l ?_
  | with_reducible refine f_add_t ?_
  | with_reducible refine f_sub ?_
  | with_reducible refine f_mul_i ?_
  | with_reducible refine f_mul_l ?_
  | with_reducible refine f_mul_t ?_
  | with_reducible refine f_div ?_
  | with_reducible refine f_mod ?_
  | with_reducible refine f_pow ?_
  | with_reducible refine f_lt ?_
  | with_reducible refine f_le ?_
  | with_reducible refine f_gt ?_
  | with_reducible refine f_ge ?_
  | with_reducible refine f_eq_i ?_
  | with_reducible refine f_ne_i ?_
  | with_reducible refine f_eq_b ?_
  | with_reducible refine f_ne_b ?_
  | with_reducible refine f_is_n ?_
  | with_reducible refine f_isnot_n ?_
  | with_reducible refine f_is_i ?_
  | with_reducible refine f_isnot_i ?_
  | with_reducible refine f_is_b ?_
  | with_reducible refine f_isnot_b ?_
  | with_reducible refine f_is_s ?_
  | with_reducible refine f_isnot_s ?_
  | with_reducible refine f_is_l ?_
  | with_reducible refine f_isnot_l ?_
  | with_reducible refine f_is_t ?_
  | with_reducible refine f_isnot_t ?_
  | with_reducible refine f_is_r ?_
  | with_reducible refine f_isnot_r ?_
  | with_reducible refine f_is ?_
  | with_reducible refine f_isnot ?_
  | with_reducible refine f_neg ?_
  | with_reducible refine f_len_ml ?_
  | with_reducible refine f_len_mt ?_
  | with_reducible refine f_sum_l ?_
  | with_reducible refine f_sum_t ?_
  | with_reducible refine f_all ?_
  | with_reducible refine f_any ?_
  | with_reducible refine f_len_l ?_
  | with_reducible refine f_len_t ?_
  | with_reducible refine f_len_c ?_
  | with_reducible refine f_abs ?_
  | with_reducible refine f_min2 ?_
  | with_reducible refine f_max2 ?_
  | with_reducible refine f_list_l ?_
  | with_reducible refine f_list_t ?_
  | with_reducible refine f_tup_l ?_
  | with_reducible refine f_tup_t ?_
  | with_reducible refine f_int_i ?_
  | with_reducible refine f_int_b ?_
  | with_reducible refine f_sl_l ?_
  | with_reducible refine f_sl_t ?_
  | with_reducible refine f_tr_n ?_
  | with_reducible refine f_tr_b ?_
  | with_reducible refine f_tr_i ?_
  | with_reducible refine f_tr_l ?_
  | with_reducible refine f_tr_t ?_
  | with_reducible refine f_tr_c ?_)
local macro_rules | `(tactic| walk_at "m") => `(tactic| first
  | assumption
  | exact mset_same
  | ((refine (mset_ne ?_).trans ?_); (first | assumption | exact Ne.symm (by assumption)); walk_at "m"))
local macro_rules | `(tactic| walk_at "w") => `(tactic| first
  | walk_at "v"
  | with_reducible refine ev_rev ?_
  | with_reducible refine ev_sset ?_
  | with_reducible refine ev_lcl ?_
  | with_reducible refine ev_lct ?_
  | with_reducible refine ev_lcs ?_
  | with_reducible refine ev_lc1 ?_
  | with_reducible refine ev_lc2 ?_
  | with_reducible refine st_forl ?_
  | with_reducible refine st_fort ?_
  | with_reducible refine st_fors ?_
  | with_reducible refine st_for1 ?_
  | with_reducible refine st_for2 ?_
  | with_reducible refine ex_bl ?_
  | with_reducible refine ex_in ?_
  | with_reducible refine ex_ls ?_
  | with_reducible refine ex_tu ?_
  | with_reducible refine ex_st ?_
  | with_reducible refine ex_d0 ?_
  | with_reducible refine ex_d1 ?_
  | with_reducible refine ex_d2 ?_
  | with_reducible refine ex_d3 ?_
  | with_reducible refine ex_d4 ?_
  | with_reducible refine ex_d5 ?_
  | with_reducible refine ex_d6 ?_
  | with_reducible refine ex_d7 ?_
  | with_reducible refine ex_d8 ?_
  | with_reducible refine m_and ?_
  | with_reducible refine i_t ?_
  | with_reducible refine i_f ?_
  | with_reducible refine i_nt ?_
  | with_reducible refine i_nf ?_
  | with_reducible refine ev_fld ?_
  | ((with_reducible refine x_fld (fs := ?fs) (v := ?vv) ?hh ?ll ?_); (case hh => walk_at "m"); (case ll => exact rfl))
  | with_reducible refine ev_meth ?_
  | ((with_reducible refine x_meth (fs := ?fs) ?hh ?ll ?_); (case hh => walk_at "m"); (case ll => exact rfl))
  | with_reducible refine ev_make ?_
  | with_reducible refine st_fld ?_
  | ((with_reducible refine x_set (fs := ?fs) ?hh ?ll ?_); (case hh => walk_at "m"); (case ll => exact Nat.le_of_ble_eq_true rfl))
  | with_reducible refine ev_lstP ?_
  | with_reducible refine ev_dnew ?_
  | with_reducible refine st_dset ?_
  | with_reducible refine ev_tup ?_
  | with_reducible refine ev_lst ?_
  | with_reducible refine ev_int ?_
  | with_reducible refine ea_cons ?_
  | with_reducible refine ea_nil ?_
  | with_reducible refine ev_op ?_
  | with_reducible refine st_seq ?_
  | with_reducible refine st_asg ?_
  | with_reducible refine ev_call ?_
  | with_reducible refine ev_cb ?_
  | with_reducible refine st_if ?_
  | with_reducible refine et_test ?_
  | with_reducible refine et_not ?_
  | with_reducible refine et_or ?_
  | with_reducible refine et_and ?_
  | with_reducible refine et_tru ?_
  | with_reducible refine et_yes ?_
  | with_reducible refine et_B ?_
  | with_reducible refine ev_chain ?_
  | with_reducible refine ev_chain3 ?_
  | with_reducible refine ev_un ?_
  | with_reducible refine ev_if ?_
  | with_reducible refine ev_bl ?_
  | with_reducible refine ev_non ?_
  | with_reducible refine ev_str ?_
  | with_reducible refine ev_andV ?_
  | with_reducible refine ev_orV ?_
  | with_reducible refine ev_notV ?_
  | with_reducible refine ev_isB ?_
  | with_reducible refine ev_isE ?_
  | with_reducible refine ev_sl2 ?_
  | with_reducible refine ev_slA ?_
  | with_reducible refine ev_slB ?_
  | with_reducible refine ev_bmL ?_
  | with_reducible refine ev_bmL0 ?_
  | with_reducible refine st_ret ?_
  | with_reducible refine st_drop ?_
  | with_reducible refine st_next ?_
  | with_reducible refine st_setL ?_
  | with_reducible refine st_asgG ?_
  | with_reducible refine st_raise ?_
  | with_reducible refine gt_name ?_
  | with_reducible refine gt_tup2 ?_
  | with_reducible refine gt_tup3 ?_
  | walk_at "f")
local macro_rules | `(tactic| walk_at "r") => `(tactic| repeat walk_at "w")

abbrev askF (g w : Addr) : List (Str × DV) := [("game", .r g), ("worker", .r w)]
structure AskAt (m : Mu) (a g b c w d : Addr) (n l : Nat) (row : List QA) (kvs : List (D × D)) : Prop where
  o : m a = some (.ins .asker (askF g w))
  g : GameAt m g b c n l row
  w : WorkAt m w d kvs
  k : WMemo kvs
section
variable {m m' : Mu} {a g b c w d : Addr} {n l : Nat} {row : List QA} {kvs kvs' : List (D × D)}
theorem WorkAt.sub (h : WorkAt m w d kvs) (s : Sub m m') : WorkAt m' w d kvs := ⟨s.some h.o, s.some h.k⟩
theorem AskAt.sub (h : AskAt m a g b c w d n l row kvs) (s : Sub m m') : AskAt m' a g b c w d n l row kvs := ⟨s.some h.o, h.g.sub s, h.w.sub s, h.k⟩
theorem ne_ob {m : Mu} {a b : Addr} {o1 o2 : MO} (h1 : m a = some o1) (h2 : m b = some o2) (h : o1 ≠ o2) : a ≠ b := fun e => by rw [e, h2] at h1; cases h1; exact h rfl
theorem AskAt.put (h : AskAt m a g b c w d n l row kvs) (hk : WMemo kvs') : AskAt (mset m d (.dic kvs')) a g b c w d n l row kvs' := by
  have dk := h.w.k
  have k := fun {x : Addr} (hx : x ≠ d) => mset_ne (m := m) (o := MO.dic kvs') hx
  exact ⟨(k (ne_ob h.o dk (fun z => nomatch z))).trans h.o, h.g.of (k (ne_ob h.g.o dk (fun z => nomatch z))) (k (ne_ob h.g.t dk (fun z => nomatch z))) (k (ne_ob h.g.r dk (fun z => nomatch z))), h.w.put, hk⟩
end
/-! ### making one -/
def S_Asker___init__ : SpD := fun es m R XR => ∃ (a : Addr) (n l : Int), es = [.r a, .d (.int n), .d (.int l)] ∧ m a = some (.ins .asker []) ∧ (¬ GameOk n l → XR .game m) ∧
  (GameOk n l → ¬ Small (countsN n.toNat l.toNat []) → ∀ m', (∀ x, x ≠ a → m x = none ∨ m' x = m x) → XR .counts m') ∧
  (GameOk n l → Small (countsN n.toNat l.toNat []) → ∀ g b c w d m', m g = none → m b = none → m c = none → m w = none → m d = none → AskAt m' a g b c w d n.toNat l.toNat [] [] → (∀ x, x ≠ a → m x = none ∨ m' x = m x) → R (.d .non) m')
def rd_Asker___init__ (G : Ctx) (W : WX) : TS :=
  tSeq (sFldD G .asker (tVar 0) (tMakeS G .game (spL G S_Game___init__) (WE W) (tCons (tVar 1) (tCons (tVar 2) (tNil)))) "game")
  (tSeq (tDrop (tCallS (spL G S_look_small) (WE W) (tCons (tMethD G .game "counts" (spL G S_Game_counts) (WE W) (tFldD G .asker (tVar 0) "game") (tNil)) (tNil))))
  (sFldD G .asker (tVar 0) (tMakeS G .worker (spL G S_Worker___init__) (WE W) (tNil)) "worker"))

theorem len_Asker___init__ : ∀ es m R XR, S_Asker___init__ es m R XR → es.length = 3 := by
  rintro es m R XR ⟨a, b, c, rfl, _⟩
  rfl
theorem sem_Asker___init__ (G : Ctx) : BodyD G 3 (rd_Asker___init__ G) S_Asker___init__ := by
  rintro W es m R XR ⟨a, n, l, rfl, ha, h1, h2, h3⟩
  unfold rd_Asker___init__
  walk_at "r"
  intro g hg
  have hag := ne_new ha hg
  refine ⟨g, n, l, rfl, mset_same, fun z => ⟨m, sub_mset hg, h1 z⟩, fun ok b c m1 hb hc gA fr => ⟨rfl, ?_⟩⟩
  obtain ⟨hbg, hb0⟩ := none_mset hb
  obtain ⟨hcg, hc0⟩ := none_mset hc
  obtain ⟨g1, g2, g3, g4⟩ := id ok
  have hab := ne_new ha hb0
  have hac := ne_new ha hc0
  have ha1 : m1 a = some (.ins .asker []) := by rw [fr a hag hab hac, mset_ne hag]; exact ha
  walk_at "r"
  rw [show putD (Str.ofString "game") (DV.r g) [] = ([("game", .r g)] : List (Str × DV)) from rfl]
  have gA' : GameAt (mset m1 a (.ins .asker [("game", .r g)])) g b c n.toNat l.toNat [] := gA.of (mset_ne hag.symm) (mset_ne hab.symm) (mset_ne hac.symm)
  have go := gA'.o
  have fr2 : ∀ x, x ≠ a → x ≠ g → x ≠ b → x ≠ c → mset m1 a (.ins .asker [("game", .r g)]) x = m x := fun x x1 x2 x3 x4 => by rw [mset_ne x1, fr x x2 x3 x4, mset_ne x2]
  have fr3 : ∀ x, x ≠ a → m x = none ∨ mset m1 a (.ins .asker [("game", .r g)]) x = m x := fun x hx => by
    by_cases x2 : x = g
    · subst x2; exact .inl hg
    by_cases x3 : x = b
    · subst x3; exact .inl hb0
    by_cases x4 : x = c
    · subst x4; exact .inl hc0
    exact .inr (fr2 x hx x2 x3 x4)
  have ha2 : mset m1 a (.ins .asker [("game", .r g)]) a = some (.ins .asker [("game", .r g)]) := mset_same
  generalize mset m1 a (.ins .asker [("game", .r g)]) = m2 at gA' go fr3 ha2
  walk_at "r"
  refine ⟨g, b, c, n.toNat, l.toNat, [], rfl, gA', by omega, by omega, ?_⟩
  walk_at "r"
  refine ⟨_, rfl, by rw [counts_len]; omega, fun sm => ?_, fun sm => h2 ok sm _ fr3⟩
  have new : ∀ x, m2 x = none → x ≠ a → m x = none := fun x hx hxa => by
    rcases fr3 x hxa with z | z
    · exact z
    · rw [← z]; exact hx
  walk_at "r"
  intro w hw
  refine ⟨w, rfl, mset_same, fun d m3 hd wA frw => ⟨rfl, ?_⟩⟩
  obtain ⟨hdw, hd2⟩ := none_mset hd
  have keep : ∀ x o, m2 x = some o → m3 x = some o := fun x o e => by rw [frw x (ne_new e hw) (ne_new e hd2), mset_ne (ne_new e hw)]; exact e
  have haw := ne_new ha2 hw
  have had := ne_new ha2 hd2
  have ha3 := keep _ _ ha2
  walk_at "r"
  refine h3 ok sm g b c w d _ hg hb0 hc0 (new w hw haw.symm) (new d hd2 had.symm) ⟨mset_same, gA'.of ?_ ?_ ?_, ⟨by rw [mset_ne haw.symm]; exact wA.o, by rw [mset_ne had.symm]; exact wA.k⟩, Memo.nil⟩ fun x hx => ?_
  · rw [mset_ne hag.symm, keep _ _ gA'.o, gA'.o]
  · rw [mset_ne hab.symm, keep _ _ gA'.t, gA'.t]
  · rw [mset_ne hac.symm, keep _ _ gA'.r, gA'.r]
  · rw [mset_ne hx]
    rcases fr3 x hx with z | z
    · exact .inl z
    · cases e : m2 x with
      | none => rw [e] at z; exact .inl z.symm
      | some o => right; rw [keep x o e, ← z, e]
/-! ### the question -/
def S_Asker_question : SpD := fun es m R _ => ∃ (a g b c w d : Addr) (n l : Nat) (row : List QA) (kvs : List (D × D)), es = [.r a] ∧ AskAt m a g b c w d n l row kvs ∧ n ≤ 12 ∧ l ≤ 2 ∧
  ((countsN n l row).sum ≤ 1 → R (.d .non) m) ∧
  (1 < (countsN n l row).sum → ∀ q kvs', m q = none → WMemo kvs' → R (.r q) (mset (mset m d (.dic kvs')) q (.lst ((askQ n l row).map D.int))))
def rd_Asker_question (G : Ctx) (W : WX) : TS :=
  tSeq (tAsg (tMethD G .game "counts" (spL G S_Game_counts) (WE W) (tFldD G .asker (tVar 0) "game") (tNil)) (gName 1))
  (tSeq (tIfS (tTest (tOp (rD2 G leF) (tCB (rDn G sumF) (tCons (tVar 1) (tNil))) (tC (.int 1)))) (tRet (tC .non)) (tNext))
  (tSeq (tAsg (tCallS (spL G S_bound) (WE W) (tCons (tVar 1) (tNil))) (gName 2))
  (tSeq (tWhile (tTest (tOp (rD2 G isF) (tMethD G .worker "can" (spL G S_Worker_can) (WE W) (tFldD G .asker (tVar 0) "worker") (tCons (tVar 1) (tCons (tVar 2) (tNil)))) (tC .non))) (tAsg (tOp (rD2 G addF) (tVar 2) (tC (.int 1))) (gName 2)))
  (tSeq (tAsg (tMethD G .worker "can" (spL G S_Worker_can) (WE W) (tFldD G .asker (tVar 0) "worker") (tCons (tVar 1) (tCons (tVar 2) (tNil)))) (gName 3))
  (tSeq (tAsg (tLstO (tNil)) (gName 4))
  (tSeq (tAsg (tMethD G .game "lies" (spL G S_Game_lies) (WE W) (tFldD G .asker (tVar 0) "game") (tNil)) (gName 5))
  (tSeq (tFor (iRng1 (tCons (tCB (rDn G lenF) (tCons (tVar 3) (tNil))) (tNil))) (gName 6) (tDrop (tBM G.K "list" (rDM G extendF) (tVar 4) (tCons (tSl (rDS G sliceF) (tLc (iList G.K (tMethD G .game "left" (spL G S_Game_left) (WE W) (tFldD G .asker (tVar 0) "game") (tNil))) (gName 7) (tTest (tOp (rD2 G eqF) (tOp (rD2 G idxF) (tVar 5) (tVar 7)) (tVar 6))) (tVar 7) [7]) tNoPart (tPart (tOp (rD2 G idxF) (tVar 3) (tVar 6)))) (tNil)))))
  (tRet (tCB (rDn G sortIF) (tCons (tVar 4) (tNil)))))))))))

theorem len_Asker_question : ∀ es m R XR, S_Asker_question es m R XR → es.length = 1 := by
  rintro es m R XR ⟨a, b, c, d, e, f, g, h, i, j, rfl, _⟩
  rfl
theorem seg_left {n l k : Nat} {row : List QA} : (((leftN n l row).filter fun t => decide (liesN row t = k)).map D.int) = (segN n l row k).map D.int := rfl
theorem found_len (n l : Nat) (row : List QA) (ps : List Int) : ∀ i, (foundN n l row ps i).length ≤ i * n
  | 0 => Nat.zero_le _
  | i + 1 => by
    have ih := found_len n l row ps i
    have h2 : (segN n l row i).length ≤ n := Nat.le_trans (List.length_filter_le _ _) (left_len n l row)
    rw [found_succ, List.length_append, List.length_take, Nat.add_mul, Nat.one_mul]
    omega
theorem sem_Asker_question (G : Ctx) : BodyD G 8 (rd_Asker_question G) S_Asker_question := by
  rintro W es m R XR ⟨a, g, b, c, w, d, n, l, row, kvs, rfl, hA, hn, hl, h1, h2⟩
  have ok := counts_ok row hn hl
  have hcl := counts_len n l row
  have ho := hA.o
  have go := hA.g.o
  have wo := hA.w.o
  generalize hcs : countsN n l row = cs at *
  unfold rd_Asker_question
  walk_at "r"
  refine ⟨g, b, c, n, l, row, rfl, hA.g, by omega, by omega, ?_⟩
  rw [hcs]
  walk_at "r"
  refine i_d (fun z => ?_) (fun z => ?_)
  · walk_at "r"
    exact h1 z
  have hs : 1 < cs.sum := by omega
  have hle := leastW_le ok
  have hbl := bound_least ok
  have sp := askP_spec ok hs
  walk_at "r"
  refine ⟨cs, rfl, by omega, fun z => absurd ok.counts z, fun _ => ?_⟩
  refine st_seq ?_
  refine st_while (fun f ds' m' => ∃ i kvs, i + f = leastW cs ∧ WMemo kvs ∧ m' = mset m d (.dic kvs) ∧ ds' = [some (.r a), some (.d (dTup cs)), some (.d (.int (i : Nat))), none, none, none, none, none]) (leastW cs - boundN cs) ⟨boundN cs, kvs, by omega, hA.k, (m_same hA.w.k).symm, rfl⟩ ?_
  rintro f ds' m' ⟨i, kvs1, hf, hM, rfl, rfl⟩
  have hA1 := hA.put hM
  have ho1 := hA1.o
  have wo1 := hA1.w.o
  walk_at "r"
  refine ⟨w, d, kvs1, cs, i, rfl, hA1.w, hM, ok, by omega, by omega, fun kvs2 hM2 => ?_⟩
  rw [mset_mset]
  have key := leastW_spec ok i
  rw [← can_iff i cs ok.nn] at key
  cases e : canW i cs with
  | none =>
    dsimp only [oP]
    walk_at "r"
    rw [e] at key
    have : ¬ leastW cs ≤ i := fun z => by have := key.mpr z; cases this
    exact ⟨f - 1, by omega, i + 1, kvs2, by omega, hM2, rfl, by rw [show ((i : Int) + 1) = ((i + 1 : Nat) : Int) by omega]; rfl⟩
  | some p =>
  dsimp only [oP]
  refine ev_non (f_is_t (ex_bl (i_f ?_)))
  rw [e] at key
  have hi : i = leastW cs := by have := key.mp rfl; omega
  subst hi
  have hA2 := hA.put hM2
  have ho2 := hA2.o
  have wo2 := hA2.w.o
  walk_at "r"
  refine ⟨w, d, kvs2, cs, leastW cs, rfl, hA2.w, hM2, ok, by omega, by omega, fun kvs3 hM3 => ?_⟩
  rw [mset_mset, sp.c]
  have hA3 := hA.put hM3
  have hpl : (askP cs).length = l + 1 := by rw [sp.p.len, hcl]
  dsimp only [oP]
  refine st_seq ?_
  walk_at "r"
  intro fd hfd
  have hfd3 := hfd
  have s1 : Sub (mset m d (.dic kvs3)) (mset (mset m d (.dic kvs3)) fd (.lst [])) := sub_mset hfd
  have hA4 := hA3.sub s1
  have ho4 := hA4.o
  have go4 := hA4.g.o
  walk_at "r"
  refine ⟨g, b, c, n, l, row, rfl, hA4.g, by omega, fun e he => ?_⟩
  obtain ⟨hefd, he3⟩ := none_mset he
  have s2 : Sub (mset m d (.dic kvs3)) (mset (mset (mset m d (.dic kvs3)) fd (.lst [])) e (.lst (liesD n l row))) := s1.new he3
  refine st_seq ?_
  walk_at "r"
  rw [hpl]
  refine ⟨_, rfl, by omega, by omega, ?_⟩
  rw [Int.toNat_natCast]
  refine forN (fun i ds' m' => Sub (mset m d (.dic kvs3)) m' ∧ m' fd = some (.lst ((foundN n l row (askP cs) i).map D.int)) ∧ m' e = some (.lst (liesD n l row)) ∧ ∃ o6, ds' = [some (.r a), some (.d (dTup cs)), some (.d (.int (leastW cs : Nat))), some (.d (dTup (askP cs))), some (.r fd), some (.r e), o6, none]) ⟨s2, by rw [mset_ne hefd.symm, mset_same]; rfl, mset_same, none, rfl⟩ ?_ ?_
  · rintro i ds' m' hi ⟨s, hF, hE, o6, rfl⟩
    have hA5 := hA3.sub s
    have ho5 := hA5.o
    have go5 := hA5.g.o
    have hlen : (leftN n l row).length ≤ n := left_len n l row
    walk_at "r"
    refine ⟨⟨_, hF⟩, ?_⟩
    refine ea_cons (ev_slB (ev_lcl (ev_fr ?_)))
    walk_at "r"
    refine ⟨g, b, c, n, l, row, rfl, hA5.g, by omega, fun x hx => ⟨x, _, rfl, mset_same, _, rfl, ?_⟩⟩
    rw [mdel_mset hx]
    refine lcF (leftN n l row) (fun t => .d (.int t)) (fun t => decide (liesN row t = i)) D.int (by rw [List.map_map]; rfl) (by omega) (fun t M ht hM => ⟨_, .name (by decide), ?_, fun _ => ?_⟩) ?_
    · obtain ⟨t', rfl, ht1, ht2⟩ := mem_left.mp ht
      walk_at "r"
      refine ⟨_, hM _ _ hE, _, lies_at ht1, ?_⟩
      rw [show lieD l ((liesN row (t' : Nat) : Nat) : Int) = .int ((liesN row (t' : Nat) : Nat) : Int) by unfold lieD; rw [if_pos (by omega)]]
      walk_at "r"
      apply decide_eq_decide.mpr
      omega
    · walk_at "r"
      exact rfl
    rw [seg_left]
    walk_at "r"
    refine ⟨_, atI_is (by omega), ?_⟩
    walk_at "r"
    have hp := sp.p.ok.2 i (by omega)
    rw [Int.zero_add] at *
    obtain ⟨j, hj⟩ : ∃ j : Nat, (askP cs).getD i 0 = (j : Int) := ⟨((askP cs).getD i 0).toNat, by omega⟩
    rw [hj, cut_to]
    walk_at "r"
    have hfl := found_len n l row (askP cs) i
    have hfl2 : i * n ≤ 3 * 12 := Nat.mul_le_mul (by omega) hn
    have hsl : (segN n l row i).length ≤ n := Nat.le_trans (List.length_filter_le _ _) hlen
    refine ⟨_, hF, ?_, s.new hfd, ?_, ?_, _, rfl⟩
    · rw [List.length_map, List.length_take, List.length_map]; omega
    · rw [mset_same, found_succ, List.map_append, hj, Int.toNat_natCast, List.map_take]
    · rw [mset_ne hefd]; exact hE
  · rintro ds' m' ⟨s, hF, hE, o6, rfl⟩
    refine st_ret (ev_drop ?_)
    walk_at "r"
    refine ⟨_, vw_r hF, fun qs hp hs' q hq => ?_⟩
    have eq : qs = askQ n l row := by
      have := sortI_uniq hp hs'
      rw [this]; unfold askQ; rw [hcs]
    subst eq
    have hq3 : mset m d (.dic kvs3) q = none := by
      rcases s q with z | z
      · exact z
      · rw [z]; exact hq
    refine ⟨_, fun x => ?_, h2 hs q kvs3 (none_mset hq3).2 hM3⟩
    by_cases x1 : x = q
    · subst x1; rw [mset_same, mset_same]; exact .inr rfl
    · rw [mset_ne x1, mset_ne x1]; exact s x
/-! ### the answer, the thing, what is needed -/
def S_Asker_answer : SpD := fun es m R XR => ∃ (a g b c w d : Addr) (n l : Nat) (row : List QA) (kvs : List (D × D)) (ans : Bool), es = [.r a, .d (.bl ans)] ∧ AskAt m a g b c w d n l row kvs ∧ 1 ≤ n ∧ n ≤ 12 ∧ l ≤ 2 ∧ row.length < 500 ∧
  ((countsN n l row).sum ≤ 1 → XR .counts m) ∧
  (1 < (countsN n l row).sum → leftN n l (row ++ [(askQ n l row, ans)]) ≠ [] ∧ ∀ b' kvs' m', m b' = none → AskAt m' a g b' c w d n l (row ++ [(askQ n l row, ans)]) kvs' → (∀ x, x ≠ g → x ≠ b → x ≠ c → x ≠ d → m x = none ∨ m' x = m x) → R (.d .non) m')
def rd_Asker_answer (G : Ctx) (W : WX) : TS :=
  tSeq (tAsg (tMethD G .asker "question" (spL G S_Asker_question) (WE W) (tVar 0) (tNil)) (gName 2))
  (tSeq (tIfS (tTest (tOp (rD2 G isF) (tVar 2) (tC .non))) (tRaise W (G.has .counts) (G.ex .counts)) (tNext))
  (tDrop (tMethD G .game "ask" (spL G S_Game_ask) (WE W) (tFldD G .asker (tVar 0) "game") (tCons (tVar 2) (tCons (tVar 1) (tNil))))))

theorem len_Asker_answer : ∀ es m R XR, S_Asker_answer es m R XR → es.length = 2 := by
  rintro es m R XR ⟨a, b, c, d, e, f, g, h, i, j, k, rfl, _⟩
  rfl
theorem sem_Asker_answer (G : Ctx) : BodyD G 3 (rd_Asker_answer G) S_Asker_answer := by
  rintro W es m R XR ⟨a, g, b, c, w, d, n, l, row, kvs, ans, rfl, hA, hn1, hn, hl, hrow, h1, h2⟩
  have ho := hA.o
  unfold rd_Asker_answer
  walk_at "r"
  refine ⟨a, g, b, c, w, d, n, l, row, kvs, rfl, hA, hn, hl, fun z => ?_, fun z q kvs1 hq hM1 => ?_⟩
  · walk_at "r"
    exact h1 z
  obtain ⟨hL, h2⟩ := h2 z
  have ak := ask_ok hn hl z
  have s1 : Sub (mset m d (.dic kvs1)) (mset (mset m d (.dic kvs1)) q (.lst ((askQ n l row).map D.int))) := sub_mset (by
    rw [mset_ne (ne_new hA.w.k hq).symm]; exact hq)
  have hA1 := hA.put hM1
  have hA2 := hA1.sub s1
  have ho2 := hA2.o
  have go2 := hA2.g.o
  walk_at "r"
  refine ⟨g, b, c, n, l, row, _, askQ n l row, ans, rfl, hA2.g, hn1, by omega, by omega, by omega, vw_r mset_same, by have := ask_len ak.q hn; omega, fun z => absurd ak.q z, fun _ z => absurd (left_none.mpr z) hL, fun _ _ e m' he gA fr => ?_⟩
  obtain ⟨heq, he1⟩ := none_mset he
  obtain ⟨hed, he0⟩ := none_mset he1
  have kk : ∀ {x : Addr} {o : MO}, mset (mset m d (.dic kvs1)) q (.lst ((askQ n l row).map D.int)) x = some o → (x ≠ g → x ≠ b → x ≠ c → m' x = some o) := fun {x o} e x1 x2 x3 => by rw [fr x x1 x2 x3 (ne_new e he)]; exact e
  refine h2 e kvs1 m' he0 ⟨kk hA2.o (ne_ob hA2.o hA2.g.o (fun z => nomatch z)) (ne_ob hA2.o hA2.g.t (fun z => nomatch z)) (ne_ob hA2.o hA2.g.r (fun z => nomatch z)), gA, ⟨kk hA2.w.o (ne_ob hA2.w.o hA2.g.o (fun z => nomatch z)) (ne_ob hA2.w.o hA2.g.t (fun z => nomatch z)) (ne_ob hA2.w.o hA2.g.r (fun z => nomatch z)), kk hA2.w.k (ne_ob hA2.w.k hA2.g.o (fun z => nomatch z)) (ne_ob hA2.w.k hA2.g.t (fun z => nomatch z)) (ne_ob hA2.w.k hA2.g.r (fun z => nomatch z))⟩, hM1⟩ fun x x1 x2 x3 x4 => ?_
  cases ex : m x with
  | none => exact .inl rfl
  | some o =>
    right
    have hxq := ne_new ex hq
    exact kk (by rw [mset_ne hxq, mset_ne x4]; exact ex) x1 x2 x3
def S_Asker_thing : SpD := fun es m R _ => ∃ (a g b c w d : Addr) (n l : Nat) (row : List QA) (kvs : List (D × D)), es = [.r a] ∧ AskAt m a g b c w d n l row kvs ∧ n ≤ 12 ∧
  (∀ t, leftN n l row = [t] → R (.d (.int t)) m) ∧ ((leftN n l row).length ≠ 1 → R (.d .non) m)
def rd_Asker_thing (G : Ctx) (W : WX) : TS :=
  tSeq (tAsg (tMethD G .game "left" (spL G S_Game_left) (WE W) (tFldD G .asker (tVar 0) "game") (tNil)) (gName 1))
  (tRet (tIf (tTest (tOp (rD2 G eqF) (tCB (rDn G lenF) (tCons (tVar 1) (tNil))) (tC (.int 1)))) (tOp (rD2 G idxF) (tVar 1) (tC (.int 0))) (tC .non)))

theorem len_Asker_thing : ∀ es m R XR, S_Asker_thing es m R XR → es.length = 1 := by
  rintro es m R XR ⟨a, b, c, d, e, f, g, h, i, j, rfl, _⟩
  rfl
theorem sem_Asker_thing (G : Ctx) : BodyD G 2 (rd_Asker_thing G) S_Asker_thing := by
  rintro W es m R XR ⟨a, g, b, c, w, d, n, l, row, kvs, rfl, hA, hn, h1, h2⟩
  have ho := hA.o
  have go := hA.g.o
  unfold rd_Asker_thing
  walk_at "r"
  refine ⟨g, b, c, n, l, row, rfl, hA.g, by omega, fun x hx => ?_⟩
  refine st_frz 1 rfl mset_same ?_
  rw [mdel_mset hx]
  walk_at "r"
  refine i_d (fun z => ?_) (fun z => ?_)
  · obtain ⟨t, ht⟩ := List.length_eq_one_iff.mp (show (leftN n l row).length = 1 by omega)
    rw [ht]
    walk_at "r"
    exact ⟨_, rfl, h1 t ht⟩
  · walk_at "r"
    exact h2 (by omega)
def S_Asker_needed : SpD := fun es m R _ => ∃ (a g b c w d : Addr) (n l : Nat) (row : List QA) (kvs : List (D × D)), es = [.r a] ∧ AskAt m a g b c w d n l row kvs ∧ n ≤ 12 ∧ l ≤ 2 ∧ R (.d (.int (leastW (countsN n l row) : Nat))) m
def rd_Asker_needed (G : Ctx) (W : WX) : TS :=
  tRet (tCallS (spL G S_least) (WE W) (tCons (tMethD G .game "counts" (spL G S_Game_counts) (WE W) (tFldD G .asker (tVar 0) "game") (tNil)) (tNil)))

theorem len_Asker_needed : ∀ es m R XR, S_Asker_needed es m R XR → es.length = 1 := by
  rintro es m R XR ⟨a, b, c, d, e, f, g, h, i, j, rfl, _⟩
  rfl
theorem sem_Asker_needed (G : Ctx) : BodyD G 1 (rd_Asker_needed G) S_Asker_needed := by
  rintro W es m R XR ⟨a, g, b, c, w, d, n, l, row, kvs, rfl, hA, hn, hl, h⟩
  have ho := hA.o
  have go := hA.g.o
  unfold rd_Asker_needed
  walk_at "r"
  refine ⟨g, b, c, n, l, row, rfl, hA.g, by omega, by omega, ?_⟩
  walk_at "r"
  exact ⟨_, rfl, by rw [counts_len]; omega, fun z => absurd (counts_ok row hn hl).small z, fun _ => h⟩
end Lb

/-! MaPl: plans. -/
namespace Lb
open PySem L2
theorem canW_few {n : Nat} {cs : List Int} (h : cs.sum ≤ 1) : canW n cs = some [] := by cases n <;> (rw [canW, if_pos h])
theorem yes_len' {cs p : List Int} (h : PartL cs p) : (yesL 0 cs p).length = cs.length := (yes_nn (Int.le_refl 0) h).2.2
theorem no_len' {cs p : List Int} (h : PartL cs p) : (noL 0 cs p).length = cs.length := (no_nn (Int.le_refl 0) h).2.2
inductive Pl where
  | nil
  | node (p : List Int) (y n : Pl)
  | odd (xs : List D)
def Pl.d : Pl → D
  | .nil => .tup []
  | .node p y n => .tup [dTup p, y.d, n.d]
  | .odd xs => .tup xs
def Pl.deep : Pl → Nat
  | .nil => 0
  | .node _ y n => max y.deep n.deep + 1
  | .odd _ => 0
/-- no odd ones within -/
def Pl.good : Pl → Bool
  | .nil => true
  | .node _ y n => y.good && n.good
  | .odd _ => false
/-- the odd ones are odd, and no part is too long -/
def Pl.ok : Pl → Prop
  | .nil => True
  | .node p y n => p.length ≤ 1000 ∧ y.ok ∧ n.ok
  | .odd xs => xs.length ≠ 0 ∧ xs.length ≠ 3
def lookN : Nat → Pl → Bool
  | k, .nil => decide (k ≤ 60)
  | k, .node _ y n => decide (k ≤ 60) && (lookN (k + 1) y && lookN (k + 1) n)
  | _, .odd _ => false
theorem lookN_iff : ∀ (p : Pl) (k : Nat), lookN k p = true ↔ p.good = true ∧ k + p.deep ≤ 60
  | .nil, k => by simp [lookN, Pl.good, Pl.deep]
  | .odd xs, k => by simp [lookN, Pl.good]
  | .node p y n, k => by
    simp only [lookN, Pl.good, Pl.deep, Bool.and_eq_true, decide_eq_true_eq, lookN_iff y, lookN_iff n]
    constructor
    · rintro ⟨h1, ⟨h2, h3⟩, h4, h5⟩
      exact ⟨⟨h2, h4⟩, by omega⟩
    · rintro ⟨⟨h1, h2⟩, h3⟩
      exact ⟨by omega, ⟨h1, by omega⟩, h2, by omega⟩
instance (cs ps : List Int) : Decidable (PartOk cs ps) := by unfold PartOk; infer_instance
def doesN : Pl → List Int → Nat → Bool
  | .nil, cs, _ => decide (cs.sum ≤ 1)
  | .node p y n, cs, m => decide (m ≠ 0) && (decide (PartOk cs p) && (doesN y (yesL 0 cs p) (m - 1) && doesN n (noL 0 cs p) (m - 1)))
  | .odd _, _, _ => false
/-- the plan of a worker -/
def planW : Nat → List Int → Pl
  | 0, _ => .nil
  | n + 1, cs => if cs.sum ≤ 1 then .nil else match canW (n + 1) cs with
    | none => .nil
    | some p => .node p (planW n (yesL 0 cs p)) (planW n (noL 0 cs p))
theorem planW_few (n : Nat) {cs : List Int} (h : cs.sum ≤ 1) : planW n cs = .nil := by
  cases n with
  | zero => rfl
  | succ n => rw [planW, if_pos h]
theorem planW_node {n : Nat} {cs p : List Int} (h : 1 < cs.sum) (e : canW (n + 1) cs = some p) : planW (n + 1) cs = .node p (planW n (yesL 0 cs p)) (planW n (noL 0 cs p)) := by
  rw [planW, if_neg (by omega), e]
theorem planW_does : ∀ (n : Nat) (cs : List Int), CsOk cs → (canW n cs).isSome = true → doesN (planW n cs) cs n = true
  | n, cs, ok, h => by
    by_cases hs : cs.sum ≤ 1
    · rw [planW_few n hs]; exact decide_eq_true hs
    · cases e : canW n cs with
      | none => rw [e] at h; cases h
      | some p =>
        obtain ⟨k, rfl, hP, hy, hn⟩ := canW_some ok (by omega) e
        rw [planW_node (by omega) e, doesN, decide_eq_true (by omega), decide_eq_true hP.ok, Nat.add_sub_cancel, planW_does k _ (ok.yes hP) hy, planW_does k _ (ok.no hP) hn]
        rfl
theorem planW_deep : ∀ (n : Nat) (cs : List Int), (planW n cs).deep ≤ n
  | 0, _ => Nat.le_refl _
  | n + 1, cs => by
    by_cases hs : cs.sum ≤ 1
    · rw [planW_few _ hs]; exact Nat.zero_le _
    · cases e : canW (n + 1) cs with
      | none => rw [planW, if_neg hs, e]; exact Nat.zero_le _
      | some p =>
        rw [planW_node (by omega) e, Pl.deep]
        have := planW_deep n (yesL 0 cs p)
        have := planW_deep n (noL 0 cs p)
        omega
theorem planW_good : ∀ (n : Nat) (cs : List Int), (planW n cs).good = true
  | 0, _ => rfl
  | n + 1, cs => by
    by_cases hs : cs.sum ≤ 1
    · rw [planW_few _ hs]; rfl
    · cases e : canW (n + 1) cs with
      | none => rw [planW, if_neg hs, e]; rfl
      | some p => rw [planW_node (by omega) e, Pl.good, planW_good n, planW_good n]; rfl
/-- all parts are of one length -/
def Pl.len (k : Nat) : Pl → Prop
  | .nil => True
  | .node p y n => p.length = k ∧ y.len k ∧ n.len k
  | .odd _ => True
theorem Pl.len.ok {k : Nat} : ∀ {p : Pl}, p.len k → p.good = true → k ≤ 1000 → p.ok
  | .nil, _, _, _ => trivial
  | .node p y n, h, g, hk => by
    rw [Pl.good, Bool.and_eq_true] at g
    exact ⟨by have := h.1; omega, h.2.1.ok g.1 hk, h.2.2.ok g.2 hk⟩
  | .odd _, _, g, _ => by cases g
theorem planW_len : ∀ (n : Nat) (cs : List Int), CsOk cs → (canW n cs).isSome = true → (planW n cs).len cs.length
  | n, cs, ok, h => by
    by_cases hs : cs.sum ≤ 1
    · rw [planW_few n hs]; trivial
    · cases e : canW n cs with
      | none => rw [e] at h; cases h
      | some p =>
        obtain ⟨k, rfl, hP, hy, hn⟩ := canW_some ok (by omega) e
        rw [planW_node (by omega) e]
        have h1 := planW_len k _ (ok.yes hP) hy
        have h2 := planW_len k _ (ok.no hP) hn
        have e1 := yes_len' hP
        have e2 := no_len' hP
        rw [e1] at h1
        rw [e2] at h2
        exact ⟨hP.len, h1, h2⟩
/-- what is left behind a plan, by some answers -/
def leftP : Pl → List Int → (Nat → Bool) → Int
  | .nil, cs, _ => cs.sum
  | .odd _, cs, _ => cs.sum
  | .node p y n, cs, f => if f 0 = true then leftP n (noL 0 cs p) (fun k => f (k + 1)) else leftP y (yesL 0 cs p) (fun k => f (k + 1))
theorem does_left : ∀ (p : Pl) (cs : List Int) (m : Nat) (f : Nat → Bool), doesN p cs m = true → leftP p cs f ≤ 1
  | .nil, cs, m, f, h => of_decide_eq_true h
  | .odd _, _, _, _, h => by cases h
  | .node p y n, cs, m, f, h => by
    simp only [doesN, Bool.and_eq_true] at h
    rw [leftP]
    split
    · exact does_left n _ _ _ h.2.2.2
    · exact does_left y _ _ _ h.2.2.1
def Pl.fit : Pl → Prop
  | .nil => True
  | .node p y n => 1 ≤ p.length ∧ p.length ≤ 900 ∧ y.fit ∧ n.fit
  | .odd _ => False
theorem Pl.fit.good : ∀ {p : Pl}, p.fit → p.good = true
  | .nil, _ => rfl
  | .node p y n, h => by rw [Pl.good, h.2.2.1.good, h.2.2.2.good]; rfl
  | .odd _, h => h.elim
theorem Pl.fit.ok : ∀ {p : Pl}, p.fit → p.ok
  | .nil, _ => trivial
  | .node p y n, h => ⟨by have := h.2.1; omega, h.2.2.1.ok, h.2.2.2.ok⟩
  | .odd _, h => h.elim
theorem Pl.len.fit {k : Nat} (h1 : 1 ≤ k) (h2 : k ≤ 900) : ∀ {p : Pl}, p.len k → p.good = true → p.fit
  | .nil, _, _ => trivial
  | .node p y n, h, g => by
    rw [Pl.good, Bool.and_eq_true] at g
    exact ⟨by have := h.1; omega, by have := h.1; omega, Pl.len.fit h1 h2 h.2.1 g.1, Pl.len.fit h1 h2 h.2.2 g.2⟩
  | .odd _, _, g => by cases g
theorem nat_mod (k : Nat) {z : Nat} (hz : 0 < z) : ∃ j : Nat, j < z ∧ (k : Int) % (z : Int) = (j : Int) := ⟨k % z, Nat.mod_lt _ hz, by omega⟩
theorem nat_div (k z : Nat) : (k : Int) / (z : Int) = ((k / z : Nat) : Int) := by omega
theorem sh_pl : ∀ (p : Pl), p.good = true → ∀ n : Nat, p.deep + 1 ≤ n → Sh n p.d
  | .nil, _, n, h => by
    obtain ⟨k, rfl⟩ : ∃ k, n = k + 1 := ⟨n - 1, by omega⟩
    show ∀ x ∈ ([] : List D), Sh k x
    exact fun _ z => nomatch z
  | .odd _, g, _, _ => by cases g
  | .node p y n, g, k, h => by
    rw [Pl.good, Bool.and_eq_true] at g
    rw [Pl.deep] at h
    obtain ⟨j, rfl⟩ : ∃ j, k = j + 2 := ⟨k - 2, by omega⟩
    show ∀ x ∈ [dTup p, y.d, n.d], Sh (j + 1) x
    intro x hx
    simp at hx
    rcases hx with rfl | rfl | rfl
    · exact sh_dTup
    · exact sh_pl y g.1 _ (by omega)
    · exact sh_pl n g.2 _ (by omega)
theorem eqD_tupD (xs ys : List D) : eqD (.tup xs) (.tup ys) = eqDs xs ys := by
  unfold eqD eqDs
  rw [toPy, toPy, PyData.eqv]
def Pl.isNil : Pl → Bool
  | .nil => true
  | _ => false
theorem pl_nil (p : Pl) (g : p.good = true) : eqD p.d (.tup []) = p.isNil := by
  cases p with
  | nil =>
    exact eqD_refl _
  | odd _ => cases g
  | node p y n =>
    rw [Pl.d, eqD_tupD]
    unfold eqDs
    rw [toPys, toPys, PyData.eqvAll]
    rfl
end Lb

/-! Ma70: plans as texts, read by both readers. -/
namespace Lb
open PySem SX
/-! ### the text of a plan -/
def isD (c : Nat) : Bool := decide (48 ≤ c) && decide (c ≤ 57)
theorem isD_iff {c : Nat} : isD c = true ↔ 48 ≤ c ∧ c ≤ 57 := by unfold isD; rw [Bool.and_eq_true, decide_eq_true_eq, decide_eq_true_eq]
def numT (i : Int) : List Nat := TL.numL i.toNat
def ptx (p : List Int) : List Nat := TL.joinL [44] (p.map numT)
def txt : Pl → List Nat
  | .nil => [46]
  | .node p y n => 40 :: (ptx p ++ (32 :: (txt y ++ (32 :: (txt n ++ [41])))))
  | .odd _ => []
/-- parts are not empty, numbers of at most two figures -/
def Pl.fine : Pl → Prop
  | .nil => True
  | .node p y n => p ≠ [] ∧ (∀ x ∈ p, 0 ≤ x ∧ x ≤ 99) ∧ y.fine ∧ n.fine
  | .odd _ => False
theorem Pl.fine.good : ∀ {p : Pl}, p.fine → p.good = true
  | .nil, _ => rfl
  | .node p y n, h => by rw [Pl.good, h.2.2.1.good, h.2.2.2.good]; rfl
  | .odd _, h => h.elim
theorem numT_dig (i : Int) : ∀ c ∈ numT i, isD c = true := fun c hc => isD_iff.mpr (TL.numL_digits _ c hc)
theorem numT_ne (i : Int) : numT i ≠ [] := TL.numL_ne _
/-! ### the program's reader -/
def eat (c : Nat) : List Nat → Option (List Nat)
  | [] => none
  | x :: r => if x = c then some r else none
theorem eat_eq {c : Nat} {l r : List Nat} : eat c l = some r ↔ l = c :: r := by
  cases l with
  | nil => simp [eat]
  | cons x t =>
    show (if x = c then some t else none) = some r ↔ _
    by_cases h : x = c
    · subst h; rw [if_pos rfl]; simp
    · rw [if_neg h]; simp [h]
theorem eat_self (c : Nat) (r : List Nat) : eat c (c :: r) = some r := eat_eq.mpr rfl
def wordOk (w : List Nat) : Bool := decide (1 ≤ w.length) && decide (w.length ≤ 2) && !(decide (w.head? = some 48) && decide (w ≠ [48]))
def numP (l : List Nat) : Option (Int × List Nat) :=
  if wordOk (l.takeWhile isD) = true then some (((NumText.digitsVal (l.takeWhile isD) : Nat) : Int), l.dropWhile isD) else none
def moreP : Nat → List Nat → Option (List Int × List Nat)
  | 0, _ => none
  | f + 1, l => match eat 44 l with
    | none => some ([], l)
    | some r => (numP r).bind fun x => (moreP f x.2).bind fun y => some (x.1 :: y.1, y.2)
def planP : Nat → List Nat → Option (Pl × List Nat)
  | 0, _ => none
  | d + 1, l => match eat 46 l with
    | some r => some (.nil, r)
    | none => (eat 40 l).bind fun r => (numP r).bind fun x => (moreP (x.2.length + 1) x.2).bind fun y => (eat 32 y.2).bind fun r3 => (planP d r3).bind fun u =>
      (eat 32 u.2).bind fun r5 => (planP d r5).bind fun v => (eat 41 v.2).bind fun r7 => some (.node (x.1 :: y.1) u.1 v.1, r7)
def readN (l : List Nat) : Option Pl := (planP 61 l).bind fun x => if x.2 = [] then some x.1 else none
theorem numL2 {a b : Nat} (ha : 1 ≤ a) (ha2 : a ≤ 9) (hb : b ≤ 9) : TL.numL (a * 10 + b) = [48 + a, 48 + b] := by
  rw [TL.numL_step (by omega), show (a * 10 + b) / 10 = a by omega, show (a * 10 + b) % 10 = b by omega, TL.numL_lt (by omega)]
  rfl
theorem word_num : ∀ {w : List Nat}, (∀ c ∈ w, isD c = true) → wordOk w = true → NumText.digitsVal w ≤ 99 ∧ TL.numL (NumText.digitsVal w) = w
  | [], _, h => by simp [wordOk] at h
  | [a], hd, _ => by
    have := isD_iff.mp (hd a (by simp))
    have e : NumText.digitsVal [a] = a - 48 := by simp [NumText.digitsVal]
    rw [e]
    refine ⟨by omega, ?_⟩
    rw [TL.numL_lt (by omega), show 48 + (a - 48) = a by omega]
  | [a, b], hd, h => by
    have h1 := isD_iff.mp (hd a (by simp))
    have h2 := isD_iff.mp (hd b (by simp))
    have h3 : a ≠ 48 := fun e => by subst e; simp [wordOk] at h
    have e : NumText.digitsVal [a, b] = (a - 48) * 10 + (b - 48) := by simp [NumText.digitsVal]
    rw [e]
    refine ⟨by omega, ?_⟩
    rw [numL2 (by omega) (by omega) (by omega), show 48 + (a - 48) = a by omega, show 48 + (b - 48) = b by omega]
  | a :: b :: c :: t, _, h => by simp [wordOk] at h
theorem num_word {n : Nat} (h : n ≤ 99) : wordOk (TL.numL n) = true := by
  by_cases h1 : n < 10
  · rw [TL.numL_lt h1]
    simp [wordOk]
  · obtain ⟨a, b, ha, ha2, hb, e⟩ : ∃ a b, 1 ≤ a ∧ a ≤ 9 ∧ b ≤ 9 ∧ n = a * 10 + b := ⟨n / 10, n % 10, by omega, by omega, by omega, by omega⟩
    subst e
    rw [numL2 ha ha2 hb]
    have : ¬ a = 0 := by omega
    simp [wordOk, this]
theorem tw_dig {p : Nat → Bool} : ∀ (l : List Nat), ∀ c ∈ l.takeWhile p, p c = true
  | [], _, h => nomatch h
  | x :: l, c, h => by
    rw [List.takeWhile_cons] at h
    by_cases e : p x = true
    · rw [if_pos e] at h
      rcases List.mem_cons.mp h with rfl | h
      · exact e
      · exact tw_dig l c h
    · rw [if_neg e] at h; cases h
theorem tw_app {p : Nat → Bool} {a : List Nat} (h : ∀ c ∈ a, p c = true) {b : List Nat} (hb : ∀ c, b.head? = some c → p c = false) : (a ++ b).takeWhile p = a ∧ (a ++ b).dropWhile p = b := by
  induction a with
  | nil =>
    cases b with
    | nil => exact ⟨rfl, rfl⟩
    | cons x t =>
      have := hb x rfl
      rw [List.nil_append, List.takeWhile_cons, List.dropWhile_cons, if_neg (by rw [this]; exact Bool.false_ne_true), if_neg (by rw [this]; exact Bool.false_ne_true)]
      exact ⟨rfl, rfl⟩
  | cons x a ih =>
    have := h x (by simp)
    obtain ⟨i1, i2⟩ := ih fun c hc => h c (List.mem_cons_of_mem _ hc)
    rw [List.cons_append, List.takeWhile_cons, List.dropWhile_cons, if_pos this, if_pos this, i1, i2]
    exact ⟨rfl, rfl⟩
theorem numP_sound {l r : List Nat} {v : Int} (h : numP l = some (v, r)) : l = numT v ++ r ∧ 0 ≤ v ∧ v ≤ 99 := by
  unfold numP at h
  split at h
  case isFalse => cases h
  case isTrue c =>
    cases h
    obtain ⟨h1, h2⟩ := word_num (tw_dig l) c
    refine ⟨?_, by omega, by omega⟩
    unfold numT
    rw [Int.toNat_natCast, h2, List.takeWhile_append_dropWhile]
theorem numP_full {v : Int} (h0 : 0 ≤ v) (h : v ≤ 99) {r : List Nat} (hr : ∀ c, r.head? = some c → isD c = false) : numP (numT v ++ r) = some (v, r) := by
  obtain ⟨h1, h2⟩ := tw_app (numT_dig v) hr
  unfold numP
  rw [h1, h2]
  unfold numT
  rw [if_pos (num_word (by omega)), TL.numL_val, Int.toNat_of_nonneg h0]
theorem ptx_one (v : Int) : ptx [v] = numT v := rfl
theorem ptx_cons (v w : Int) (vs : List Int) : ptx (v :: w :: vs) = numT v ++ (44 :: ptx (w :: vs)) := rfl
theorem more_sound : ∀ {f : Nat} {l r : List Nat} {vs : List Int} (v : Int), moreP f l = some (vs, r) → numT v ++ l = ptx (v :: vs) ++ r ∧ ∀ x ∈ vs, 0 ≤ x ∧ x ≤ 99
  | 0, _, _, _, _, h => by cases h
  | f + 1, l, r, vs, v, h => by
    unfold moreP at h
    cases e : eat 44 l with
    | none => rw [e] at h; cases h; exact ⟨by rw [ptx_one], fun _ z => nomatch z⟩
    | some r1 =>
      rw [e] at h
      obtain ⟨⟨w, r2⟩, e1, h⟩ := Option.bind_eq_some_iff.mp h
      obtain ⟨⟨ws, r3⟩, e2, h⟩ := Option.bind_eq_some_iff.mp h
      cases h
      obtain ⟨a1, a2⟩ := numP_sound e1
      obtain ⟨b1, b2⟩ := more_sound w e2
      rw [eat_eq.mp e, a1, ptx_cons, List.append_assoc, List.cons_append, ← b1]
      refine ⟨rfl, fun x hx => ?_⟩
      rcases List.mem_cons.mp hx with rfl | hx
      · exact a2
      · exact b2 x hx
theorem ptx_len : ∀ (vs : List Int), vs.length ≤ (ptx vs).length
  | [] => Nat.zero_le _
  | [v] => by
    rw [ptx_one]
    exact List.length_pos_iff.mpr (numT_ne v)
  | v :: w :: vs => by
    have := ptx_len (w :: vs)
    have h2 := List.length_pos_iff.mpr (numT_ne v)
    rw [ptx_cons, List.length_append, List.length_cons, List.length_cons (a := 44)]
    omega
theorem more_full : ∀ {f : Nat} (v : Int) (vs : List Int) {r : List Nat}, (∀ x ∈ vs, 0 ≤ x ∧ x ≤ 99) → vs.length < f → (∀ c, r.head? = some c → isD c = false ∧ c ≠ 44) → ∃ l, moreP f l = some (vs, r) ∧ ptx (v :: vs) ++ r = numT v ++ l ∧ ∀ c, l.head? = some c → isD c = false
  | 0, _, _, _, _, hf, _ => by omega
  | f + 1, v, [], r, _, _, hr => by
    refine ⟨r, ?_, by rw [ptx_one], fun c hc => (hr c hc).1⟩
    have : eat 44 r = none := by
      cases e : eat 44 r with
      | none => rfl
      | some t =>
        rw [eat_eq] at e
        subst e
        exact absurd rfl (hr 44 rfl).2
    rw [moreP, this]
  | f + 1, v, w :: vs, r, h, hf, hr => by
    obtain ⟨l, h1, h2, h3⟩ := more_full (f := f) w vs (r := r) (fun x hx => h x (List.mem_cons_of_mem _ hx)) (by rw [List.length_cons] at hf; omega) hr
    refine ⟨44 :: (numT w ++ l), ?_, ?_, ?_⟩
    · have hw := h w (by simp)
      rw [moreP, eat_self]
      show (numP (numT w ++ l)).bind _ = _
      rw [numP_full hw.1 hw.2 h3, Option.bind_some, h1]
      rfl
    · rw [ptx_cons, List.append_assoc, List.cons_append, h2]
    · intro c hc; cases hc; decide
theorem plan_sound : ∀ {d : Nat} {l r : List Nat} {p : Pl}, planP d l = some (p, r) → l = txt p ++ r ∧ p.fine ∧ p.deep < d
  | 0, _, _, _, h => by cases h
  | d + 1, l, r, p, h => by
    unfold planP at h
    cases e : eat 46 l with
    | some r1 =>
      rw [e] at h
      cases h
      exact ⟨eat_eq.mp e, trivial, Nat.zero_lt_succ _⟩
    | none =>
      rw [e] at h
      obtain ⟨r1, e1, h⟩ := Option.bind_eq_some_iff.mp h
      obtain ⟨⟨v, r2⟩, e2, h⟩ := Option.bind_eq_some_iff.mp h
      obtain ⟨⟨vs, r3⟩, e3, h⟩ := Option.bind_eq_some_iff.mp h
      obtain ⟨r4, e4, h⟩ := Option.bind_eq_some_iff.mp h
      obtain ⟨⟨y, r5⟩, e5, h⟩ := Option.bind_eq_some_iff.mp h
      obtain ⟨r6, e6, h⟩ := Option.bind_eq_some_iff.mp h
      obtain ⟨⟨n, r7⟩, e7, h⟩ := Option.bind_eq_some_iff.mp h
      obtain ⟨r8, e8, h⟩ := Option.bind_eq_some_iff.mp h
      cases h
      obtain ⟨a1, a2⟩ := numP_sound e2
      obtain ⟨b1, b2⟩ := more_sound v e3
      obtain ⟨c1, c2, c3⟩ := plan_sound e5
      obtain ⟨d1, d2, d3⟩ := plan_sound e7
      rw [eat_eq] at e1 e4 e6 e8
      dsimp only at e4 e6 e8 b1
      subst e1 e4 e6 e8
      refine ⟨?_, ⟨by simp, fun x hx => ?_, c2, d2⟩, ?_⟩
      · rw [txt, a1, b1, c1, d1]
        simp
      · rcases List.mem_cons.mp hx with rfl | hx
        · exact a2
        · exact b2 x hx
      · rw [Pl.deep]; dsimp only; omega
theorem plan_full : ∀ (p : Pl) (d : Nat) (r : List Nat), p.fine → p.deep < d → planP d (txt p ++ r) = some (p, r)
  | _, 0, _, _, h => by omega
  | .nil, d + 1, r, _, _ => rfl
  | .odd _, _ + 1, _, h, _ => h.elim
  | .node ps y n, d + 1, r, h, hd => by
    obtain ⟨h1, h2, h3, h4⟩ := h
    rw [Pl.deep] at hd
    cases ps with
    | nil => exact absurd rfl h1
    | cons v vs =>
      have e0 : txt (.node (v :: vs) y n) ++ r = 40 :: (ptx (v :: vs) ++ (32 :: (txt y ++ (32 :: (txt n ++ (41 :: r)))))) := by rw [txt]; simp
      have hv := h2 v (by simp)
      have hr : ∀ c, (32 :: (txt y ++ (32 :: (txt n ++ (41 :: r))))).head? = some c → isD c = false ∧ c ≠ 44 := fun c hc => by cases hc; exact ⟨by decide, by decide⟩
      obtain ⟨l, _, a2, a3⟩ := more_full (f := vs.length + 1) v vs (r := 32 :: (txt y ++ (32 :: (txt n ++ (41 :: r))))) (fun x hx => h2 x (List.mem_cons_of_mem _ hx)) (Nat.lt_succ_self _) hr
      have hl : vs.length < l.length + 1 := by
        have e := congrArg List.length a2
        cases vs with
        | nil => exact Nat.zero_lt_succ _
        | cons w ws =>
          rw [ptx_cons] at e
          have := ptx_len (w :: ws)
          simp only [List.length_append, List.length_cons] at e this ⊢
          omega
      obtain ⟨l', b1, b2, b3⟩ := more_full (f := l.length + 1) v vs (r := 32 :: (txt y ++ (32 :: (txt n ++ (41 :: r))))) (fun x hx => h2 x (List.mem_cons_of_mem _ hx)) hl hr
      have : l' = l := List.append_cancel_left (b2.symm.trans a2)
      subst this
      rw [e0, planP]
      show ((eat 40 _).bind _) = _
      rw [eat_self, Option.bind_some, b2, numP_full hv.1 hv.2 b3, Option.bind_some]
      dsimp only
      rw [b1, Option.bind_some]
      dsimp only
      rw [eat_self, Option.bind_some, plan_full y d _ h3 (by omega), Option.bind_some]
      dsimp only
      rw [eat_self, Option.bind_some, plan_full n d _ h4 (by omega), Option.bind_some]
      dsimp only
      rw [eat_self, Option.bind_some]
theorem read_iff (l : List Nat) (p : Pl) : readN l = some p ↔ l = txt p ∧ p.fine ∧ p.deep ≤ 60 := by
  unfold readN
  constructor
  · intro h
    obtain ⟨⟨q, r⟩, e, h⟩ := Option.bind_eq_some_iff.mp h
    obtain ⟨h1, h2, h3⟩ := plan_sound e
    split at h
    case isFalse => cases h
    case isTrue c =>
      cases h
      dsimp only at c
      subst c
      rw [List.append_nil] at h1
      exact ⟨h1, h2, Nat.le_of_lt_succ h3⟩
  · rintro ⟨rfl, h2, h3⟩
    have := plan_full p 61 [] h2 (by omega)
    rw [List.append_nil] at this
    rw [this]
    rfl
end Lb

/-! Sm80a: numbers in rows. -/
namespace Lb
open PySem L2 SX
local macro_rules | `(tactic| walk_at "v") => `(tactic| ((with_reducible refine ev_var (d := ?dv) ?hv ?_); (case hv => exact rfl)))
local macro_rules | `(tactic| walk_at "f") => `(tactic| first
  | with_reducible refine f_in ?_
  | with_reducible refine f_notin ?_
  | with_reducible refine f_add_i ?_
  | with_reducible refine f_add_s ?_
  | with_reducible refine f_add_l ?_
  | with_reducible refine f_add_t ?_
  | with_reducible refine f_sub ?_
  | with_reducible refine f_mul_i ?_
  | with_reducible refine f_mul_l ?_
  | with_reducible refine f_mul_t ?_
  | with_reducible refine f_div ?_
  | with_reducible refine f_mod ?_
  | with_reducible refine f_pow ?_
  | with_reducible refine f_lt ?_
  | with_reducible refine f_le ?_
  | with_reducible refine f_gt ?_
  | with_reducible refine f_ge ?_
  | with_reducible refine f_eq_i ?_
  | with_reducible refine f_ne_i ?_
  | with_reducible refine f_eq_b ?_
  | with_reducible refine f_ne_b ?_
  | with_reducible refine f_is_n ?_
  | with_reducible refine f_isnot_n ?_
  | with_reducible refine f_is_i ?_
  | with_reducible refine f_isnot_i ?_
  | with_reducible refine f_is_b ?_
  | with_reducible refine f_isnot_b ?_
  | with_reducible refine f_is_s ?_
  | with_reducible refine f_isnot_s ?_
  | with_reducible refine f_is_l ?_
  | with_reducible refine f_isnot_l ?_
  | with_reducible refine f_is_t ?_
  | with_reducible refine f_isnot_t ?_
  | with_reducible refine f_is_r ?_
  | with_reducible refine f_isnot_r ?_
  | with_reducible refine f_is ?_
  | with_reducible refine f_isnot ?_
  | with_reducible refine f_neg ?_
  | with_reducible refine f_len_ml ?_
  | with_reducible refine f_len_mt ?_
  | with_reducible refine f_sum_l ?_
  | with_reducible refine f_sum_t ?_
  | with_reducible refine f_all ?_
  | with_reducible refine f_any ?_
  | with_reducible refine f_len_l ?_
  | with_reducible refine f_len_t ?_
  | with_reducible refine f_len_c ?_
  | with_reducible refine f_abs ?_
  | with_reducible refine f_min2 ?_
  | with_reducible refine f_max2 ?_
  | with_reducible refine f_list_l ?_
  | with_reducible refine f_list_t ?_
  | with_reducible refine f_tup_l ?_
  | with_reducible refine f_tup_t ?_
  | with_reducible refine f_int_i ?_
  | with_reducible refine f_int_b ?_
  | with_reducible refine f_sl_l ?_
  | with_reducible refine f_sl_t ?_
  | with_reducible refine f_tr_n ?_
  | with_reducible refine f_tr_b ?_
  | with_reducible refine f_tr_i ?_
  | with_reducible refine f_tr_l ?_
  | with_reducible refine f_tr_t ?_
  | with_reducible refine f_tr_c ?_)
local macro_rules | `(tactic| walk_at "m") => `(tactic| first
  | assumption
  | exact mset_same
  | ((refine (mset_ne ?_).trans ?_); (first | assumption | exact Ne.symm (by assumption)); walk_at "m"))
local macro_rules | `(tactic| walk_at "w") => `(tactic| first
  | walk_at "v"
  | with_reducible refine ev_rev ?_
  | with_reducible refine ev_sset ?_
  | with_reducible refine ev_lcl ?_
  | with_reducible refine ev_lct ?_
  | with_reducible refine ev_lcs ?_
  | with_reducible refine ev_lc1 ?_
  | with_reducible refine ev_lc2 ?_
  | with_reducible refine st_forl ?_
  | with_reducible refine st_fort ?_
  | with_reducible refine st_fors ?_
  | with_reducible refine st_for1 ?_
  | with_reducible refine st_for2 ?_
  | with_reducible refine ex_bl ?_
  | with_reducible refine ex_in ?_
  | with_reducible refine ex_ls ?_
  | with_reducible refine ex_tu ?_
  | with_reducible refine ex_st ?_
  | with_reducible refine ex_d0 ?_
  | with_reducible refine ex_d1 ?_
  | with_reducible refine ex_d2 ?_
  | with_reducible refine ex_d3 ?_
  | with_reducible refine ex_d4 ?_
  | with_reducible refine ex_d5 ?_
  | with_reducible refine ex_d6 ?_
  | with_reducible refine ex_d7 ?_
  | with_reducible refine ex_d8 ?_
  | with_reducible refine m_and ?_
  | with_reducible refine i_t ?_
  | with_reducible refine i_f ?_
  | with_reducible refine i_nt ?_
  | with_reducible refine i_nf ?_
  | with_reducible refine ev_fld ?_
  | ((with_reducible refine x_fld (fs := ?fs) (v := ?vv) ?hh ?ll ?_); (case hh => walk_at "m"); (case ll => exact rfl))
  | with_reducible refine ev_meth ?_
  | ((with_reducible refine x_meth (fs := ?fs) ?hh ?ll ?_); (case hh => walk_at "m"); (case ll => exact rfl))
  | with_reducible refine ev_make ?_
  | with_reducible refine st_fld ?_
  | ((with_reducible refine x_set (fs := ?fs) ?hh ?ll ?_); (case hh => walk_at "m"); (case ll => exact Nat.le_of_ble_eq_true rfl))
  | with_reducible refine ev_lstP ?_
  | with_reducible refine ev_dnew ?_
  | with_reducible refine st_dset ?_
  | with_reducible refine ev_tup ?_
  | with_reducible refine ev_lst ?_
  | with_reducible refine ev_int ?_
  | with_reducible refine ea_cons ?_
  | with_reducible refine ea_nil ?_
  | with_reducible refine ev_op ?_
  | with_reducible refine st_seq ?_
  | with_reducible refine st_asg ?_
  | with_reducible refine ev_call ?_
  | with_reducible refine ev_cb ?_
  | with_reducible refine st_if ?_
  | with_reducible refine et_test ?_
  | with_reducible refine et_not ?_
  | with_reducible refine et_or ?_
  | with_reducible refine et_and ?_
  | with_reducible refine et_tru ?_
  | with_reducible refine et_yes ?_
  | with_reducible refine et_B ?_
  | with_reducible refine ev_chain ?_
  | with_reducible refine ev_chain3 ?_
  | with_reducible refine ev_un ?_
  | with_reducible refine ev_if ?_
  | with_reducible refine ev_bl ?_
  | with_reducible refine ev_non ?_
  | with_reducible refine ev_str ?_
  | with_reducible refine ev_andV ?_
  | with_reducible refine ev_orV ?_
  | with_reducible refine ev_notV ?_
  | with_reducible refine ev_isB ?_
  | with_reducible refine ev_isE ?_
  | with_reducible refine ev_sl2 ?_
  | with_reducible refine ev_slA ?_
  | with_reducible refine ev_slB ?_
  | with_reducible refine ev_bmL ?_
  | with_reducible refine ev_bmL0 ?_
  | with_reducible refine st_ret ?_
  | with_reducible refine st_drop ?_
  | with_reducible refine st_next ?_
  | with_reducible refine st_setL ?_
  | with_reducible refine st_asgG ?_
  | with_reducible refine st_raise ?_
  | with_reducible refine gt_name ?_
  | with_reducible refine gt_tup2 ?_
  | with_reducible refine gt_tup3 ?_
  | walk_at "f")
local macro_rules | `(tactic| walk_at "r") => `(tactic| repeat walk_at "w")

/-- a word that is a number of one or two figures -/
def wordN (w : List Nat) : Option Int := if w.all isD = true ∧ wordOk w = true then some ((NumText.digitsVal w : Nat) : Int) else none
def S_number_in : SpD := fun es m R XR => ∃ w : List Nat, es = [.d (.str (S w))] ∧ w.length ≤ 1000 ∧ (∀ c ∈ w, c < 128) ∧ (∀ v, wordN w = some v → R (.d (.int v)) m) ∧ (wordN w = none → XR .row m)
def rd_number_in (G : Ctx) (W : WX) : TS :=
  tSeq (tIfS (tOr (tNot (tTest (tChain (rD2 G leF) (rD2 G leF) (tC (.int 1)) (tCB (rDn G lenF) (tCons (tVar 0) (tNil))) (tC (.int 2))))) (tOr (tNot (tTru G.K (tCB (rDn G allF) (tCons (tLc (iStr (tVar 0)) (gName 1) (tYes) (tOp (rD2 G inF) (tVar 1) (tC (.str (Str.ofString "0123456789")))) [1]) (tNil))))) (tAnd (tTest (tOp (rD2 G eqF) (tOp (rD2 G idxF) (tVar 0) (tC (.int 0))) (tC (.str (Str.ofString "0"))))) (tTest (tOp (rD2 G neF) (tVar 0) (tC (.str (Str.ofString "0")))))))) (tRaise W (G.has .row) (G.ex .row)) (tNext))
  (tRet (tCB (rDn G intSF) (tCons (tVar 0) (tNil))))

theorem len_number_in : ∀ es m R XR, S_number_in es m R XR → es.length = 1 := by
  rintro es m R XR ⟨a, rfl, _⟩
  rfl
theorem figs_dig' (c : Nat) : decide (c ∈ figs) = isD c := by
  cases h : isD c
  · exact decide_eq_false fun z => by rw [mem_figs] at z; rw [isD_iff.mpr z] at h; cases h
  · exact decide_eq_true ((mem_figs c).mpr (isD_iff.mp h))
theorem one_128' {c : Nat} (h : c < 128) : ∀ x ∈ [c], x < 128 := fun x hx => by rw [List.mem_singleton.mp hx]; exact h
theorem sem_number_in (G : Ctx) : BodyD G 2 (rd_number_in G) S_number_in := by
  rintro W es m R XR ⟨w, rfl, hl, hc, h1, h2⟩
  have bad : wordOk w = false → XR .row m := fun z => h2 (by unfold wordN; rw [if_neg (fun q => by rw [z] at q; cases q.2)])
  unfold rd_number_in
  simp only [figs_S, s_nul]
  walk_at "r"
  refine x_len (by omega) ?_
  walk_at "r"
  refine i_d (fun q1 => ?_) (fun q1 => ?_)
  case refine_2 =>
    walk_at "r"
    exact bad (by unfold wordOk; rw [decide_eq_false (by omega)]; rfl)
  walk_at "r"
  refine i_nd (fun q2 => ?_) (fun q2 => ?_)
  · walk_at "r"
    exact bad (by unfold wordOk; rw [decide_eq_false (p := w.length ≤ 2) (by omega), Bool.and_false]; rfl)
  have q1 : 1 ≤ w.length := by omega
  have q2 : w.length ≤ 2 := by omega
  walk_at "r"
  refine lcM w (fun c => .d (.str (S [c]))) (fun c => .bl (isD c)) (by unfold signs; rw [List.map_map]; rfl) (by omega) (fun c M hm hM => ⟨_, .name (by decide), ?_⟩) ?_
  · walk_at "r"
    refine f_in_figs ?_
    rw [figs_dig']
    exact ⟨rfl, rfl⟩
  walk_at "r"
  refine i_b (fun q3 => ?_) (fun q3 => ?_)
  · walk_at "r"
    exact h2 (by unfold wordN; rw [if_neg]; intro z; rw [z.1] at q3; cases q3)
  have q3 : w.all isD = true := by simpa using q3
  have hw := List.all_eq_true.mp q3
  have good : wordOk w = true → R (.d (.int ((NumText.digitsVal w : Nat) : Int))) m := fun z => h1 _ (by unfold wordN; rw [if_pos ⟨q3, z⟩])
  cases w with
  | nil => simp at q1
  | cons c t =>
    walk_at "r"
    refine x_at (i := 0) (by omega) rfl ?_
    walk_at "r"
    refine x_eq (one_128' (hc c (by simp))) (one_128' (by decide)) ?_
    walk_at "r"
    have fin : wordOk (c :: t) = true → intSF [.d (.str (S (c :: t)))] m R := fun z => by
      refine ⟨_, int_S (List.all_eq_true.mpr fun x hx => hw x hx) (by simp) (by omega), by rw [S_len]; omega, good z⟩
    refine i_d (fun q4 => ?_) (fun q4 => ?_)
    · injection q4 with q4
      subst q4
      walk_at "r"
      refine x_ne hc (one_128' (by decide)) ?_
      walk_at "r"
      refine i_nd (fun q5 => ?_) (fun q5 => ?_)
      · walk_at "r"
        exact bad (by unfold wordOk; rw [decide_eq_true q1, decide_eq_true q2, decide_eq_true (p := ((48 :: t).head? = some 48)) rfl, decide_eq_true q5]; rfl)
      · walk_at "r"
        exact fin (by unfold wordOk; rw [decide_eq_true q1, decide_eq_true q2, decide_eq_false (p := (48 :: t ≠ [48])) (fun z => z q5), Bool.and_false]; rfl)
    · walk_at "r"
      exact fin (by unfold wordOk; rw [decide_eq_true q1, decide_eq_true q2, decide_eq_false (p := ((c :: t).head? = some 48)) (fun z => q4 (by injection z with z; rw [z])), Bool.false_and]; rfl)
end Lb

/-! Ma80: what a desk says, in plain. -/
namespace Lb
open PySem L2 SX
/-! ### texts -/
def cd (s : String) : List Nat := s.toList.map Char.toNat
theorem ofS (s : String) : Str.ofString s = S (cd s) := Str.ofString_eq_toList s
def Asc (x : List Nat) : Prop := ∀ c ∈ x, c < 128
theorem asc_cd {s : String} (h : (cd s).all (· < 128) = true) : Asc (cd s) := fun c hc => of_decide_eq_true (List.all_eq_true.mp h c hc)
theorem Asc.app {x y : List Nat} (h : Asc x) (k : Asc y) : Asc (x ++ y) := fun c hc => (List.mem_append.mp hc).elim (h c) (k c)
theorem asc_numT (i : Int) : Asc (numT i) := fun c hc => by have := isD_iff.mp (numT_dig i c hc); omega
theorem asc_numL (n : Nat) : Asc (TL.numL n) := fun c hc => by have := TL.numL_digits n c hc; omega
theorem Asc.join : ∀ {ps : List (List Nat)}, (∀ p ∈ ps, Asc p) → Asc (TL.joinL [32] ps)
  | [], _ => fun c hc => by cases hc
  | [p], h => h p (by simp)
  | p :: q :: r, h => by
    rw [TL.joinL]
    refine (h p (by simp)).app (Asc.app (fun c hc => ?_) (Asc.join fun x hx => h x (List.mem_cons_of_mem _ hx)))
    rw [List.mem_singleton.mp hc]
    decide
theorem join_len (sep : List Nat) : ∀ ps : List (List Nat), (TL.joinL sep ps).length ≤ (ps.map (·.length)).sum + ps.length * sep.length
  | [] => Nat.zero_le _
  | [p] => by simp [TL.joinL]
  | p :: q :: r => by
    have ih := join_len sep (q :: r)
    rw [TL.joinL, List.length_append, List.length_append]
    rw [List.map_cons, List.sum_cons, List.length_cons, Nat.add_mul, Nat.one_mul]
    omega
theorem join_ne {sep : List Nat} : ∀ {ps : List (List Nat)}, ps ≠ [] → ps.headD [] ≠ [] → TL.joinL sep ps ≠ []
  | [], h, _ => absurd rfl h
  | [p], _, h => h
  | p :: q :: r, _, h => by
    rw [TL.joinL]
    intro z
    exact h (List.append_eq_nil_iff.mp z).1
theorem join_mem {sep : List Nat} {c : Nat} : ∀ {ps : List (List Nat)}, c ∈ TL.joinL sep ps → c ∈ sep ∨ ∃ p ∈ ps, c ∈ p
  | [], h => by cases h
  | [p], h => .inr ⟨p, by simp, h⟩
  | p :: q :: r, h => by
    rw [TL.joinL] at h
    rcases List.mem_append.mp h with h | h
    · exact .inr ⟨p, by simp, h⟩
    · rcases List.mem_append.mp h with h | h
      · exact .inl h
      · rcases join_mem h with h | ⟨x, hx, h⟩
        · exact .inl h
        · exact .inr ⟨x, List.mem_cons_of_mem _ hx, h⟩
def numsJ (xs : List Int) : List Nat := TL.joinL [32] (xs.map numT)
def numsT (xs : List Int) : List Nat := if xs = [] then cd "none" else numsJ xs
theorem numT_len {i : Int} (h1 : 0 ≤ i) (h2 : i ≤ 99) : (numT i).length ≤ 2 := TL.numL_len (by decide) (by omega)
theorem sum_le {ps : List (List Nat)} {k : Nat} (h : ∀ p ∈ ps, p.length ≤ k) : (ps.map (·.length)).sum ≤ ps.length * k := by
  induction ps with
  | nil => simp
  | cons p ps ih =>
    rw [List.map_cons, List.sum_cons, List.length_cons, Nat.add_mul, Nat.one_mul]
    have := h p (by simp)
    have := ih fun q hq => h q (List.mem_cons_of_mem _ hq)
    omega
theorem numsJ_len {xs : List Int} (h : ∀ i ∈ xs, 0 ≤ i ∧ i ≤ 99) : (numsJ xs).length ≤ xs.length * 3 := by
  unfold numsJ
  have h1 := join_len [32] (xs.map numT)
  have h2 := sum_le (ps := xs.map numT) (k := 2) fun p hp => by
    obtain ⟨i, hi, rfl⟩ := List.mem_map.mp hp
    exact numT_len (h i hi).1 (h i hi).2
  rw [List.length_map] at h1 h2
  rw [List.length_singleton, Nat.mul_one] at h1
  omega
theorem numsJ_ne {xs : List Int} (h : xs ≠ []) : numsJ xs ≠ [] := by
  cases xs with
  | nil => exact absurd rfl h
  | cons x xs => exact join_ne (by simp) (numT_ne x)
theorem asc_numsJ (xs : List Int) : Asc (numsJ xs) := Asc.join fun p hp => by
  obtain ⟨i, _, rfl⟩ := List.mem_map.mp hp
  exact asc_numT i
theorem asc_numsT (xs : List Int) : Asc (numsT xs) := by
  unfold numsT
  split
  · exact asc_cd (by decide +kernel)
  · exact asc_numsJ xs
theorem numsT_len {xs : List Int} (h : ∀ i ∈ xs, 0 ≤ i ∧ i ≤ 99) : (numsT xs).length ≤ xs.length * 3 + 4 := by
  unfold numsT
  split
  · rw [show (cd "none").length = 4 by decide +kernel]; omega
  · have := numsJ_len h; omega
def liesT (n l : Nat) (row : List QA) : List Nat := TL.joinL [32] ((toldN n row).map fun k => if k ≤ (l : Int) then numT k else cd "-")
theorem asc_liesT (n l : Nat) (row : List QA) : Asc (liesT n l row) := Asc.join fun p hp => by
  obtain ⟨i, _, rfl⟩ := List.mem_map.mp hp
  split
  · exact asc_numT i
  · exact asc_cd (by decide +kernel)
/-! ### a desk -/
abbrev G8 := Option (Nat × Nat × List QA)
abbrev Rw := List Nat × List (List Nat)
def rowT (p : Rw) : List Nat := TL.joinL [32] (p.1 :: p.2)
def five : List (List Nat) := [cd "left", cd "lies", cd "needed", cd "best", cd "back"]
open Classical in
noncomputable def oneN (n l : Nat) (row : List QA) (w : List Nat) : (Tag ⊕ List Nat) × G8 :=
  if w = cd "left" then (.inr (numsT (leftN n l row)), some (n, l, row))
  else if w = cd "lies" then (.inr (liesT n l row), some (n, l, row))
  else if w = cd "back" then (if row = [] then (.inr (cd "nothing"), some (n, l, row)) else (.inr (cd "back"), some (n, l, row.dropLast)))
  else if ¬ Small (countsN n l row) then (.inl .counts, some (n, l, row))
  else if w = cd "needed" then (.inr (TL.numL (leastW (countsN n l row))), some (n, l, row))
  else if ¬ Small (countsN n l []) then (.inl .counts, some (n, l, row))
  else if (countsN n l row).sum ≤ 1 then (.inr (cd "none left to ask"), some (n, l, row))
  else (.inr (numsT (askQ n l row)), some (n, l, row))
abbrev addR (row : List QA) (p : Rw) : List QA := row ++ [(p.2.filterMap wordN, decide (p.1 = cd "yes"))]
open Classical in
noncomputable def askN (s : G8) (p : Rw) : (Tag ⊕ List Nat) × G8 :=
  if ∃ w ∈ p.2, wordN w = none then (.inl .row, s) else
  match s with
  | none => (.inl .game, none)
  | some (n, l, row) =>
    if ¬ QOk n (p.2.filterMap wordN) then (.inl .question, some (n, l, row))
    else if leftN n l (addR row p) = [] then (.inl .liar, some (n, l, row))
    else (.inr (cd "left " ++ numsT (leftN n l (addR row p))), some (n, l, addR row p))
open Classical in
noncomputable def gameN (s : G8) (a b : List Nat) : (Tag ⊕ List Nat) × G8 :=
  match wordN a, wordN b with
  | some n, some l => if GameOk n l then (.inr (cd "ok"), some (n.toNat, l.toNat, [])) else (.inl .game, s)
  | _, _ => (.inl .row, s)
open Classical in
noncomputable def wordsN (s : G8) (p : Rw) : (Tag ⊕ List Nat) × G8 :=
  if p.2 ≠ [] ∨ p.1 ∉ five then (.inl .row, s) else
  match s with
  | none => (.inl .game, none)
  | some (n, l, row) => oneN n l row p.1
open Classical in
noncomputable def ansN (s : G8) (p : Rw) : (Tag ⊕ List Nat) × G8 :=
  if p.1 = cd "game" ∧ p.2.length = 2 then gameN s (p.2.getD 0 []) (p.2.getD 1 [])
  else if p.1 = cd "yes" ∨ p.1 = cd "no" then askN s p
  else wordsN s p
def refT : Tag → List Nat
  | .row => cd "refused: row"
  | .game => cd "refused: game"
  | .question => cd "refused: question"
  | .counts => cd "refused: counts"
  | .liar => cd "refused: liar"
  | _ => []
def outT : Tag ⊕ List Nat → List Nat
  | .inl t => refT t
  | .inr x => x
noncomputable def saysN : G8 → List Rw → List (List Nat)
  | _, [] => []
  | s, p :: r => outT (ansN s p).1 :: saysN (ansN s p).2 r
noncomputable def stN : G8 → List Rw → G8
  | s, [] => s
  | s, p :: r => stN (ansN s p).2 r
theorem stN_app (p : Rw) : ∀ (s : G8) (r : List Rw), stN s (r ++ [p]) = (ansN (stN s r) p).2
  | _, [] => rfl
  | s, q :: r => stN_app p (ansN s q).2 r
theorem says_app (p : Rw) : ∀ (s : G8) (r : List Rw), saysN s (r ++ [p]) = saysN s r ++ [outT (ansN (stN s r) p).1]
  | _, [] => rfl
  | s, q :: r => by
    rw [List.cons_append, saysN, saysN, stN, says_app p (ansN s q).2 r]
    rfl
theorem says_len : ∀ (s : G8) (r : List Rw), (saysN s r).length = r.length
  | _, [] => rfl
  | s, q :: r => by rw [saysN, List.length_cons, List.length_cons, says_len]
/-! ### what holds of a game -/
def OkS (k : Nat) : G8 → Prop
  | none => True
  | some (n, l, row) => 1 ≤ n ∧ n ≤ 64 ∧ l ≤ 4 ∧ row.length ≤ k ∧ (∀ p ∈ row, QOk n p.1) ∧ leftN n l row ≠ []
theorem OkS.mono {k j : Nat} {s : G8} (h : OkS k s) (hj : k ≤ j) : OkS j s := by
  cases s with
  | none => trivial
  | some x =>
    obtain ⟨n, l, row⟩ := x
    obtain ⟨h1, h2, h3, h4, h5⟩ := h
    exact ⟨h1, h2, h3, by omega, h5⟩
theorem lies_pre {r row : List QA} (h : r <+: row) (t : Int) : liesN r t ≤ liesN row t := by
  obtain ⟨r2, rfl⟩ := h
  unfold liesN
  rw [List.filter_append, List.length_append]
  omega
theorem left_pre {n l : Nat} {r row : List QA} (h : r <+: row) (hl : leftN n l row ≠ []) : leftN n l r ≠ [] := by
  intro z
  apply hl
  rw [left_none] at z ⊢
  intro t ht
  have := z t ht
  have := lies_pre h t
  omega
theorem left_nil {n l : Nat} (h : 1 ≤ n) : leftN n l [] ≠ [] := by
  intro z
  rw [left_none] at z
  have := z 0 (by omega)
  simp [liesN] at this
theorem ok_one {k n l : Nat} {row : List QA} (h : OkS k (some (n, l, row))) (w : List Nat) : OkS (k + 1) (oneN n l row w).2 := by
  have h0 := h.mono (Nat.le_succ k)
  unfold oneN
  repeat' split
  all_goals first | exact h0 | skip
  rename_i hr
  obtain ⟨h1, h2, h3, h4, h5, h6⟩ := h
  refine ⟨h1, h2, h3, by rw [List.length_dropLast]; omega, fun p hp => h5 p ((List.dropLast_prefix row).subset hp), left_pre (List.dropLast_prefix row) h6⟩
theorem ok_ans {k : Nat} {s : G8} (h : OkS k s) (p : Rw) : OkS (k + 1) (ansN s p).2 := by
  have h0 := h.mono (Nat.le_succ k)
  unfold ansN
  split
  · unfold gameN
    split
    · rename_i n l _ _
      split
      · rename_i g
        obtain ⟨g1, g2, g3, g4⟩ := g
        exact ⟨by omega, by omega, by omega, Nat.zero_le _, (fun q hq => nomatch hq), left_nil (by omega)⟩
      · exact h0
    · exact h0
  · split
    · unfold askN
      split
      · exact h0
      · cases s with
        | none => trivial
        | some x =>
          obtain ⟨n, l, row⟩ := x
          dsimp only
          split
          · exact h0
          · rename_i hq
            split
            · exact h0
            · rename_i hl
              obtain ⟨h1, h2, h3, h4, h5, h6⟩ := h
              refine ⟨h1, h2, h3, by rw [List.length_append, List.length_singleton]; omega, fun q hq2 => ?_, hl⟩
              rcases List.mem_append.mp hq2 with z | z
              · exact h5 q z
              · rw [List.mem_singleton.mp z]
                exact Classical.not_not.mp hq
    · unfold wordsN
      split
      · exact h0
      · cases s with
        | none => trivial
        | some x =>
          obtain ⟨n, l, row⟩ := x
          exact ok_one h _
theorem ok_st : ∀ {k : Nat} {s : G8} (r : List Rw), OkS k s → OkS (k + r.length) (stN s r)
  | _, _, [], h => h
  | k, s, p :: r, h => by
    have := ok_st r (ok_ans h p)
    rw [stN, List.length_cons, show k + (r.length + 1) = k + 1 + r.length by omega]
    exact this
theorem asc_ref (t : Tag) : Asc (refT t) := by
  cases t <;> first | exact asc_cd (by decide +kernel) | exact fun c hc => by cases hc
theorem asc_inl (t : Tag) : Asc (outT (.inl t)) := asc_ref t
theorem asc_one (n l : Nat) (row : List QA) (w : List Nat) : Asc (outT (oneN n l row w).1) := by
  unfold oneN
  repeat' split
  all_goals first | exact asc_inl _ | exact asc_numsT _ | exact asc_liesT _ _ _ | exact asc_numL _ | exact asc_cd (by decide +kernel)
theorem asc_ans (s : G8) (p : Rw) : Asc (outT (ansN s p).1) := by
  unfold ansN
  split
  · unfold gameN
    split
    · split
      · exact asc_cd (by decide +kernel)
      · exact asc_inl _
    · exact asc_inl _
  · split
    · unfold askN
      split
      · exact asc_inl _
      · cases s with
        | none => exact asc_inl _
        | some x =>
          dsimp only
          split
          · exact asc_inl _
          · split
            · exact asc_inl _
            · exact (asc_cd (by decide +kernel)).app (asc_numsT _)
    · unfold wordsN
      split
      · exact asc_inl _
      · cases s with
        | none => exact asc_inl _
        | some x => exact asc_one _ _ _ _
/-! ### small counts -/
theorem counts_count (n l : Nat) (row : List QA) : ∀ c ∈ countsN n l row, 0 ≤ c ∧ c ≤ n := fun c hc => by
  obtain ⟨k, _, rfl⟩ := List.mem_map.mp hc
  have := List.countP_le_length (p := fun t => decide (liesN row ((t : Nat) : Int) = k)) (l := List.range n)
  rw [List.length_range] at this
  omega
theorem small_iff {n l : Nat} {row : List QA} (hn : n ≤ 64) : Small (countsN n l row) ↔ (countsN n l row).sum ≤ 12 ∧ l ≤ 2 := by
  constructor
  · intro h
    have := h.2.2
    rw [counts_len] at this
    exact ⟨h.2.1, by omega⟩
  · rintro ⟨h1, h2⟩
    refine ⟨⟨by rw [counts_len]; omega, by rw [counts_len]; omega, fun c hc => ?_⟩, h1, by rw [counts_len]; omega⟩
    have := counts_count n l row c hc
    omega
theorem sum_nil (n l : Nat) : (countsN n l []).sum = n := by
  rw [counts_sum]
  have : leftN n l [] = (List.range n).map fun t => ((t : Nat) : Int) := by
    unfold leftN
    rw [List.filter_eq_self.mpr]
    intro t _
    simp [liesN]
  rw [this]
  simp
theorem small_nil {n l : Nat} (hn : n ≤ 64) : Small (countsN n l []) ↔ n ≤ 12 ∧ l ≤ 2 := by
  rw [small_iff hn, sum_nil]
  omega
/-! ### a row -/
structure RowOk (p : Rw) : Prop where
  ne : p.1 ≠ []
  few : p.2.length ≤ 20
  sh : ∀ w ∈ p.1 :: p.2, w.length ≤ 20
  asc : ∀ w ∈ p.1 :: p.2, ∀ c ∈ w, c < 128 ∧ c ≠ 32 ∧ c ≠ 10
  gm : p.1 = cd "game" → p.2.length = 2 → ∀ w ∈ p.2, wordN w ≠ none
  ask : p.1 = cd "yes" ∨ p.1 = cd "no" → ∀ w ∈ p.2, w.all isD = true
theorem RowOk.split {p : Rw} (h : RowOk p) : Txt.split (S (rowT p)) (S [32]) = (p.1 :: p.2).map S := by
  rw [split_S (by simp) (by decide)]
  unfold rowT
  rw [spl_join (by simp) fun w hw hc => (h.asc w hw 32 hc).2.1 rfl]
theorem RowOk.len {p : Rw} (h : RowOk p) : (rowT p).length ≤ 1000 := by
  have h1 := join_len [32] (p.1 :: p.2)
  have h2 := sum_le h.sh
  have h3 := h.few
  unfold rowT
  rw [List.length_cons] at h1 h2
  rw [List.length_singleton, Nat.mul_one] at h1
  omega
theorem RowOk.tne {p : Rw} (h : RowOk p) : rowT p ≠ [] := join_ne (by simp) h.ne
theorem RowOk.tasc {p : Rw} (h : RowOk p) : Asc (rowT p) := Asc.join fun w hw c hc => (h.asc w hw c hc).1
theorem RowOk.nl {p : Rw} (h : RowOk p) : 10 ∉ rowT p := fun hm => by
  rcases join_mem hm with z | ⟨w, hw, hc⟩
  · simp at z
  · exact (h.asc w hw 10 hc).2.2 rfl
theorem wordN_num {n : Nat} (h : n ≤ 99) : wordN (TL.numL n) = some (n : Int) := by
  unfold wordN
  rw [if_pos ⟨List.all_eq_true.mpr fun c hc => isD_iff.mpr (TL.numL_digits n c hc), num_word h⟩, TL.numL_val]
/-- str(int(word)) is the word just where it is a number in a row -/
theorem dig_le : ∀ {w : List Nat}, w.all isD = true → w.length ≤ 2 → NumText.digitsVal w ≤ 99
  | [], _, _ => by simp [NumText.digitsVal]
  | [a], hd, _ => by
    have := isD_iff.mp (List.all_eq_true.mp hd a (by simp))
    have e : NumText.digitsVal [a] = a - 48 := by simp [NumText.digitsVal]
    omega
  | [a, b], hd, _ => by
    have := isD_iff.mp (List.all_eq_true.mp hd a (by simp))
    have := isD_iff.mp (List.all_eq_true.mp hd b (by simp))
    have e : NumText.digitsVal [a, b] = (a - 48) * 10 + (b - 48) := by simp [NumText.digitsVal]
    omega
  | _ :: _ :: _ :: _, _, h => by simp at h
theorem word_iff {w : List Nat} (hd : w.all isD = true) (h0 : w ≠ []) (h2 : w.length ≤ 2) : TL.numL (NumText.digitsVal w) = w ↔ wordN w ≠ none := by
  unfold wordN
  constructor
  · intro h
    have := num_word (dig_le hd h2)
    rw [h] at this
    rw [if_pos ⟨hd, this⟩]
    exact fun z => nomatch z
  · intro h
    by_cases hw : wordOk w = true
    · exact (word_num (List.all_eq_true.mp hd) hw).2
    · rw [if_neg (fun z => hw z.2)] at h
      exact absurd rfl h
theorem word_bad {w : List Nat} (h : w = [] ∨ 2 < w.length) : wordN w = none := by
  unfold wordN
  rw [if_neg]
  rintro ⟨_, z⟩
  unfold wordOk at z
  rcases h with rfl | h
  · simp at z
  · rw [decide_eq_false (p := w.length ≤ 2) (by omega)] at z
    simp at z
theorem wordN_le {w : List Nat} {v : Int} (h : wordN w = some v) : 0 ≤ v ∧ v ≤ 99 ∧ v = ((NumText.digitsVal w : Nat) : Int) ∧ w.all isD = true ∧ w ≠ [] ∧ w.length ≤ 2 := by
  unfold wordN at h
  split at h
  · rename_i q
    obtain ⟨q1, q2⟩ := q
    cases h
    have := (word_num (List.all_eq_true.mp q1) q2).1
    unfold wordOk at q2
    simp only [Bool.and_eq_true, decide_eq_true_eq] at q2
    exact ⟨by omega, by omega, rfl, q1, fun z => by rw [z] at q2; simp at q2, q2.1.2⟩
  · cases h
/-! ### the best question -/
theorem ask_ne {n l : Nat} {row : List QA} (ak : AskOk n l row) : askQ n l row ≠ [] := fun z => by
  have h := ak.f
  rw [z] at h
  have e : ∀ t : Int, liesN (row ++ [([], false)]) t = liesN row t := fun t => by rw [lies_app]; rfl
  have : countsN n l (row ++ [([], false)]) = countsN n l row := by
    unfold countsN
    apply List.map_congr_left
    intro k _
    congr 1
    apply List.countP_congr
    intro t _
    rw [e]
  rw [this] at h
  omega
theorem sorted_ext {a b : List Int} (ha : a.Pairwise (· < ·)) (hb : b.Pairwise (· < ·)) (h : ∀ x, x ∈ a ↔ x ∈ b) : a = b := by
  have na : a.Nodup := ha.imp fun h => by omega
  have nb : b.Nodup := hb.imp fun h => by omega
  exact List.Perm.eq_of_pairwise (fun x y _ _ h3 h4 => by omega) ha hb ((List.perm_ext_iff_of_nodup na nb).mpr h)
end Lb

/-! Sm80b: the desk. -/
namespace Lb
open PySem L2 SX
local macro_rules | `(tactic| walk_at "v") => `(tactic| ((with_reducible refine ev_var (d := ?dv) ?hv ?_); (case hv => exact rfl)))
local macro_rules | `(tactic| walk_at "f") => `(tactic| first
  | with_reducible refine f_in ?_
  | with_reducible refine f_notin ?_
  | with_reducible refine f_add_i ?_
  | with_reducible refine f_add_s ?_
  | with_reducible refine f_add_l ?_
  | with_reducible refine f_add_t ?_
  | with_reducible refine f_sub ?_
  | with_reducible refine f_mul_i ?_
  | with_reducible refine f_mul_l ?_
  | with_reducible refine f_mul_t ?_
  | with_reducible refine f_div ?_
  | with_reducible refine f_mod ?_
  | with_reducible refine f_pow ?_
  | with_reducible refine f_lt ?_
  | with_reducible refine f_le ?_
  | with_reducible refine f_gt ?_
  | with_reducible refine f_ge ?_
  | with_reducible refine f_eq_i ?_
  | with_reducible refine f_ne_i ?_
  | with_reducible refine f_eq_b ?_
  | with_reducible refine f_ne_b ?_
  | with_reducible refine f_is_n ?_
  | with_reducible refine f_isnot_n ?_
  | with_reducible refine f_is_i ?_
  | with_reducible refine f_isnot_i ?_
  | with_reducible refine f_is_b ?_
  | with_reducible refine f_isnot_b ?_
  | with_reducible refine f_is_s ?_
  | with_reducible refine f_isnot_s ?_
  | with_reducible refine f_is_l ?_
  | with_reducible refine f_isnot_l ?_
  | with_reducible refine f_is_t ?_
  | with_reducible refine f_isnot_t ?_
  | with_reducible refine f_is_r ?_
  | with_reducible refine f_isnot_r ?_
  | with_reducible refine f_is ?_
  | with_reducible refine f_isnot ?_
  | with_reducible refine f_neg ?_
  | with_reducible refine f_len_ml ?_
  | with_reducible refine f_len_mt ?_
  | with_reducible refine f_sum_l ?_
  | with_reducible refine f_sum_t ?_
  | with_reducible refine f_all ?_
  | with_reducible refine f_any ?_
  | with_reducible refine f_len_l ?_
  | with_reducible refine f_len_t ?_
  | with_reducible refine f_len_c ?_
  | with_reducible refine f_abs ?_
  | with_reducible refine f_min2 ?_
  | with_reducible refine f_max2 ?_
  | with_reducible refine f_list_l ?_
  | with_reducible refine f_list_t ?_
  | with_reducible refine f_tup_l ?_
  | with_reducible refine f_tup_t ?_
  | with_reducible refine f_int_i ?_
  | with_reducible refine f_int_b ?_
  | with_reducible refine f_sl_l ?_
  | with_reducible refine f_sl_t ?_
  | with_reducible refine f_tr_n ?_
  | with_reducible refine f_tr_b ?_
  | with_reducible refine f_tr_i ?_
  | with_reducible refine f_tr_l ?_
  | with_reducible refine f_tr_t ?_
  | with_reducible refine f_tr_c ?_)
local macro_rules | `(tactic| walk_at "m") => `(tactic| first
  | assumption
  | exact mset_same
  | ((refine (mset_ne ?_).trans ?_); (first | assumption | exact Ne.symm (by assumption)); walk_at "m"))
local macro_rules | `(tactic| walk_at "w") => `(tactic| first
  | walk_at "v"
  | with_reducible refine ev_rev ?_
  | with_reducible refine ev_sset ?_
  | with_reducible refine ev_lcl ?_
  | with_reducible refine ev_lct ?_
  | with_reducible refine ev_lcs ?_
  | with_reducible refine ev_lc1 ?_
  | with_reducible refine ev_lc2 ?_
  | with_reducible refine st_forl ?_
  | with_reducible refine st_fort ?_
  | with_reducible refine st_fors ?_
  | with_reducible refine st_for1 ?_
  | with_reducible refine st_for2 ?_
  | with_reducible refine ex_bl ?_
  | with_reducible refine ex_in ?_
  | with_reducible refine ex_ls ?_
  | with_reducible refine ex_tu ?_
  | with_reducible refine ex_st ?_
  | with_reducible refine ex_d0 ?_
  | with_reducible refine ex_d1 ?_
  | with_reducible refine ex_d2 ?_
  | with_reducible refine ex_d3 ?_
  | with_reducible refine ex_d4 ?_
  | with_reducible refine ex_d5 ?_
  | with_reducible refine ex_d6 ?_
  | with_reducible refine ex_d7 ?_
  | with_reducible refine ex_d8 ?_
  | with_reducible refine m_and ?_
  | with_reducible refine i_t ?_
  | with_reducible refine i_f ?_
  | with_reducible refine i_nt ?_
  | with_reducible refine i_nf ?_
  | with_reducible refine ev_fld ?_
  | ((with_reducible refine x_fld (fs := ?fs) (v := ?vv) ?hh ?ll ?_); (case hh => walk_at "m"); (case ll => exact rfl))
  | with_reducible refine ev_meth ?_
  | ((with_reducible refine x_meth (fs := ?fs) ?hh ?ll ?_); (case hh => walk_at "m"); (case ll => exact rfl))
  | with_reducible refine ev_make ?_
  | with_reducible refine st_fld ?_
  | ((with_reducible refine x_set (fs := ?fs) ?hh ?ll ?_); (case hh => walk_at "m"); (case ll => exact Nat.le_of_ble_eq_true rfl))
  | with_reducible refine ev_lstP ?_
  | with_reducible refine ev_dnew ?_
  | with_reducible refine st_dset ?_
  | with_reducible refine ev_tup ?_
  | with_reducible refine ev_lst ?_
  | with_reducible refine ev_int ?_
  | with_reducible refine ea_cons ?_
  | with_reducible refine ea_nil ?_
  | with_reducible refine ev_op ?_
  | with_reducible refine st_seq ?_
  | with_reducible refine st_asg ?_
  | with_reducible refine ev_call ?_
  | with_reducible refine ev_cb ?_
  | with_reducible refine st_if ?_
  | with_reducible refine et_test ?_
  | with_reducible refine et_not ?_
  | with_reducible refine et_or ?_
  | with_reducible refine et_and ?_
  | with_reducible refine et_tru ?_
  | with_reducible refine et_yes ?_
  | with_reducible refine et_B ?_
  | with_reducible refine ev_chain ?_
  | with_reducible refine ev_chain3 ?_
  | with_reducible refine ev_un ?_
  | with_reducible refine ev_if ?_
  | with_reducible refine ev_bl ?_
  | with_reducible refine ev_non ?_
  | with_reducible refine ev_str ?_
  | with_reducible refine ev_andV ?_
  | with_reducible refine ev_orV ?_
  | with_reducible refine ev_notV ?_
  | with_reducible refine ev_isB ?_
  | with_reducible refine ev_isE ?_
  | with_reducible refine ev_sl2 ?_
  | with_reducible refine ev_slA ?_
  | with_reducible refine ev_slB ?_
  | with_reducible refine ev_bmL ?_
  | with_reducible refine ev_bmL0 ?_
  | with_reducible refine st_ret ?_
  | with_reducible refine st_drop ?_
  | with_reducible refine st_next ?_
  | with_reducible refine st_setL ?_
  | with_reducible refine st_asgG ?_
  | with_reducible refine st_raise ?_
  | with_reducible refine gt_name ?_
  | with_reducible refine gt_tup2 ?_
  | with_reducible refine gt_tup3 ?_
  | walk_at "f")
local macro_rules | `(tactic| walk_at "r") => `(tactic| repeat walk_at "w")

theorem tCS (s : String) : tC (.str (Str.ofString s)) = tC (.str (S (cd s))) := by rw [ofS]
theorem Room.u1 {k : Nat} {A : Around} (r : Room k A) : A.units + 1 < cLine := by have := r.un; omega
theorem ev_orT {G : Ctx} {W : WX} {ds : DS} {m : Mu} {R : DV → Mu → Prop} {XR : Tag → Mu → Prop} {ta tb : TE} (h : EvD G W ta ds m (fun x m1 => ∃ z : Str, x = .d (.str z) ∧ z.length ≤ 100000 ∧ (z.length ≠ 0 → R (.d (.str z)) m1) ∧ (z.length = 0 → EvD G W tb ds m1 R XR)) XR) : EvD G W (tOrT G.K ta tb) ds m R XR := fun σ H Q s r p x =>
  h σ H _ s r (fun v H1 d m1 t1 s1 r1 ⟨z, e, hz, q1, q2⟩ => by
    subst e
    cases r1
    by_cases c : z.length = 0
    · refine ⟨false, ?_, ?_⟩
      · refine ⟨by have : sizeLine = 16777216 := rfl; omega, ?_⟩
        simp [c]
      · rw [if_neg Bool.false_ne_true]
        exact q2 c σ H1 Q s1 (r.mono t1) (p.tr t1) (x.tr t1)
    · refine ⟨true, ?_, ?_⟩
      · refine ⟨by have : sizeLine = 16777216 := rfl; omega, ?_⟩
        simp [c]
      · rw [if_pos rfl]
        exact p _ H1 _ m1 t1 s1 (RV.dat (Rp.str _)) (q1 c)) x
theorem x_str {m : Mu} {R : DV → Mu → Prop} {i : Int} (h0 : 0 ≤ i) (h1 : i < 10000000) (h : R (.d (.str (S (numT i)))) m) : strF [.d (.int i)] m R := by
  refine ⟨?_, ?_⟩
  · have a : i.natAbs < 2 ^ 24 := by
      have : (2 : Nat) ^ 24 = 16777216 := by decide
      omega
    by_cases z : i.natAbs = 0
    · rw [z]; decide
    · have := (Nat.log2_lt z).mpr a
      omega
  · have e : Str.ofString (toString i) = S (numT i) := by
      have := num_S i.toNat
      rw [Int.toNat_of_nonneg h0] at this
      exact this
    rw [e]
    exact h
/-- texts joined -/
theorem x_join {m : Mu} {R : DV → Mu → Prop} {sep : List Nat} (ps : List (List Nat)) {x : DV} (hx : vw m x = some (.lst (ps.map fun p => D.str (S p)))) (hl : ps.length ≤ 1000) (hs : sep.length ≤ 10) (hp : ∀ p ∈ ps, p.length ≤ 2000) (h : R (.d (.str (S (TL.joinL sep ps)))) m) : joinF (.d (.str (S sep))) [x] m R := by
  refine ⟨ps.map S, by rw [hx, List.map_map]; rfl, ?_, ?_⟩
  · rw [List.map_map, List.length_map, S_len, show (fun x : Str => x.length) ∘ S = List.length from funext fun i => S_len _]
    have := sum_le hp
    have h1 : ps.length * 2000 ≤ 1000 * 2000 := Nat.mul_le_mul_right _ hl
    have h2 : ps.length * sep.length ≤ 1000 * 10 := Nat.mul_le_mul hl hs
    have h3 : (List.map List.length ps).sum = (ps.map (·.length)).sum := rfl
    omega
  · rw [join_S]
    exact h
/-! ### numbers in a text -/
def S_numbers_text : SpD := fun es m R _ => ∃ (x : DV) (xs : List Int), es = [x] ∧ vw m x = some (dInts xs) ∧ (∀ i ∈ xs, 0 ≤ i ∧ i ≤ 99) ∧ xs.length ≤ 100 ∧ R (.d (.str (S (numsT xs)))) m
def rd_numbers_text (G : Ctx) (W : WX) : TS :=
  tRet (tOrT G.K (tM1 (rDM G joinF) (tC (.str (Str.ofString " "))) (tLc (iList G.K (tVar 0)) (gName 1) (tYes) (tCB (rDn G strF) (tCons (tVar 1) (tNil))) [1])) (tC (.str (Str.ofString "none"))))

theorem len_numbers_text : ∀ es m R XR, S_numbers_text es m R XR → es.length = 1 := by
  rintro es m R XR ⟨a, b, rfl, _⟩
  rfl
theorem sem_numbers_text (G : Ctx) : BodyD G 2 (rd_numbers_text G) S_numbers_text := by
  rintro W es m R XR ⟨x, xs, rfl, hx, h0, hl, h⟩
  unfold rd_numbers_text
  simp only [s_spc, ofS "none"]
  have hlen := numsJ_len h0
  have fin : joinF (.d (.str (S [32]))) [.d (.lst (xs.map fun i => D.str (S (numT i))))] m (fun y m1 => ∃ z : Str, y = .d (.str z) ∧ z.length ≤ 100000 ∧ (z.length ≠ 0 → R (.d (.str z)) m1) ∧ (z.length = 0 → EvD G W (tC (.str (S (cd "none")))) (startD 2 [x]) m1 R (fun t m1 => XR t m1))) := by
    refine x_join (xs.map numT) (by rw [List.map_map]; rfl) (by rw [List.length_map]; omega) (by decide) (fun p hp => ?_) ⟨_, rfl, ?_, fun z => ?_, fun z => ?_⟩
    · obtain ⟨i, hi, rfl⟩ := List.mem_map.mp hp
      have := numT_len (h0 i hi).1 (h0 i hi).2
      omega
    · rw [S_len]
      have : (TL.joinL [32] (xs.map numT)).length = (numsJ xs).length := rfl
      omega
    · rw [S_len] at z
      have : xs ≠ [] := fun e => by subst e; exact z rfl
      unfold numsT at h
      rw [if_neg this] at h
      exact h
    · rw [S_len] at z
      have : xs = [] := by
        cases xs with
        | nil => rfl
        | cons y ys => exact absurd (List.eq_nil_of_length_eq_zero z) (numsJ_ne (by simp))
      subst this
      refine ev_str ?_
      exact h
  refine st_ret (ev_orT (ev_m1 (ev_str ⟨⟨_, rfl⟩, ?_⟩)))
  rcases vw_cases hx with rfl | ⟨a, rfl, ea⟩
  · refine ev_lcl ?_
    walk_at "r"
    refine lcM xs (fun i => .d (.int i)) (fun i => .str (S (numT i))) (by rw [List.map_map]; rfl) (by omega) (fun i M hi hM => ⟨_, .name (by decide), ?_⟩) fin
    walk_at "r"
    exact x_str (h0 i hi).1 (by have := (h0 i hi).2; omega) ⟨rfl, rfl⟩
  · refine ev_lcm ?_
    walk_at "r"
    refine ⟨a, _, rfl, ea, ?_⟩
    refine lcM xs (fun i => .d (.int i)) (fun i => .str (S (numT i))) (by rw [List.map_map]; rfl) (by omega) (fun i M hi hM => ⟨_, .name (by decide), ?_⟩) fin (fun M hM => hM _ _ ea)
    walk_at "r"
    exact x_str (h0 i hi).1 (by have := (h0 i hi).2; omega) ⟨rfl, rfl⟩
/-! ### a desk in the store: m0 is the store without it -/
theorem Sub.trans {m m1 m2 : Mu} (h : Sub m m1) (k : Sub m1 m2) : Sub m m2 := fun a => by
  rcases h a with z | z
  · exact .inl z
  · rcases k a with y | y
    · rw [y] at z; exact .inl z
    · exact .inr (z.trans y)
theorem Sub.none' {m m1 : Mu} (h : Sub m m1) {a : Addr} (e : m1 a = none) : m a = none := by
  rcases h a with z | z
  · exact z
  · rw [z]; exact e
structure DeskG (m0 m : Mu) (a g b c : Addr) (n l : Nat) (row : List QA) : Prop where
  sub : Sub m0 m
  o : m a = some (.ins .desk [("game", .r g)])
  ga : GameAt m g b c n l row
  n0 : m0 a = none
  n1 : m0 g = none
  n2 : m0 b = none
  n3 : m0 c = none
def DeskAt (m0 m : Mu) (a : Addr) : G8 → Prop
  | none => Sub m0 m ∧ m a = some (.ins .desk [("game", .d .non)]) ∧ m0 a = none
  | some (n, l, row) => ∃ g b c, DeskG m0 m a g b c n l row
section
variable {m0 m m' : Mu} {a g b c x : Addr} {n l : Nat} {row row' : List QA} {s : G8} {o : MO}
theorem DeskG.up (h : DeskG m0 m a g b c n l row) (k : Sub m m') : DeskG m0 m' a g b c n l row := ⟨h.sub.trans k, k.some h.o, h.ga.sub k, h.n0, h.n1, h.n2, h.n3⟩
theorem DeskAt.up (h : DeskAt m0 m a s) (k : Sub m m') : DeskAt m0 m' a s := by
  cases s with
  | none => exact ⟨h.1.trans k, k.some h.2.1, h.2.2⟩
  | some t =>
    obtain ⟨g, b, c, h⟩ := h
    exact ⟨g, b, c, h.up k⟩
theorem DeskAt.sub (h : DeskAt m0 m a s) : Sub m0 m := by
  cases s with
  | none => exact h.1
  | some t =>
    obtain ⟨g, b, c, h⟩ := h
    exact h.sub
theorem DeskAt.n0 (h : DeskAt m0 m a s) : m0 a = none := by
  cases s with
  | none => exact h.2.2
  | some t =>
    obtain ⟨g, b, c, h⟩ := h
    exact h.n0
theorem DeskAt.is (h : DeskAt m0 m a s) : ∃ fs, m a = some (.ins .desk fs) := by
  cases s with
  | none => exact ⟨_, h.2.1⟩
  | some t =>
    obtain ⟨g, b, c, h⟩ := h
    exact ⟨_, h.o⟩
theorem DeskG.at_ (h : DeskG m0 m a g b c n l row) : DeskAt m0 m a (some (n, l, row)) := ⟨g, b, c, h⟩
/-- something that stands outside changes -/
theorem DeskAt.put (h : DeskAt m0 m a s) (hx : m0 x ≠ none) : DeskAt (mset m0 x o) (mset m x o) a s := by
  have hs : Sub m0 m → Sub (mset m0 x o) (mset m x o) := fun k y => by
    by_cases e : y = x
    · subst e; rw [mset_same, mset_same]; exact .inr rfl
    · rw [mset_ne e, mset_ne e]; exact k y
  have ne : ∀ {y : Addr}, m0 y = none → y ≠ x := fun {y} hy e => hx (by rw [← e]; exact hy)
  cases s with
  | none => exact ⟨hs h.1, by rw [mset_ne (ne h.2.2)]; exact h.2.1, by rw [mset_ne (ne h.2.2)]; exact h.2.2⟩
  | some t =>
    obtain ⟨g, b, c, h⟩ := h
    exact ⟨g, b, c, hs h.sub, by rw [mset_ne (ne h.n0)]; exact h.o, h.ga.of (mset_ne (ne h.n1)) (mset_ne (ne h.n2)) (mset_ne (ne h.n3)), by rw [mset_ne (ne h.n0)]; exact h.n0, by rw [mset_ne (ne h.n1)]; exact h.n1, by rw [mset_ne (ne h.n2)]; exact h.n2, by rw [mset_ne (ne h.n3)]; exact h.n3⟩
/-- a question was asked -/
theorem DeskG.ask (h : DeskG m0 m a g b c n l row) (hx : m x = none) (g' : GameAt m' g x c n l row') (fr : ∀ y, y ≠ g → y ≠ b → y ≠ c → y ≠ x → m' y = m y) : DeskG m0 m' a g x c n l row' := by
  have ho := h.o
  refine ⟨fun y => ?_, ?_, g', h.n0, h.n1, h.sub.none' hx, h.n3⟩
  · cases e : m0 y with
    | none => exact .inl rfl
    | some o =>
      right
      have e1 := h.sub.some e
      rw [fr y (fun z => by rw [z, h.n1] at e; cases e) (fun z => by rw [z, h.n2] at e; cases e) (fun z => by rw [z, h.n3] at e; cases e) (ne_new e1 hx), e1]
  · rw [fr a (ne_ob ho h.ga.o (fun z => nomatch z)) (ne_ob ho h.ga.t (fun z => nomatch z)) (ne_ob ho h.ga.r (fun z => nomatch z)) (ne_new ho hx)]
    exact ho
theorem DeskG.back (h : DeskG m0 m a g b c n l row) (g' : GameAt m' g b c n l row') (fr : ∀ y, y ≠ b → y ≠ c → m' y = m y) : DeskG m0 m' a g b c n l row' := by
  have ho := h.o
  refine ⟨fun y => ?_, ?_, g', h.n0, h.n1, h.n2, h.n3⟩
  · cases e : m0 y with
    | none => exact .inl rfl
    | some o =>
      right
      rw [fr y (fun z => by rw [z, h.n2] at e; cases e) (fun z => by rw [z, h.n3] at e; cases e), h.sub.some e]
  · rw [fr a (ne_ob ho h.ga.t (fun z => nomatch z)) (ne_ob ho h.ga.r (fun z => nomatch z))]
    exact ho
end
/-- what a row brings -/
def Out (m0 : Mu) (a : Addr) (R : DV → Mu → Prop) (XR : Tag → Mu → Prop) (o : (Tag ⊕ List Nat) × G8) : Prop := ∀ m', DeskAt m0 m' a o.2 → match o.1 with
  | .inl t => XR t m'
  | .inr x => R (.d (.str (S x))) m'
theorem Out.x {m0 m' : Mu} {a : Addr} {R : DV → Mu → Prop} {XR : Tag → Mu → Prop} {o : (Tag ⊕ List Nat) × G8} {t : Tag} {s : G8} (h : Out m0 a R XR o) (e : o = (.inl t, s)) (d : DeskAt m0 m' a s) : XR t m' := by
  subst e
  exact h m' d
theorem Out.r {m0 m' : Mu} {a : Addr} {R : DV → Mu → Prop} {XR : Tag → Mu → Prop} {o : (Tag ⊕ List Nat) × G8} {x : List Nat} {s : G8} (h : Out m0 a R XR o) (e : o = (.inr x, s)) (d : DeskAt m0 m' a s) : R (.d (.str (S x))) m' := by
  subst e
  exact h m' d
/-! ### making one, its game -/
def S_Desk___init__ : SpD := fun es m R _ => ∃ (m0 : Mu) (a : Addr), es = [.r a] ∧ m a = some (.ins .desk []) ∧ Sub m0 m ∧ m0 a = none ∧ ∀ m', DeskAt m0 m' a none → R (.d .non) m'
def rd_Desk___init__ (G : Ctx) (W : WX) : TS :=
  sFldD G .desk (tVar 0) (tC .non) "game"

theorem len_Desk___init__ : ∀ es m R XR, S_Desk___init__ es m R XR → es.length = 1 := by
  rintro es m R XR ⟨m0, a, rfl, _⟩
  rfl
theorem sem_Desk___init__ (G : Ctx) : BodyD G 1 (rd_Desk___init__ G) S_Desk___init__ := by
  rintro W es m R XR ⟨m0, a, rfl, ha, hs, h0, h⟩
  unfold rd_Desk___init__
  walk_at "r"
  refine h _ ⟨hs.new h0, mset_same, h0⟩
def S_Desk_need_game : SpD := fun es m R XR => ∃ (m0 : Mu) (a : Addr) (s : G8), es = [.r a] ∧ DeskAt m0 m a s ∧ (s = none → XR .game m) ∧ (∀ g b c n l row, s = some (n, l, row) → DeskG m0 m a g b c n l row → R (.r g) m)
def rd_Desk_need_game (G : Ctx) (W : WX) : TS :=
  tSeq (tIfS (tTest (tOp (rD2 G isF) (tFldD G .desk (tVar 0) "game") (tC .non))) (tRaise W (G.has .game) (G.ex .game)) (tNext))
  (tRet (tFldD G .desk (tVar 0) "game"))

theorem len_Desk_need_game : ∀ es m R XR, S_Desk_need_game es m R XR → es.length = 1 := by
  rintro es m R XR ⟨m0, a, s, rfl, _⟩
  rfl
theorem sem_Desk_need_game (G : Ctx) : BodyD G 1 (rd_Desk_need_game G) S_Desk_need_game := by
  rintro W es m R XR ⟨m0, a, s, rfl, hd, h1, h2⟩
  unfold rd_Desk_need_game
  cases s with
  | none =>
    have ho := hd.2.1
    walk_at "r"
    exact h1 rfl
  | some t =>
    obtain ⟨n, l, row⟩ := t
    obtain ⟨g, b, c, hg⟩ := hd
    have ho := hg.o
    walk_at "r"
    exact h2 g b c n l row rfl hg
/-! ### the best question -/
theorem AskAt.ask {m m' : Mu} {a g b c w d x : Addr} {n l : Nat} {row row' : List QA} {kvs : List (D × D)} (h : AskAt m a g b c w d n l row kvs) (hx : m x = none) (g' : GameAt m' g x c n l row') (fr : ∀ y, y ≠ g → y ≠ b → y ≠ c → y ≠ x → m' y = m y) : AskAt m' a g x c w d n l row' kvs := by
  have kk : ∀ {y : Addr} {o : MO}, m y = some o → (o ≠ .ins .game (gameF n l b c)) → (∀ z, o ≠ .lst z) → m' y = some o := fun {y o} e h1 h2 => by
    rw [fr y (ne_ob e h.g.o h1) (ne_ob e h.g.t (h2 _)) (ne_ob e h.g.r (h2 _)) (ne_new e hx)]
    exact e
  exact ⟨kk h.o (fun z => nomatch z) (fun _ z => nomatch z), g', ⟨kk h.w.o (fun z => nomatch z) (fun _ z => nomatch z), kk h.w.k (fun z => nomatch z) (fun _ z => nomatch z)⟩, h.k⟩
def S_Desk_best : SpD := fun es m R XR => ∃ (m0 : Mu) (a g b c : Addr) (n l : Nat) (row : List QA), es = [.r a, .r g] ∧ DeskG m0 m a g b c n l row ∧ OkS 500 (some (n, l, row)) ∧
  (¬ Small (countsN n l []) → ∀ m', DeskAt m0 m' a (some (n, l, row)) → XR .counts m') ∧
  (Small (countsN n l []) → (countsN n l row).sum ≤ 1 → ∀ m', DeskAt m0 m' a (some (n, l, row)) → R (.d .non) m') ∧
  (Small (countsN n l []) → 1 < (countsN n l row).sum → ∀ m', DeskAt m0 m' a (some (n, l, row)) → R (.d (dInts (askQ n l row))) m')
def rd_Desk_best (G : Ctx) (W : WX) : TS :=
  tSeq (tAsg (tMakeS G .asker (spL G S_Asker___init__) (WE W) (tCons (tFldD G .game (tVar 1) "things") (tCons (tFldD G .game (tVar 1) "most") (tNil)))) (gName 2))
  (tSeq (tFor (iList G.K (tMethD G .game "asked" (spL G S_Game_asked) (WE W) (tVar 1) (tNil))) (gTup G.K 2 (gCons (gName 3) (gCons (gName 4) (gNil)))) (tDrop (tMethD G .game "ask" (spL G S_Game_ask) (WE W) (tFldD G .asker (tVar 2) "game") (tCons (tVar 3) (tCons (tVar 4) (tNil))))))
  (tRet (tMethD G .asker "question" (spL G S_Asker_question) (WE W) (tVar 2) (tNil))))

theorem len_Desk_best : ∀ es m R XR, S_Desk_best es m R XR → es.length = 2 := by
  rintro es m R XR ⟨m0, a, g, b, c, n, l, row, rfl, _⟩
  rfl
theorem qok_len {n : Nat} {q : List Int} (hq : QOk n q) : q.length ≤ n := by
  have : ∀ (q : List Int) (a : Int), q.Pairwise (· < ·) → (∀ k ∈ q, a ≤ k ∧ k < n) → (q.length : Int) ≤ max 0 (n - a) := by
    intro q
    induction q with
    | nil => intro a _ _; simp; omega
    | cons x q ih =>
      intro a h1 h2
      obtain ⟨h3, h4⟩ := List.pairwise_cons.mp h1
      have := ih (x + 1) h4 fun k hk => ⟨by have := h3 k hk; omega, (h2 k (List.mem_cons_of_mem _ hk)).2⟩
      have := h2 x List.mem_cons_self
      rw [List.length_cons]
      omega
  have := this _ 0 hq.1 hq.2
  omega
theorem sem_Desk_best (G : Ctx) : BodyD G 5 (rd_Desk_best G) S_Desk_best := by
  rintro W es m R XR ⟨m0, a, g, b, c, n, l, row, rfl, hd, ok, h1, h2, h3⟩
  obtain ⟨k1, k2, k3, k4, k5, k6⟩ := ok
  have go := hd.ga.o
  have gok : GameOk (n : Int) (l : Int) := ⟨by omega, by omega, by omega, by omega⟩
  unfold rd_Desk_best
  walk_at "r"
  intro k hk
  have fwd : ∀ m', (∀ x, x ≠ k → mset m k (.ins .asker []) x = none ∨ m' x = mset m k (.ins .asker []) x) → Sub m m' := fun m' fr x => by
    by_cases e : x = k
    · subst e; exact .inl hk
    · rcases fr x e with z | z
      · rw [mset_ne e] at z; exact .inl z
      · rw [mset_ne e] at z; exact .inr z.symm
  refine ⟨k, n, l, rfl, mset_same, fun z => absurd gok z, fun _ sm m1 fr => ⟨m1, Sub.refl _, ?_⟩, fun _ sm ag ab ac w d m1 e1 e2 e3 e4 e5 A1 fr => ⟨rfl, ?_⟩⟩
  · rw [Int.toNat_natCast, Int.toNat_natCast] at sm
    exact h1 sm m1 (hd.at_.up (fwd m1 fr))
  rw [Int.toNat_natCast, Int.toNat_natCast] at sm A1
  have s1 := fwd m1 fr
  have q1 := (none_mset e1).2
  have q2 := (none_mset e2).2
  have q3 := (none_mset e3).2
  have q4 := (none_mset e4).2
  have q5 := (none_mset e5).2
  obtain ⟨n12, l2⟩ := (small_nil k2).mp sm
  have go1 := (hd.up s1).ga.o
  refine st_seq (st_forl (ev_fr ?_))
  walk_at "r"
  refine ⟨g, b, c, n, l, row, rfl, (hd.up s1).ga, by omega, fun x hx => ⟨x, _, rfl, mset_same, _, rfl, ?_⟩⟩
  rw [mdel_mset hx]
  refine forL row (fun p => .d (dQA p)) (fun pre ds' m' => Sub m m' ∧ (∃ ab, m ab = none ∧ AskAt m' k ag ab ac w d n l pre []) ∧ ∃ o3 o4, ds' = [some (.r a), some (.r g), some (.r k), o3, o4]) (by rw [List.map_map]; rfl) ⟨s1, ⟨ab, q2, A1⟩, none, none, rfl⟩ ?_ ?_
  · rintro pre ⟨q, ans⟩ post ds' m' epre ⟨hS, ⟨ab', hab, hA⟩, o3, o4, rfl⟩
    have ho := hA.o
    have gao := hA.g.o
    have hq : QOk n q := k5 (q, ans) (by rw [epre]; simp)
    have hql := qok_len hq
    have hpl : pre.length < 500 := by
      have : row.length = pre.length + (post.length + 1) := by rw [epre]; simp
      omega
    have hleft : leftN n l (pre ++ [(q, ans)]) ≠ [] := left_pre ⟨post, by rw [epre]; simp⟩ k6
    walk_at "r"
    refine ⟨ag, ab', ac, n, l, pre, _, q, ans, rfl, hA.g, k1, k2, k3, by omega, rfl, by omega, fun z => absurd hq z, fun _ z => absurd (left_none.mpr z) hleft, fun _ _ y m2 hy g2 fr2 => ?_⟩
    refine ⟨fun z => ?_, ⟨y, hS.none' hy, hA.ask hy g2 fr2⟩, _, _, rfl⟩
    cases e : m z with
    | none => exact .inl rfl
    | some o =>
      right
      have e' := hS.some e
      rw [fr2 z (fun t => by rw [t, q1] at e; cases e) (fun t => by rw [t, hab] at e; cases e) (fun t => by rw [t, q3] at e; cases e) (ne_new e' hy), e']
  · rintro ds' m' ⟨hS, ⟨ab', hab, hA⟩, o3, o4, rfl⟩
    have ho := hA.o
    by_cases hs : (countsN n l row).sum ≤ 1
    · walk_at "r"
      exact ⟨k, ag, ab', ac, w, d, n, l, row, [], rfl, hA, n12, l2, fun _ => h2 sm hs m' (hd.at_.up hS), fun z => absurd z (by omega)⟩
    · refine st_ret (ev_fr ?_)
      walk_at "r"
      refine ⟨k, ag, ab', ac, w, d, n, l, row, [], rfl, hA, n12, l2, fun z => absurd z hs, fun z q kvs' hq hM => ⟨q, _, rfl, mset_same, ?_⟩⟩
      have hdq := ne_new hA.w.k hq
      refine h3 sm z _ (hd.at_.up fun y => ?_)
      rw [mdel_mset (by rw [mset_ne hdq.symm]; exact hq)]
      cases e : m y with
      | none => exact .inl rfl
      | some o =>
        right
        rw [mset_ne (fun t => by rw [t, q5] at e; cases e)]
        exact (hS.some e).symm
/-! ### one word -/
def S_Desk_one_word : SpD := fun es m R XR => ∃ (m0 : Mu) (a g b c : Addr) (n l : Nat) (row : List QA) (w : List Nat), es = [.r a, .d (.str (S w)), .r g] ∧ DeskG m0 m a g b c n l row ∧ OkS 500 (some (n, l, row)) ∧ Asc w ∧ Out m0 a R XR (oneN n l row w)
def rd_Desk_one_word_3 (G : Ctx) (W : WX) : TS :=
  tSeq (tDrop (tCallS (spL G S_look_small) (WE W) (tCons (tMethD G .game "counts" (spL G S_Game_counts) (WE W) (tVar 2) (tNil)) (tNil))))
  (tSeq (tIfS (tTest (tOp (rD2 G eqF) (tVar 1) (tC (.str (Str.ofString "needed"))))) (tRet (tCB (rDn G strF) (tCons (tCallS (spL G S_least) (WE W) (tCons (tMethD G .game "counts" (spL G S_Game_counts) (WE W) (tVar 2) (tNil)) (tNil))) (tNil)))) (tNext))
  (tSeq (tAsg (tMethD G .desk "best" (spL G S_Desk_best) (WE W) (tVar 0) (tCons (tVar 2) (tNil))) (gName 3))
  (tRet (tIf (tTest (tOp (rD2 G isF) (tVar 3) (tC .non))) (tC (.str (Str.ofString "none left to ask"))) (tCallS (spL G S_numbers_text) (WE W) (tCons (tVar 3) (tNil)))))))
def rd_Desk_one_word (G : Ctx) (W : WX) : TS :=
  tSeq (tIfS (tTest (tOp (rD2 G eqF) (tVar 1) (tC (.str (Str.ofString "left"))))) (tRet (tCallS (spL G S_numbers_text) (WE W) (tCons (tMethD G .game "left" (spL G S_Game_left) (WE W) (tVar 2) (tNil)) (tNil)))) (tNext))
  (tSeq (tIfS (tTest (tOp (rD2 G eqF) (tVar 1) (tC (.str (Str.ofString "lies"))))) (tRet (tM1 (rDM G joinF) (tC (.str (Str.ofString " "))) (tLc (iList G.K (tMethD G .game "lies" (spL G S_Game_lies) (WE W) (tVar 2) (tNil))) (gName 4) (tYes) (tIf (tTest (tOp (rD2 G isF) (tVar 4) (tC .non))) (tC (.str (Str.ofString "-"))) (tCB (rDn G strF) (tCons (tVar 4) (tNil)))) [4]))) (tNext))
  (tSeq (tIfS (tTest (tOp (rD2 G eqF) (tVar 1) (tC (.str (Str.ofString "back"))))) (tRet (tIf (tTru G.K (tMethD G .game "back" (spL G S_Game_back) (WE W) (tVar 2) (tNil))) (tC (.str (Str.ofString "back"))) (tC (.str (Str.ofString "nothing"))))) (tNext))
  (rd_Desk_one_word_3 G W)))

theorem len_Desk_one_word : ∀ es m R XR, S_Desk_one_word es m R XR → es.length = 3 := by
  rintro es m R XR ⟨m0, a, g, b, c, n, l, row, w, rfl, _⟩
  rfl
theorem left_99 {n l : Nat} {row : List QA} (hn : n ≤ 64) : ∀ i ∈ leftN n l row, 0 ≤ i ∧ i ≤ 99 := fun i hi => by
  obtain ⟨k, rfl, hk, _⟩ := mem_left.mp hi
  omega
theorem one_3 {G : Ctx} {W : WX} {R : DV → Mu → Prop} {XR : Tag → Mu → Prop} {m m0 : Mu} {a g b c : Addr} {n l : Nat} {row : List QA} {w : List Nat} (hd : DeskG m0 m a g b c n l row) (ok : OkS 500 (some (n, l, row))) (hw : Asc w) (h : Out m0 a R XR (oneN n l row w)) (c1 : ¬ w = cd "left") (c2 : ¬ w = cd "lies") (c3 : ¬ w = cd "back") :
    StD G W (rd_Desk_one_word_3 G W) [some (.r a), some (.d (.str (S w))), some (.r g), none, none] m (NL R) (fun t _ m' => XR t m') := by
  obtain ⟨k1, k2, k3, k4, k5, k6⟩ := id ok
  have go := hd.ga.o
  have ho := hd.o
  have hD := hd.at_
  unfold rd_Desk_one_word_3
  simp only [s_spc, tCS]
  walk_at "r"
  refine ⟨g, b, c, n, l, row, rfl, hd.ga, by omega, by omega, ?_⟩
  walk_at "r"
  refine ⟨_, rfl, by rw [counts_len]; omega, fun sm => ?_, fun sm => h.x (by unfold oneN; rw [if_neg c1, if_neg c2, if_neg c3, if_pos sm]) hD⟩
  walk_at "r"
  refine x_eq hw (asc_cd (by decide +kernel)) ?_
  walk_at "r"
  refine i_d (fun c4 => ?_) (fun c4 => ?_)
  · walk_at "r"
    refine ⟨g, b, c, n, l, row, rfl, hd.ga, by omega, by omega, ?_⟩
    walk_at "r"
    refine ⟨_, rfl, by rw [counts_len]; omega, fun z => absurd sm z, fun _ => ?_⟩
    have hle := leastW_le sm.ok
    walk_at "r"
    refine x_str (by omega) (by omega) ?_
    exact h.r (by unfold oneN; rw [if_neg c1, if_neg c2, if_neg c3, if_neg (fun z => z sm), if_pos c4]; rfl) hD
  walk_at "r"
  refine ⟨m0, a, g, b, c, n, l, row, rfl, hd, ok, fun z m' hD' => ?_, fun sn z m' hD' => ?_, fun sn z m' hD' => ?_⟩
  · exact h.x (by unfold oneN; rw [if_neg c1, if_neg c2, if_neg c3, if_neg (fun z => z sm), if_neg c4, if_pos z]) hD'
  · walk_at "r"
    exact h.r (by unfold oneN; rw [if_neg c1, if_neg c2, if_neg c3, if_neg (fun z => z sm), if_neg c4, if_neg (fun y => y sn), if_pos z]) hD'
  · obtain ⟨n12, l2⟩ := (small_nil k2).mp sn
    have ak := ask_ok n12 l2 z
    have hql := ask_len ak.q n12
    walk_at "r"
    refine ⟨_, askQ n l row, rfl, rfl, fun i hi => left_99 k2 i (ak.inn i hi), by omega, ?_⟩
    exact h.r (by unfold oneN; rw [if_neg c1, if_neg c2, if_neg c3, if_neg (fun z => z sm), if_neg c4, if_neg (fun y => y sn), if_neg (by omega)]) hD'
theorem sem_Desk_one_word (G : Ctx) : BodyD G 5 (rd_Desk_one_word G) S_Desk_one_word := by
  rintro W es m R XR ⟨m0, a, g, b, c, n, l, row, w, rfl, hd, ok, hw, h⟩
  obtain ⟨k1, k2, k3, k4, k5, k6⟩ := id ok
  have go := hd.ga.o
  have ho := hd.o
  have hD := hd.at_
  have hll := left_len n l row
  unfold rd_Desk_one_word
  simp only [s_spc, tCS]
  walk_at "r"
  refine x_eq hw (asc_cd (by decide +kernel)) ?_
  walk_at "r"
  refine i_d (fun c1 => ?_) (fun c1 => ?_)
  · walk_at "r"
    refine ⟨g, b, c, n, l, row, rfl, hd.ga, by omega, fun x hx => ?_⟩
    walk_at "r"
    refine ⟨_, leftN n l row, rfl, vw_r mset_same, left_99 k2, by omega, ?_⟩
    exact h.r (by unfold oneN; rw [if_pos c1]) (hD.up (sub_mset hx))
  walk_at "r"
  refine x_eq hw (asc_cd (by decide +kernel)) ?_
  walk_at "r"
  refine i_d (fun c2 => ?_) (fun c2 => ?_)
  · refine st_ret (ev_m1 (ev_str ⟨⟨_, rfl⟩, ev_lcl (ev_fr ?_)⟩))
    walk_at "r"
    refine ⟨g, b, c, n, l, row, rfl, hd.ga, by omega, fun x hx => ⟨x, _, rfl, mset_same, _, rfl, ?_⟩⟩
    rw [mdel_mset hx]
    refine lcM (toldN n row) (fun k => .d (lieD l k)) (fun k => .str (S (if k ≤ (l : Int) then numT k else cd "-"))) (by unfold liesD; rw [List.map_map]; rfl) (by rw [told_len]; omega) (fun k M hk hM => ⟨_, .name (by decide), ?_⟩) ?_
    · obtain ⟨t, _, rfl⟩ := List.mem_map.mp hk
      unfold lieD
      by_cases e : ((liesN row (t : Int) : Nat) : Int) ≤ (l : Int)
      · rw [if_pos e, if_pos e]
        walk_at "r"
        exact x_str (by omega) (by omega) ⟨rfl, rfl⟩
      · rw [if_neg e, if_neg e]
        walk_at "r"
        exact rfl
    · refine x_join ((toldN n row).map fun k => if k ≤ (l : Int) then numT k else cd "-") (by rw [List.map_map]; rfl) (by rw [List.length_map, told_len]; omega) (by decide) (fun p hp => ?_) ?_
      · obtain ⟨k, hk, rfl⟩ := List.mem_map.mp hp
        obtain ⟨t, _, rfl⟩ := List.mem_map.mp hk
        split
        · have := numT_len (i := ((liesN row (t : Int) : Nat) : Int)) (by omega) (by omega)
          omega
        · decide +kernel
      · exact h.r (by unfold oneN; rw [if_neg c1, if_pos c2]; rfl) hD
  walk_at "r"
  refine x_eq hw (asc_cd (by decide +kernel)) ?_
  walk_at "r"
  refine i_d (fun c3 => ?_) (fun c3 => ?_)
  · walk_at "r"
    refine ⟨g, b, c, n, l, row, rfl, hd.ga, by omega, fun z => ?_, fun r0 p z m' g' fr => ?_⟩
    · walk_at "r"
      exact h.r (by unfold oneN; rw [if_neg c1, if_neg c2, if_pos c3, if_pos z]) hD
    · walk_at "r"
      exact h.r (by unfold oneN; rw [if_neg c1, if_neg c2, if_pos c3, if_neg (by rw [z]; simp), z, List.dropLast_concat]) (hd.back g' fr).at_
  walk_at "r"
  exact one_3 hd ok hw h c1 c2 c3
end Lb

/-! Sm80c: rows answered, said, played. -/
namespace Lb
open PySem L2 SX
local macro_rules | `(tactic| walk_at "v") => `(tactic| ((with_reducible refine ev_var (d := ?dv) ?hv ?_); (case hv => exact rfl)))
local macro_rules | `(tactic| walk_at "f") => `(tactic| first
  | with_reducible refine f_in ?_
  | with_reducible refine f_notin ?_
  | with_reducible refine f_add_i ?_
  | with_reducible refine f_add_s ?_
  | with_reducible refine f_add_l ?_
  | with_reducible refine f_add_t ?_
  | with_reducible refine f_sub ?_
  | with_reducible refine f_mul_i ?_
  | with_reducible refine f_mul_l ?_
  | with_reducible refine f_mul_t ?_
  | with_reducible refine f_div ?_
  | with_reducible refine f_mod ?_
  | with_reducible refine f_pow ?_
  | with_reducible refine f_lt ?_
  | with_reducible refine f_le ?_
  | with_reducible refine f_gt ?_
  | with_reducible refine f_ge ?_
  | with_reducible refine f_eq_i ?_
  | with_reducible refine f_ne_i ?_
  | with_reducible refine f_eq_b ?_
  | with_reducible refine f_ne_b ?_
  | with_reducible refine f_is_n ?_
  | with_reducible refine f_isnot_n ?_
  | with_reducible refine f_is_i ?_
  | with_reducible refine f_isnot_i ?_
  | with_reducible refine f_is_b ?_
  | with_reducible refine f_isnot_b ?_
  | with_reducible refine f_is_s ?_
  | with_reducible refine f_isnot_s ?_
  | with_reducible refine f_is_l ?_
  | with_reducible refine f_isnot_l ?_
  | with_reducible refine f_is_t ?_
  | with_reducible refine f_isnot_t ?_
  | with_reducible refine f_is_r ?_
  | with_reducible refine f_isnot_r ?_
  | with_reducible refine f_is ?_
  | with_reducible refine f_isnot ?_
  | with_reducible refine f_neg ?_
  | with_reducible refine f_len_ml ?_
  | with_reducible refine f_len_mt ?_
  | with_reducible refine f_sum_l ?_
  | with_reducible refine f_sum_t ?_
  | with_reducible refine f_all ?_
  | with_reducible refine f_any ?_
  | with_reducible refine f_len_l ?_
  | with_reducible refine f_len_t ?_
  | with_reducible refine f_len_c ?_
  | with_reducible refine f_abs ?_
  | with_reducible refine f_min2 ?_
  | with_reducible refine f_max2 ?_
  | with_reducible refine f_list_l ?_
  | with_reducible refine f_list_t ?_
  | with_reducible refine f_tup_l ?_
  | with_reducible refine f_tup_t ?_
  | with_reducible refine f_int_i ?_
  | with_reducible refine f_int_b ?_
  | with_reducible refine f_sl_l ?_
  | with_reducible refine f_sl_t ?_
  | with_reducible refine f_tr_n ?_
  | with_reducible refine f_tr_b ?_
  | with_reducible refine f_tr_i ?_
  | with_reducible refine f_tr_l ?_
  | with_reducible refine f_tr_t ?_
  | with_reducible refine f_tr_c ?_)
local macro_rules | `(tactic| walk_at "m") => `(tactic| first
  | assumption
  | exact mset_same
  | ((refine (mset_ne ?_).trans ?_); (first | assumption | exact Ne.symm (by assumption)); walk_at "m"))
local macro_rules | `(tactic| walk_at "w") => `(tactic| first
  | walk_at "v"
  | with_reducible refine ev_rev ?_
  | with_reducible refine ev_sset ?_
  | with_reducible refine ev_lcl ?_
  | with_reducible refine ev_lct ?_
  | with_reducible refine ev_lcs ?_
  | with_reducible refine ev_lc1 ?_
  | with_reducible refine ev_lc2 ?_
  | with_reducible refine st_forl ?_
  | with_reducible refine st_fort ?_
  | with_reducible refine st_fors ?_
  | with_reducible refine st_for1 ?_
  | with_reducible refine st_for2 ?_
  | with_reducible refine ex_bl ?_
  | with_reducible refine ex_in ?_
  | with_reducible refine ex_ls ?_
  | with_reducible refine ex_tu ?_
  | with_reducible refine ex_st ?_
  | with_reducible refine ex_d0 ?_
  | with_reducible refine ex_d1 ?_
  | with_reducible refine ex_d2 ?_
  | with_reducible refine ex_d3 ?_
  | with_reducible refine ex_d4 ?_
  | with_reducible refine ex_d5 ?_
  | with_reducible refine ex_d6 ?_
  | with_reducible refine ex_d7 ?_
  | with_reducible refine ex_d8 ?_
  | with_reducible refine m_and ?_
  | with_reducible refine i_t ?_
  | with_reducible refine i_f ?_
  | with_reducible refine i_nt ?_
  | with_reducible refine i_nf ?_
  | with_reducible refine ev_fld ?_
  | ((with_reducible refine x_fld (fs := ?fs) (v := ?vv) ?hh ?ll ?_); (case hh => walk_at "m"); (case ll => exact rfl))
  | with_reducible refine ev_meth ?_
  | ((with_reducible refine x_meth (fs := ?fs) ?hh ?ll ?_); (case hh => walk_at "m"); (case ll => exact rfl))
  | with_reducible refine ev_make ?_
  | with_reducible refine st_fld ?_
  | ((with_reducible refine x_set (fs := ?fs) ?hh ?ll ?_); (case hh => walk_at "m"); (case ll => exact Nat.le_of_ble_eq_true rfl))
  | with_reducible refine ev_lstP ?_
  | with_reducible refine ev_dnew ?_
  | with_reducible refine st_dset ?_
  | with_reducible refine ev_tup ?_
  | with_reducible refine ev_lst ?_
  | with_reducible refine ev_int ?_
  | with_reducible refine ea_cons ?_
  | with_reducible refine ea_nil ?_
  | with_reducible refine ev_op ?_
  | with_reducible refine st_seq ?_
  | with_reducible refine st_asg ?_
  | with_reducible refine ev_call ?_
  | with_reducible refine ev_cb ?_
  | with_reducible refine st_if ?_
  | with_reducible refine et_test ?_
  | with_reducible refine et_not ?_
  | with_reducible refine et_or ?_
  | with_reducible refine et_and ?_
  | with_reducible refine et_tru ?_
  | with_reducible refine et_yes ?_
  | with_reducible refine et_B ?_
  | with_reducible refine ev_chain ?_
  | with_reducible refine ev_chain3 ?_
  | with_reducible refine ev_un ?_
  | with_reducible refine ev_if ?_
  | with_reducible refine ev_bl ?_
  | with_reducible refine ev_non ?_
  | with_reducible refine ev_str ?_
  | with_reducible refine ev_andV ?_
  | with_reducible refine ev_orV ?_
  | with_reducible refine ev_notV ?_
  | with_reducible refine ev_isB ?_
  | with_reducible refine ev_isE ?_
  | with_reducible refine ev_sl2 ?_
  | with_reducible refine ev_slA ?_
  | with_reducible refine ev_slB ?_
  | with_reducible refine ev_bmL ?_
  | with_reducible refine ev_bmL0 ?_
  | with_reducible refine st_ret ?_
  | with_reducible refine st_drop ?_
  | with_reducible refine st_next ?_
  | with_reducible refine st_setL ?_
  | with_reducible refine st_asgG ?_
  | with_reducible refine st_raise ?_
  | with_reducible refine gt_name ?_
  | with_reducible refine gt_tup2 ?_
  | with_reducible refine gt_tup3 ?_
  | walk_at "f")
local macro_rules | `(tactic| walk_at "r") => `(tactic| repeat walk_at "w")

theorem eqD_SS (a b : List Nat) : eqD (.str (S b)) (.str (S a)) = decide (a = b) := by
  rw [eqD_S]
  exact decide_eq_decide.mpr ⟨fun h => h.symm, fun h => h.symm⟩
theorem any_S (w : List Nat) : ∀ ps : List (List Nat), ((ps.map fun p => D.str (S p)).any fun y => eqD y (.str (S w))) = decide (w ∈ ps)
  | [] => rfl
  | p :: ps => by
    rw [List.map_cons, List.any_cons, any_S w ps, eqD_SS]
    by_cases h : w = p
    · subst h; simp
    · simp [h]
theorem sh_Ss {n : Nat} {ps : List (List Nat)} (h : ∀ p ∈ ps, Asc p) : ∀ y ∈ ps.map (fun p => D.str (S p)), Sh n y := fun y hy => by
  obtain ⟨p, hp, rfl⟩ := List.mem_map.mp hy
  exact sh_S (h p hp)
theorem x_inT {m : Mu} {R : DV → Mu → Prop} {w : List Nat} {xs : List D} (ps : List (List Nat)) (hx : xs = ps.map fun p => D.str (S p)) (hw : Asc w) (hp : ∀ p ∈ ps, Asc p) (h : R (.d (.bl (decide (w ∈ ps)))) m) : inF (.d (.str (S w))) (.d (.tup xs)) m R := by
  subst hx
  refine ⟨sh_S hw, sh_Ss hp, ?_⟩
  rw [any_S]
  exact h
theorem x_inL {m : Mu} {R : DV → Mu → Prop} {w : List Nat} {xs : List D} (ps : List (List Nat)) (hx : xs = ps.map fun p => D.str (S p)) (hw : Asc w) (hp : ∀ p ∈ ps, Asc p) (h : R (.d (.bl (decide (w ∈ ps)))) m) : inF (.d (.str (S w))) (.d (.lst xs)) m R := by
  subst hx
  refine ⟨sh_S hw, sh_Ss hp, ?_⟩
  rw [any_S]
  exact h
theorem x_ninT {m : Mu} {R : DV → Mu → Prop} {w : List Nat} {xs : List D} (ps : List (List Nat)) (hx : xs = ps.map fun p => D.str (S p)) (hw : Asc w) (hp : ∀ p ∈ ps, Asc p) (h : R (.d (.bl (!decide (w ∈ ps)))) m) : notinF (.d (.str (S w))) (.d (.tup xs)) m R := by
  subst hx
  refine ⟨sh_S hw, sh_Ss hp, ?_⟩
  rw [any_S]
  exact h
theorem asc_yn : ∀ p ∈ [cd "yes", cd "no"], Asc p := fun p hp => by
  simp only [List.mem_cons, List.not_mem_nil, or_false] at hp
  rcases hp with rfl | rfl <;> exact asc_cd (by decide +kernel)
theorem asc_five : ∀ p ∈ five, Asc p := fun p hp => by
  simp only [five, List.mem_cons, List.not_mem_nil, or_false] at hp
  rcases hp with rfl | rfl | rfl | rfl | rfl <;> exact asc_cd (by decide +kernel)
theorem fm_words (r : List (List Nat)) : r.filterMap (fun w => (wordN w).map D.int) = (r.filterMap wordN).map D.int := by
  induction r with
  | nil => rfl
  | cons w r ih =>
    rw [List.filterMap_cons, List.filterMap_cons]
    cases wordN w with
    | none => exact ih
    | some v => rw [Option.map_some, ih]; rfl
theorem wl_len {r : List (List Nat)} : (r.filterMap wordN).length ≤ r.length := List.length_filterMap_le _ _
theorem DeskAt.fld {m0 m : Mu} {a : Addr} {s : G8} (h : DeskAt m0 m a s) : ∃ v, m a = some (.ins .desk [("game", v)]) := by
  cases s with
  | none => exact ⟨_, h.2.1⟩
  | some t =>
    obtain ⟨g, b, c, h⟩ := h
    exact ⟨_, h.o⟩
theorem DeskAt.new {m0 m : Mu} {a x : Addr} {s : G8} {o : MO} (h : DeskAt m0 m a s) (hx : m x = none) : DeskAt (mset m0 x o) (mset m x o) a s := by
  have hs : Sub m0 m → Sub (mset m0 x o) (mset m x o) := fun k y => by
    by_cases e : y = x
    · subst e; rw [mset_same, mset_same]; exact .inr rfl
    · rw [mset_ne e, mset_ne e]; exact k y
  cases s with
  | none =>
    have h1 := ne_new h.2.1 hx
    exact ⟨hs h.1, by rw [mset_ne h1]; exact h.2.1, by rw [mset_ne h1]; exact h.2.2⟩
  | some t =>
    obtain ⟨g, b, c, h⟩ := h
    have h1 := ne_new h.o hx
    have h2 := ne_new h.ga.o hx
    have h3 := ne_new h.ga.t hx
    have h4 := ne_new h.ga.r hx
    exact ⟨g, b, c, hs h.sub, by rw [mset_ne h1]; exact h.o, h.ga.of (mset_ne h2) (mset_ne h3) (mset_ne h4), by rw [mset_ne h1]; exact h.n0, by rw [mset_ne h2]; exact h.n1, by rw [mset_ne h3]; exact h.n2, by rw [mset_ne h4]; exact h.n3⟩
def S_Desk_answered : SpD := fun es m R XR => ∃ (m0 : Mu) (a : Addr) (s : G8) (p : Rw), es = [.r a, .d (.lst ((p.1 :: p.2).map fun w => D.str (S w)))] ∧ DeskAt m0 m a s ∧ OkS 499 s ∧ RowOk p ∧ Out m0 a R XR (ansN s p)
def rd_Desk_answered_3 (G : Ctx) (W : WX) : TS :=
  tSeq (tIfS (tOr (tTest (tOp (rD2 G neF) (tCB (rDn G lenF) (tCons (tVar 1) (tNil))) (tC (.int 1)))) (tTest (tOp (rD2 G notinF) (tVar 2) (tTup (tCons (tC (.str (Str.ofString "left"))) (tCons (tC (.str (Str.ofString "lies"))) (tCons (tC (.str (Str.ofString "needed"))) (tCons (tC (.str (Str.ofString "best"))) (tCons (tC (.str (Str.ofString "back"))) (tNil)))))))))) (tRaise W (G.has .row) (G.ex .row)) (tNext))
  (tRet (tMethD G .desk "one_word" (spL G S_Desk_one_word) (WE W) (tVar 0) (tCons (tVar 2) (tCons (tMethD G .desk "need_game" (spL G S_Desk_need_game) (WE W) (tVar 0) (tNil)) (tNil)))))
def rd_Desk_answered_2 (G : Ctx) (W : WX) : TS :=
  tSeq (tIfS (tTest (tOp (rD2 G inF) (tVar 2) (tTup (tCons (tC (.str (Str.ofString "yes"))) (tCons (tC (.str (Str.ofString "no"))) (tNil)))))) (tSeq (tAsg (tLcX W (iList G.K (tSl (rDS G sliceF) (tVar 1) (tPart (tC (.int 1))) tNoPart)) (gName 6) (tYes) (fun W1 => tCallS (spL G S_number_in) (WE W1) (tCons (tVar 6) (tNil))) [6]) (gName 5))
  (tSeq (tDrop (tMethD G .game "ask" (spL G S_Game_ask) (WE W) (tMethD G .desk "need_game" (spL G S_Desk_need_game) (WE W) (tVar 0) (tNil)) (tCons (tVar 5) (tCons (tOp (rD2 G eqF) (tVar 2) (tC (.str (Str.ofString "yes")))) (tNil)))))
  (tRet (tOp (rD2 G addF) (tC (.str (Str.ofString "left "))) (tCallS (spL G S_numbers_text) (WE W) (tCons (tMethD G .game "left" (spL G S_Game_left) (WE W) (tFldD G .desk (tVar 0) "game") (tNil)) (tNil))))))) (tNext))
  (rd_Desk_answered_3 G W)
def rd_Desk_answered (G : Ctx) (W : WX) : TS :=
  tSeq (tAsg (tOp (rD2 G idxF) (tVar 1) (tC (.int 0))) (gName 2))
  (tSeq (tIfS (tAnd (tTest (tOp (rD2 G eqF) (tVar 2) (tC (.str (Str.ofString "game"))))) (tTest (tOp (rD2 G eqF) (tCB (rDn G lenF) (tCons (tVar 1) (tNil))) (tC (.int 3))))) (tSeq (tAsg (tCallS (spL G S_number_in) (WE W) (tCons (tOp (rD2 G idxF) (tVar 1) (tC (.int 1))) (tNil))) (gName 3))
  (tSeq (tAsg (tCallS (spL G S_number_in) (WE W) (tCons (tOp (rD2 G idxF) (tVar 1) (tC (.int 2))) (tNil))) (gName 4))
  (tSeq (tDrop (tCallS (spL G S_look_game) (WE W) (tCons (tVar 3) (tCons (tVar 4) (tNil)))))
  (tSeq (sFldD G .desk (tVar 0) (tMakeS G .game (spL G S_Game___init__) (WE W) (tCons (tVar 3) (tCons (tVar 4) (tNil)))) "game")
  (tRet (tC (.str (Str.ofString "ok")))))))) (tNext))
  (rd_Desk_answered_2 G W))

theorem len_Desk_answered : ∀ es m R XR, S_Desk_answered es m R XR → es.length = 2 := by
  rintro es m R XR ⟨m0, a, s, p, rfl, _⟩
  rfl
section
variable {G : Ctx} {W : WX} {R : DV → Mu → Prop} {XR : Tag → Mu → Prop} {m m0 : Mu} {a : Addr} {s : G8} {w : List Nat} {r : List (List Nat)}
theorem ans_3 (hD : DeskAt m0 m a s) (ok : OkS 499 s) (hp : RowOk (w, r)) (h : Out m0 a R XR (ansN s (w, r))) (c1 : ¬ (w = cd "game" ∧ r.length = 2)) (c2 : ¬ (w = cd "yes" ∨ w = cd "no")) :
    StD G W (rd_Desk_answered_3 G W) [some (.r a), some (.d (.lst ((w :: r).map fun w => D.str (S w)))), some (.d (.str (S w))), none, none, none, none] m (NL R) (fun t _ m' => XR t m') := by
  have hw : Asc w := fun c hc => (hp.asc w (by simp) c hc).1
  obtain ⟨v0, ho⟩ := hD.fld
  have e1 : ansN s (w, r) = wordsN s (w, r) := by unfold ansN; rw [if_neg c1, if_neg c2]
  rw [e1] at h
  unfold rd_Desk_answered_3
  simp only [tCS]
  have bad : (r ≠ [] ∨ w ∉ five) → XR .row m := fun z => h.x (by unfold wordsN; rw [if_pos z]) hD
  walk_at "r"
  refine i_nd (fun c3 => ?_) (fun c3 => ?_)
  · walk_at "r"
    exact bad (.inl fun z => c3 (by rw [z]; rfl))
  · have c3 : r = [] := by
      cases r with
      | nil => rfl
      | cons x y => simp at c3; omega
    walk_at "r"
    refine x_ninT five rfl hw asc_five ?_
    walk_at "r"
    refine i_nd (fun c4 => ?_) (fun c4 => ?_)
    · walk_at "r"
      exact bad (.inr c4)
    · have hno : ¬ (r ≠ [] ∨ w ∉ five) := fun z => z.elim (fun y => y c3) (fun y => y c4)
      walk_at "r"
      refine ⟨m0, a, s, rfl, hD, fun z => ?_, fun g b c n l row e hg => ?_⟩
      · exact h.x (s := none) (by unfold wordsN; rw [if_neg hno]; subst z; rfl) (by subst z; exact hD)
      · walk_at "r"
        subst e
        refine ⟨m0, a, g, b, c, n, l, row, w, rfl, hg, ok.mono (by decide), hw, ?_⟩
        have e2 : wordsN (some (n, l, row)) (w, r) = oneN n l row w := by unfold wordsN; rw [if_neg hno]
        rw [e2] at h
        exact h
theorem ans_2 (hD : DeskAt m0 m a s) (ok : OkS 499 s) (hp : RowOk (w, r)) (h : Out m0 a R XR (ansN s (w, r))) (c1 : ¬ (w = cd "game" ∧ r.length = 2)) :
    StD G W (rd_Desk_answered_2 G W) [some (.r a), some (.d (.lst ((w :: r).map fun w => D.str (S w)))), some (.d (.str (S w))), none, none, none, none] m (NL R) (fun t _ m' => XR t m') := by
  have hw : Asc w := fun c hc => (hp.asc w (by simp) c hc).1
  have hrs : ∀ v ∈ r, v.length ≤ 1000 ∧ ∀ c ∈ v, c < 128 := fun v hv => ⟨by have := hp.sh v (List.mem_cons_of_mem _ hv); omega, fun c hc => (hp.asc v (List.mem_cons_of_mem _ hv) c hc).1⟩
  have hrl := hp.few
  dsimp only at hrl
  obtain ⟨v0, ho⟩ := hD.fld
  unfold rd_Desk_answered_2
  simp only [tCS]
  walk_at "r"
  refine x_inT [cd "yes", cd "no"] rfl hw asc_yn ?_
  walk_at "r"
  refine i_d (fun c2 => ?_) (fun c2 => ?_)
  case refine_2 =>
    walk_at "r"
    exact ans_3 hD ok hp h c1 (fun z => c2 (by simpa using z))
  have c2 : w = cd "yes" ∨ w = cd "no" := by simpa using c2
  have e1 : ansN s (w, r) = askN s (w, r) := by unfold ansN; rw [if_neg c1, if_pos c2]
  rw [e1] at h
  refine st_seq (st_asg (ev_lcX .row (by decide) (ei_list ?_)))
  walk_at "r"
  rw [List.map_cons, cut_tail]
  refine ⟨fun _ _ => trivial, List Nat, r, fun w => .d (.str (S w)), fun w => (wordN w).map D.int, by rw [List.map_map]; rfl, by omega, fun W1 v M hv hM => ?_, fun hall => ?_, fun hex => ?_⟩
  · walk_at "r"
    exact ⟨v, rfl, (hrs v hv).1, (hrs v hv).2, fun i hi => ⟨rfl, _, rfl, by show (wordN v).map D.int = _; rw [hi]; rfl⟩, fun hi => ⟨rfl, rfl, by show (wordN v).map D.int = _; rw [hi]; rfl⟩⟩
  case refine_3 =>
    obtain ⟨v, hv, hn⟩ := hex
    have hn : (wordN v).map D.int = none := hn
    exact h.x (by unfold askN; rw [if_pos ⟨v, hv, Option.map_eq_none_iff.mp hn⟩]) hD
  have hno : ¬ ∃ v ∈ r, wordN v = none := fun ⟨v, hv, e⟩ => hall v hv (by show (wordN v).map D.int = _; rw [e]; rfl)
  rw [fm_words]
  have hfl : (r.filterMap wordN).length ≤ r.length := wl_len
  walk_at "r"
  refine ⟨m0, a, s, rfl, hD, fun z => ?_, fun g b c n l row e hg => ?_⟩
  · exact h.x (s := none) (by subst z; unfold askN; rw [if_neg hno]) (by subst z; exact hD)
  subst e
  obtain ⟨k1, k2, k3, k4, k5, k6⟩ := id ok
  have go := hg.ga.o
  have e2 : askN (some (n, l, row)) (w, r) = if ¬ QOk n (r.filterMap wordN) then (.inl .question, some (n, l, row)) else if leftN n l (addR row (w, r)) = [] then (.inl .liar, some (n, l, row)) else (.inr (cd "left " ++ numsT (leftN n l (addR row (w, r)))), some (n, l, addR row (w, r))) := by
    unfold askN
    rw [if_neg hno]
  rw [e2] at h
  walk_at "r"
  refine x_eq hw (asc_cd (by decide +kernel)) ?_
  walk_at "r"
  refine ⟨g, b, c, n, l, row, _, r.filterMap wordN, decide (w = cd "yes"), rfl, hg.ga, k1, k2, k3, by omega, rfl, by omega, fun z => ?_, fun z1 z2 => ?_, fun z1 z2 d m' hd g' fr => ?_⟩
  · exact h.x (by rw [if_pos z]) hD
  · exact h.x (by rw [if_neg (fun y => y z1), if_pos (left_none.mpr z2)]) hD
  have hg2 := hg.ask hd g' fr
  have ho2 := hg2.o
  have go2 := hg2.ga.o
  have hll := left_len n l (addR row (w, r))
  have hnl := numsT_len (left_99 (n := n) (l := l) (row := addR row (w, r)) k2)
  walk_at "r"
  refine ⟨g, d, c, n, l, _, rfl, hg2.ga, by omega, fun x hx => ?_⟩
  walk_at "r"
  refine ⟨_, leftN n l (addR row (w, r)), rfl, vw_r mset_same, left_99 k2, by omega, ?_⟩
  refine x_add (by rw [show (cd "left ").length = 5 by decide +kernel]; omega) ?_
  exact h.r (by rw [if_neg (fun y => y z1), if_neg (fun z => z2 (left_none.mp z))]) (hg2.at_.up (sub_mset hx))
end
theorem sem_Desk_answered (G : Ctx) : BodyD G 7 (rd_Desk_answered G) S_Desk_answered := by
  rintro W es m R XR ⟨m0, a, s, ⟨w, r⟩, rfl, hD, ok, hp, h⟩
  have hw : Asc w := fun c hc => (hp.asc w (by simp) c hc).1
  have hrs : ∀ v ∈ r, v.length ≤ 1000 ∧ ∀ c ∈ v, c < 128 := fun v hv => ⟨by have := hp.sh v (List.mem_cons_of_mem _ hv); omega, fun c hc => (hp.asc v (List.mem_cons_of_mem _ hv) c hc).1⟩
  obtain ⟨v0, ho⟩ := hD.fld
  unfold rd_Desk_answered
  simp only [tCS]
  walk_at "r"
  refine ⟨.str (S w), atI_nat (j := 0) rfl, ?_⟩
  walk_at "r"
  refine x_eq hw (asc_cd (by decide +kernel)) ?_
  walk_at "r"
  refine i_d (fun c1 => ?_) (fun c1 => ?_)
  case refine_2 =>
    walk_at "r"
    exact ans_2 hD ok hp h (fun z => c1 z.1)
  walk_at "r"
  refine i_d (fun c2 => ?_) (fun c2 => ?_)
  case refine_2 =>
    walk_at "r"
    exact ans_2 hD ok hp h (fun z => c2 (by rw [List.length_cons, z.2]; rfl))
  have c2 : r.length = 2 := by rw [List.length_cons] at c2; omega
  obtain ⟨x, y, rfl⟩ : ∃ x y, r = [x, y] := by
    match r, c2 with
    | [x, y], _ => exact ⟨x, y, rfl⟩
  have hx := hrs x (by simp)
  have hy := hrs y (by simp)
  have e1 : ansN s (w, [x, y]) = gameN s x y := by unfold ansN; rw [if_pos ⟨c1, rfl⟩]; rfl
  rw [e1] at h
  walk_at "r"
  refine ⟨.str (S x), atI_nat (j := 1) rfl, ?_⟩
  walk_at "r"
  refine ⟨x, rfl, hx.1, hx.2, fun n en => ?_, fun en => h.x (by unfold gameN; rw [en]) hD⟩
  walk_at "r"
  refine ⟨.str (S y), atI_nat (j := 2) rfl, ?_⟩
  walk_at "r"
  refine ⟨y, rfl, hy.1, hy.2, fun l el => ?_, fun el => h.x (by unfold gameN; rw [en, el]) hD⟩
  walk_at "r"
  refine ⟨n, l, rfl, fun gok => ?_, fun gno => h.x (by unfold gameN; rw [en, el]; dsimp only; rw [if_neg gno]) hD⟩
  walk_at "r"
  intro g hg
  refine ⟨g, n, l, rfl, mset_same, fun z => absurd gok z, fun _ b c m1 hb hc g1 fr => ⟨rfl, ?_⟩⟩
  obtain ⟨hbg, hb0⟩ := none_mset hb
  obtain ⟨hcg, hc0⟩ := none_mset hc
  have hag := ne_new ho hg
  have hab := ne_new ho hb0
  have hac := ne_new ho hc0
  have ho1 : m1 a = some (.ins .desk [("game", v0)]) := by rw [fr a hag hab hac, mset_ne hag]; exact ho
  walk_at "r"
  have hs := hD.sub
  refine h.r (s := some (n.toNat, l.toNat, [])) (by unfold gameN; rw [en, el]; dsimp only; rw [if_pos gok]) ⟨g, b, c, fun z => ?_, mset_same, g1.of (mset_ne hag.symm) (mset_ne hab.symm) (mset_ne hac.symm), hD.n0, hs.none' hg, hs.none' hb0, hs.none' hc0⟩
  cases e : m0 z with
  | none => exact .inl rfl
  | some o =>
    right
    have e' := hs.some e
    have hzg := ne_new e' hg
    rw [mset_ne (fun t => by rw [t, hD.n0] at e; cases e), fr z hzg (ne_new e' hb0) (ne_new e' hc0), mset_ne hzg, e']
/-! ### said -/
theorem tag_one {n l : Nat} {row : List QA} {w : List Nat} {t : Tag} (h : (oneN n l row w).1 = .inl t) : t = .counts := by
  unfold oneN at h
  repeat' split at h
  all_goals first | (cases h; rfl) | (cases h)
theorem tag_ans {s : G8} {p : Rw} {t : Tag} (h : (ansN s p).1 = .inl t) : t = .row ∨ t = .game ∨ t = .question ∨ t = .counts ∨ t = .liar := by
  unfold ansN at h
  split at h
  · unfold gameN at h
    split at h
    · split at h
      · cases h
      · cases h; exact .inr (.inl rfl)
    · cases h; exact .inl rfl
  · split at h
    · unfold askN at h
      split at h
      · cases h; exact .inl rfl
      · cases s with
        | none => cases h; exact .inr (.inl rfl)
        | some x =>
          dsimp only at h
          split at h
          · cases h; exact .inr (.inr (.inl rfl))
          · split at h
            · cases h; exact .inr (.inr (.inr (.inr rfl)))
            · cases h
    · unfold wordsN at h
      split at h
      · cases h; exact .inl rfl
      · cases s with
        | none => cases h; exact .inr (.inl rfl)
        | some x => exact .inr (.inr (.inr (.inl (tag_one h))))
def S_Desk_say : SpD := fun es m R _ => ∃ (m0 : Mu) (a : Addr) (s : G8) (p : Rw), es = [.r a, .d (.str (S (rowT p)))] ∧ DeskAt m0 m a s ∧ OkS 499 s ∧ RowOk p ∧ ∀ m', DeskAt m0 m' a (ansN s p).2 → R (.d (.str (S (outT (ansN s p).1)))) m'
def rd_Desk_say (G : Ctx) (W : WX) : TS :=
  tTryM G W [(.row, Str.ofString "refused: row"), (.game, Str.ofString "refused: game"), (.question, Str.ofString "refused: question"), (.counts, Str.ofString "refused: counts"), (.liar, Str.ofString "refused: liar")] (fun W1 => tRet (tMethD G .desk "answered" (spL G S_Desk_answered) (WE W1) (tVar 0) (tCons (tM1 (rDM G splitF) (tVar 1) (tC (.str (Str.ofString " ")))) (tNil))))

theorem len_Desk_say : ∀ es m R XR, S_Desk_say es m R XR → es.length = 2 := by
  rintro es m R XR ⟨m0, a, s, p, rfl, _⟩
  rfl
theorem sem_Desk_say (G : Ctx) (hx : XPair G) (hh : G.has .row = true ∧ G.has .game = true ∧ G.has .question = true ∧ G.has .counts = true ∧ G.has .liar = true) : BodyD G 2 (rd_Desk_say G) S_Desk_say := by
  rintro W es m R XR ⟨m0, a, s, p, rfl, hD, ok, hp, h⟩
  obtain ⟨v0, ho⟩ := hD.fld
  unfold rd_Desk_say
  simp only [s_spc, ofS "refused: row", ofS "refused: game", ofS "refused: question", ofS "refused: counts", ofS "refused: liar"]
  refine st_tryM hx (fun q hq => ?_) (fun W1 => ?_)
  · simp only [List.mem_cons, List.not_mem_nil, or_false] at hq
    rcases hq with rfl | rfl | rfl | rfl | rfl
    · exact hh.1
    · exact hh.2.1
    · exact hh.2.2.1
    · exact hh.2.2.2.1
    · exact hh.2.2.2.2
  walk_at "r"
  refine ev_m1 ?_
  walk_at "r"
  refine ⟨⟨_, rfl⟩, ?_⟩
  walk_at "r"
  refine ⟨rfl, by rw [S_len]; have := hp.len; omega, ?_⟩
  rw [hp.split]
  walk_at "r"
  refine ⟨m0, a, s, p, by rw [List.map_map]; rfl, hD, ok, hp, fun m' hD' => ?_⟩
  have hm := h m' hD'
  cases e : (ansN s p).1 with
  | inr x => rw [e] at hm; exact hm
  | inl t =>
    rw [e] at hm
    dsimp only
    rcases tag_ans e with rfl | rfl | rfl | rfl | rfl
    · exact ⟨_, rfl, hm⟩
    · exact ⟨_, rfl, hm⟩
    · exact ⟨_, rfl, hm⟩
    · exact ⟨_, rfl, hm⟩
    · exact ⟨_, rfl, hm⟩
/-! ### played -/
def linT : Option Rw → List Nat
  | none => []
  | some p => rowT p
abbrev dStrs (xs : List (List Nat)) : D := .lst (xs.map fun x => D.str (S x))
def S_play : SpD := fun es m R _ => ∃ ps : List (Option Rw), es = [.d (.str (S (TL.joinL [10] (ps.map linT))))] ∧ ps ≠ [] ∧ ps.length ≤ 60 ∧ (∀ p, some p ∈ ps → RowOk p) ∧ R (.d (dStrs (saysN none (ps.filterMap id)))) m
def rd_play (G : Ctx) (W : WX) : TS :=
  tSeq (tAsg (tMakeS G .desk (spL G S_Desk___init__) (WE W) (tNil)) (gName 1))
  (tRet (tLc (iList G.K (tM1 (rDM G splitF) (tVar 0) (tC (.str (Str.ofString "\n"))))) (gName 2) (tTest (tOp (rD2 G neF) (tVar 2) (tC (.str (Str.ofString ""))))) (tMethD G .desk "say" (spL G S_Desk_say) (WE WF) (tVar 1) (tCons (tVar 2) (tNil))) [2]))

theorem len_play : ∀ es m R XR, S_play es m R XR → es.length = 1 := by
  rintro es m R XR ⟨ps, rfl, _⟩
  rfl
theorem cd_nl : cd "\n" = [10] := by decide +kernel
theorem cd_em : cd "" = [] := by decide +kernel
theorem part_split {ps : List (Option Rw)} (h0 : ps ≠ []) (h : ∀ p, some p ∈ ps → RowOk p) : Txt.split (S (TL.joinL [10] (ps.map linT))) (S [10]) = (ps.map linT).map S := by
  rw [split_S (by simp) (by decide), spl_join (by simpa using h0) fun w hw hc => ?_]
  obtain ⟨q, hq, rfl⟩ := List.mem_map.mp hw
  cases q with
  | none => cases hc
  | some p => exact (h p hq).nl hc
theorem part_len {ps : List (Option Rw)} (hl : ps.length ≤ 60) (h : ∀ p, some p ∈ ps → RowOk p) : (TL.joinL [10] (ps.map linT)).length ≤ 100000 := by
  have h1 := join_len [10] (ps.map linT)
  have h2 := sum_le (ps := ps.map linT) (k := 1000) fun w hw => by
    obtain ⟨q, hq, rfl⟩ := List.mem_map.mp hw
    cases q with
    | none => exact Nat.zero_le _
    | some p => exact (h p hq).len
  rw [List.length_map] at h1 h2
  rw [List.length_singleton, Nat.mul_one] at h1
  omega
theorem fm_some {ps : List (Option Rw)} {i : Nat} {p : Rw} (h : ps[i]? = some (some p)) : (ps.take (i + 1)).filterMap id = (ps.take i).filterMap id ++ [p] := by
  rw [List.take_add_one, h, List.filterMap_append]
  rfl
theorem fm_none {ps : List (Option Rw)} {i : Nat} (h : ps[i]? = some none) : (ps.take (i + 1)).filterMap id = (ps.take i).filterMap id := by
  rw [List.take_add_one, h, List.filterMap_append]
  exact List.append_nil _
theorem sem_play (G : Ctx) : BodyD G 3 (rd_play G) S_play := by
  rintro W es m R XR ⟨ps, rfl, h0, hl, hp, h⟩
  unfold rd_play
  simp only [tCS, cd_nl, cd_em]
  walk_at "r"
  intro a ha
  refine ⟨m, a, rfl, mset_same, sub_mset ha, ha, fun m1 hD => ⟨rfl, ?_⟩⟩
  refine st_ret (ev_drop (ev_fr (ev_lcS (ei_list (ev_m1 ?_)))))
  walk_at "r"
  refine ⟨⟨_, rfl⟩, ?_⟩
  walk_at "r"
  refine ⟨rfl, by rw [S_len]; exact part_len hl hp, _, rfl, ?_⟩
  rw [part_split h0 hp]
  intro Dn hDn
  have hmD : m Dn = none := hD.sub.none' hDn
  refine ⟨fun i l M => l = (saysN none ((ps.take i).filterMap id)).map (fun x => D.str (S x)) ∧ DeskAt (mset m Dn (.lst l)) M a (stN none ((ps.take i).filterMap id)), ⟨rfl, hD.new hDn⟩, fun i l M ⟨e, hM⟩ => ⟨hM.sub.some mset_same, trivial, ?_⟩, fun i x l M hx ⟨e, hM⟩ => ⟨_, .name (by decide), ?_⟩, fun l M ⟨e, hM⟩ => ?_⟩
  · subst e
    rw [List.length_map, says_len]
    have := List.length_filterMap_le id (ps.take i)
    have : (ps.take i).length ≤ ps.length := by rw [List.length_take]; omega
    omega
  · rw [List.getElem?_map, List.getElem?_map, List.getElem?_map, List.getElem?_map] at hx
    have hs : ((ps.take i).filterMap id).length ≤ 60 := by
      have := List.length_filterMap_le id (ps.take i)
      have : (ps.take i).length ≤ ps.length := by rw [List.length_take]; omega
      omega
    cases eq : ps[i]? with
    | none => rw [eq] at hx; cases hx
    | some q =>
      rw [eq] at hx
      cases hx
      obtain ⟨v0, ho⟩ := hM.fld
      cases q with
      | none =>
        walk_at "r"
        refine x_ne (fun c hc => by cases hc) (fun c hc => by cases hc) ?_
        walk_at "r"
        refine i_nd (fun z => absurd rfl z) (fun _ => ?_)
        have := fm_none eq
        exact ⟨by rw [this]; exact e, by rw [this]; exact hM⟩
      | some p =>
        have hr := hp p (List.mem_of_getElem? eq)
        walk_at "r"
        refine x_ne hr.tasc (fun c hc => by cases hc) ?_
        walk_at "r"
        refine i_nd (fun _ => ?_) (fun z => absurd z hr.tne)
        walk_at "r"
        refine ⟨_, a, _, p, rfl, hM, (ok_st (k := 0) (s := none) _ trivial).mono (by omega), hr, fun M4 hD4 => ⟨_, rfl, hD4.sub.some mset_same, ?_, ?_⟩⟩
        · rw [fm_some eq, says_app, List.map_append, e]
          rfl
        · rw [fm_some eq, stN_app]
          have := hD4.put (x := Dn) (o := .lst (l ++ [.str (S (outT (ansN (stN none ((ps.take i).filterMap id)) p).1))])) (by rw [mset_same]; exact fun z => nomatch z)
          rw [mset_mset] at this
          exact this
  · rw [List.length_map, List.length_map, List.length_map, List.length_map, List.take_length] at e hM
    refine ⟨Dn, l, rfl, hM.sub.some mset_same, m, fun y => ?_, ?_⟩
    · by_cases z : y = Dn
      · subst z; exact .inl hmD
      · rw [mdel_ne z]
        have := hM.sub y
        rw [mset_ne z] at this
        exact this
    · rw [e]; exact h
end Lb

/-! Sm80d: the law's own look at rows. -/
namespace Lb
open PySem L2 SX
local macro_rules | `(tactic| walk_at "v") => `(tactic| ((with_reducible refine ev_var (d := ?dv) ?hv ?_); (case hv => exact rfl)))
local macro_rules | `(tactic| walk_at "f") => `(tactic| first
  | with_reducible refine f_in ?_
  | with_reducible refine f_notin ?_
  | with_reducible refine f_add_i ?_
  | with_reducible refine f_add_s ?_
  | with_reducible refine f_add_l ?_
  | with_reducible refine f_add_t ?_
  | with_reducible refine f_sub ?_
  | with_reducible refine f_mul_i ?_
  | with_reducible refine f_mul_l ?_
  | with_reducible refine f_mul_t ?_
  | with_reducible refine f_div ?_
  | with_reducible refine f_mod ?_
  | with_reducible refine f_pow ?_
  | with_reducible refine f_lt ?_
  | with_reducible refine f_le ?_
  | with_reducible refine f_gt ?_
  | with_reducible refine f_ge ?_
  | with_reducible refine f_eq_i ?_
  | with_reducible refine f_ne_i ?_
  | with_reducible refine f_eq_b ?_
  | with_reducible refine f_ne_b ?_
  | with_reducible refine f_is_n ?_
  | with_reducible refine f_isnot_n ?_
  | with_reducible refine f_is_i ?_
  | with_reducible refine f_isnot_i ?_
  | with_reducible refine f_is_b ?_
  | with_reducible refine f_isnot_b ?_
  | with_reducible refine f_is_s ?_
  | with_reducible refine f_isnot_s ?_
  | with_reducible refine f_is_l ?_
  | with_reducible refine f_isnot_l ?_
  | with_reducible refine f_is_t ?_
  | with_reducible refine f_isnot_t ?_
  | with_reducible refine f_is_r ?_
  | with_reducible refine f_isnot_r ?_
  | with_reducible refine f_is ?_
  | with_reducible refine f_isnot ?_
  | with_reducible refine f_neg ?_
  | with_reducible refine f_len_ml ?_
  | with_reducible refine f_len_mt ?_
  | with_reducible refine f_sum_l ?_
  | with_reducible refine f_sum_t ?_
  | with_reducible refine f_all ?_
  | with_reducible refine f_any ?_
  | with_reducible refine f_len_l ?_
  | with_reducible refine f_len_t ?_
  | with_reducible refine f_len_c ?_
  | with_reducible refine f_abs ?_
  | with_reducible refine f_min2 ?_
  | with_reducible refine f_max2 ?_
  | with_reducible refine f_list_l ?_
  | with_reducible refine f_list_t ?_
  | with_reducible refine f_tup_l ?_
  | with_reducible refine f_tup_t ?_
  | with_reducible refine f_int_i ?_
  | with_reducible refine f_int_b ?_
  | with_reducible refine f_sl_l ?_
  | with_reducible refine f_sl_t ?_
  | with_reducible refine f_tr_n ?_
  | with_reducible refine f_tr_b ?_
  | with_reducible refine f_tr_i ?_
  | with_reducible refine f_tr_l ?_
  | with_reducible refine f_tr_t ?_
  | with_reducible refine f_tr_c ?_)
local macro_rules | `(tactic| walk_at "m") => `(tactic| first
  | assumption
  | exact mset_same
  | ((refine (mset_ne ?_).trans ?_); (first | assumption | exact Ne.symm (by assumption)); walk_at "m"))
local macro_rules | `(tactic| walk_at "w") => `(tactic| first
  | walk_at "v"
  | with_reducible refine ev_rev ?_
  | with_reducible refine ev_sset ?_
  | with_reducible refine ev_lcl ?_
  | with_reducible refine ev_lct ?_
  | with_reducible refine ev_lcs ?_
  | with_reducible refine ev_lc1 ?_
  | with_reducible refine ev_lc2 ?_
  | with_reducible refine st_forl ?_
  | with_reducible refine st_fort ?_
  | with_reducible refine st_fors ?_
  | with_reducible refine st_for1 ?_
  | with_reducible refine st_for2 ?_
  | with_reducible refine ex_bl ?_
  | with_reducible refine ex_in ?_
  | with_reducible refine ex_ls ?_
  | with_reducible refine ex_tu ?_
  | with_reducible refine ex_st ?_
  | with_reducible refine ex_d0 ?_
  | with_reducible refine ex_d1 ?_
  | with_reducible refine ex_d2 ?_
  | with_reducible refine ex_d3 ?_
  | with_reducible refine ex_d4 ?_
  | with_reducible refine ex_d5 ?_
  | with_reducible refine ex_d6 ?_
  | with_reducible refine ex_d7 ?_
  | with_reducible refine ex_d8 ?_
  | with_reducible refine m_and ?_
  | with_reducible refine i_t ?_
  | with_reducible refine i_f ?_
  | with_reducible refine i_nt ?_
  | with_reducible refine i_nf ?_
  | with_reducible refine ev_fld ?_
  | ((with_reducible refine x_fld (fs := ?fs) (v := ?vv) ?hh ?ll ?_); (case hh => walk_at "m"); (case ll => exact rfl))
  | with_reducible refine ev_meth ?_
  | ((with_reducible refine x_meth (fs := ?fs) ?hh ?ll ?_); (case hh => walk_at "m"); (case ll => exact rfl))
  | with_reducible refine ev_make ?_
  | with_reducible refine st_fld ?_
  | ((with_reducible refine x_set (fs := ?fs) ?hh ?ll ?_); (case hh => walk_at "m"); (case ll => exact Nat.le_of_ble_eq_true rfl))
  | with_reducible refine ev_lstP ?_
  | with_reducible refine ev_dnew ?_
  | with_reducible refine st_dset ?_
  | with_reducible refine ev_tup ?_
  | with_reducible refine ev_lst ?_
  | with_reducible refine ev_int ?_
  | with_reducible refine ea_cons ?_
  | with_reducible refine ea_nil ?_
  | with_reducible refine ev_op ?_
  | with_reducible refine st_seq ?_
  | with_reducible refine st_asg ?_
  | with_reducible refine ev_call ?_
  | with_reducible refine ev_cb ?_
  | with_reducible refine st_if ?_
  | with_reducible refine et_test ?_
  | with_reducible refine et_not ?_
  | with_reducible refine et_or ?_
  | with_reducible refine et_and ?_
  | with_reducible refine et_tru ?_
  | with_reducible refine et_yes ?_
  | with_reducible refine et_B ?_
  | with_reducible refine ev_chain ?_
  | with_reducible refine ev_chain3 ?_
  | with_reducible refine ev_un ?_
  | with_reducible refine ev_if ?_
  | with_reducible refine ev_bl ?_
  | with_reducible refine ev_non ?_
  | with_reducible refine ev_str ?_
  | with_reducible refine ev_andV ?_
  | with_reducible refine ev_orV ?_
  | with_reducible refine ev_notV ?_
  | with_reducible refine ev_isB ?_
  | with_reducible refine ev_isE ?_
  | with_reducible refine ev_sl2 ?_
  | with_reducible refine ev_slA ?_
  | with_reducible refine ev_slB ?_
  | with_reducible refine ev_bmL ?_
  | with_reducible refine ev_bmL0 ?_
  | with_reducible refine st_ret ?_
  | with_reducible refine st_drop ?_
  | with_reducible refine st_next ?_
  | with_reducible refine st_setL ?_
  | with_reducible refine st_asgG ?_
  | with_reducible refine st_raise ?_
  | with_reducible refine gt_name ?_
  | with_reducible refine gt_tup2 ?_
  | with_reducible refine gt_tup3 ?_
  | walk_at "f")
local macro_rules | `(tactic| walk_at "r") => `(tactic| repeat walk_at "w")

/-! ### lies, texts -/
def S_law_lied : SpD := fun es m R _ => ∃ (row : List QA) (t : Int), es = [.d (dRow row), .d (.int t)] ∧ row.length ≤ 1000 ∧ R (.d (.int (liesN row t : Nat))) m
def rd_law_lied (G : Ctx) (W : WX) : TS :=
  tRet (tCB (rDn G lenF) (tCons (tLc (iList G.K (tVar 0)) (gTup G.K 2 (gCons (gName 2) (gCons (gName 3) (gNil)))) (tTest (tOp (rD2 G neF) (tOp (rD2 G inF) (tVar 1) (tVar 2)) (tVar 3))) (tVar 3) [2, 3]) (tNil)))

theorem len_law_lied : ∀ es m R XR, S_law_lied es m R XR → es.length = 2 := by
  rintro es m R XR ⟨a, b, rfl, _⟩
  rfl
theorem sem_law_lied (G : Ctx) : BodyD G 4 (rd_law_lied G) S_law_lied := by
  rintro W es m R XR ⟨row, t, rfl, hl, h⟩
  unfold rd_law_lied
  walk_at "r"
  refine lcF row (fun p => .d (dQA p)) (fun p => decide (t ∈ p.1) != p.2) (fun p => .bl p.2) (by rw [List.map_map]; rfl) (by omega) (fun p M hp hM => ⟨_, .pair (by decide) (by decide), ?_, fun _ => ?_⟩) ?_
  · walk_at "r"
    exact rfl
  · walk_at "r"
    exact rfl
  · walk_at "r"
    exact h
def S_law_text : SpD := fun es m R _ => ∃ xs : List Int, es = [.d (dInts xs)] ∧ (∀ i ∈ xs, 0 ≤ i ∧ i ≤ 99) ∧ xs.length ≤ 100 ∧ R (.d (.str (S (numsT xs)))) m
def rd_law_text (G : Ctx) (W : WX) : TS :=
  tRet (tIf (tTest (tOp (rD2 G eqF) (tVar 0) (tLst (tNil)))) (tC (.str (Str.ofString "none"))) (tM1 (rDM G joinF) (tC (.str (Str.ofString " "))) (tLc (iList G.K (tVar 0)) (gName 1) (tYes) (tCB (rDn G strF) (tCons (tVar 1) (tNil))) [1])))

theorem len_law_text : ∀ es m R XR, S_law_text es m R XR → es.length = 1 := by
  rintro es m R XR ⟨a, rfl, _⟩
  rfl
theorem x_eqN {m : Mu} {R : DV → Mu → Prop} {xs : List Int} (h : R (.d (.bl (decide (xs = [])))) m) : eqF (.d (dInts xs)) (.d (.lst [])) m R := by
  refine v_eq rfl rfl sh_dInts (sh_dInts (ns := [])) ?_
  have := eqD_ints xs []
  rw [show D.lst [] = dInts [] from rfl, this]
  exact h
theorem x_neN {m : Mu} {R : DV → Mu → Prop} {xs : List Int} (h : R (.d (.bl (!decide (xs = [])))) m) : neF (.d (dInts xs)) (.d (.lst [])) m R := by
  refine v_ne rfl rfl sh_dInts (sh_dInts (ns := [])) ?_
  have := eqD_ints xs []
  rw [show D.lst [] = dInts [] from rfl, this]
  exact h
theorem sem_law_text (G : Ctx) : BodyD G 2 (rd_law_text G) S_law_text := by
  rintro W es m R XR ⟨xs, rfl, h0, hl, h⟩
  unfold rd_law_text
  simp only [s_spc, tCS]
  walk_at "r"
  refine x_eqN ?_
  walk_at "r"
  refine i_d (fun c => ?_) (fun c => ?_)
  · walk_at "r"
    unfold numsT at h
    rw [if_pos c] at h
    exact h
  · refine ev_m1 (ev_str ⟨⟨_, rfl⟩, ?_⟩)
    walk_at "r"
    refine lcM xs (fun i => .d (.int i)) (fun i => .str (S (numT i))) (by rw [List.map_map]; rfl) (by omega) (fun i M hi hM => ⟨_, .name (by decide), ?_⟩) ?_
    · walk_at "r"
      exact x_str (h0 i hi).1 (by have := (h0 i hi).2; omega) ⟨rfl, rfl⟩
    · refine x_join (xs.map numT) (by rw [List.map_map]; rfl) (by rw [List.length_map]; omega) (by decide) (fun p hp => ?_) ?_
      · obtain ⟨i, hi, rfl⟩ := List.mem_map.mp hp
        have := numT_len (h0 i hi).1 (h0 i hi).2
        omega
      · unfold numsT at h
        rw [if_neg c] at h
        exact h
/-! ### counts -/
def S_law_counts : SpD := fun es m R _ => ∃ (n l : Nat) (row : List QA), es = [.d (dRow row), .d (.tup [.int (n : Nat), .int (l : Nat)])] ∧ row.length ≤ 1000 ∧ n ≤ 64 ∧ l ≤ 4 ∧ R (.d (dTup (countsN n l row))) m
def rd_law_counts (G : Ctx) (W : WX) : TS :=
  tSeq (tAsg (tLc (iRng1 (tCons (tOp (rD2 G idxF) (tVar 1) (tC (.int 0))) (tNil))) (gName 3) (tYes) (tCallS (spL G S_law_lied) (WE WF) (tCons (tVar 0) (tCons (tVar 3) (tNil)))) [3]) (gName 2))
  (tRet (tCB (rDn G tupleF) (tCons (tLc (iRng1 (tCons (tOp (rD2 G addF) (tOp (rD2 G idxF) (tVar 1) (tC (.int 1))) (tC (.int 1))) (tNil))) (gName 4) (tYes) (tBM G.K "list" (rDM G countF) (tVar 2) (tCons (tVar 4) (tNil))) [4]) (tNil))))

theorem len_law_counts : ∀ es m R XR, S_law_counts es m R XR → es.length = 2 := by
  rintro es m R XR ⟨n, l, row, rfl, _⟩
  rfl
theorem sem_law_counts (G : Ctx) : BodyD G 5 (rd_law_counts G) S_law_counts := by
  rintro W es m R XR ⟨n, l, row, rfl, hr, hn, hl, h⟩
  unfold rd_law_counts
  walk_at "r"
  refine ⟨_, atI_nat (j := 0) rfl, ?_⟩
  walk_at "r"
  refine ⟨_, rfl, by omega, by omega, ?_⟩
  rw [Int.toNat_natCast]
  refine lcM (List.range n) (fun t => .d (.int (0 + (t : Nat)))) (fun t => .int ((liesN row ((t : Nat) : Int) : Nat) : Int)) rfl (by rw [List.length_range]; omega) (fun t M ht hM => ⟨_, .name (by decide), ?_⟩) ?_
  · walk_at "r"
    rw [Int.zero_add]
    exact ⟨row, _, rfl, hr, rfl, rfl⟩
  have eT : (List.range n).map (fun t => D.int ((liesN row ((t : Nat) : Int) : Nat) : Int)) = (toldN n row).map D.int := by
    unfold toldN
    rw [List.map_map]
    rfl
  rw [eT]
  walk_at "r"
  refine ⟨_, atI_nat (j := 1) rfl, ?_⟩
  walk_at "r"
  refine ⟨_, rfl, by omega, by omega, ?_⟩
  rw [show ((l : Int) + 1).toNat = l + 1 by omega]
  refine lcM (List.range (l + 1)) (fun t => .d (.int (0 + (t : Nat)))) (fun k => .int (((List.range n).countP fun t => decide (liesN row ((t : Nat) : Int) = k) : Nat) : Int)) rfl (by rw [List.length_range]; omega) (fun k M hk hM => ⟨_, .name (by decide), ?_⟩) ?_
  · walk_at "r"
    refine ⟨trivial, ?_⟩
    walk_at "r"
    refine ⟨_, _, rfl, rfl, sh_ints, sh_int, ?_⟩
    rw [Int.zero_add, count_told]
    exact ⟨rfl, rfl⟩
  · walk_at "r"
    have := h
    unfold countsN at this
    rw [dTup, List.map_map] at this
    exact this
/-! ### the town -/
def gD : G8 → D
  | none => .non
  | some (n, l, _) => .tup [.int (n : Nat), .int (l : Nat)]
def rD : G8 → D
  | none => .lst []
  | some (_, _, row) => dRow row
def townL (x y : D) : List (Str × D) := [(S (cd "game"), x), (S (cd "row"), y)]
def townO (s : G8) : MO := .tdc (townL (gD s) (rD s))
theorem kgr : S (cd "game") ≠ S (cd "row") := fun z => by have := S_inj z; revert this; decide +kernel
theorem tget_g (x y : D) : tget (townL x y) (S (cd "game")) = some x := by simp [tget, townL]
theorem tget_r (x y : D) : tget (townL x y) (S (cd "row")) = some y := by
  unfold tget townL
  rw [List.find?_cons_of_neg (by simpa using kgr), List.find?_cons_of_pos (by simp)]
  rfl
theorem tput_g (x y v : D) : tput (townL x y) (S (cd "game")) v = townL v y := by
  unfold tput townL
  rw [if_pos (by simp)]
  rw [List.map_cons, List.map_cons, List.map_nil, if_pos rfl, if_neg (fun z => kgr z.symm)]
theorem tput_r (x y v : D) : tput (townL x y) (S (cd "row")) v = townL x v := by
  unfold tput townL
  rw [if_pos (by simp)]
  rw [List.map_cons, List.map_cons, List.map_nil, if_neg kgr, if_pos rfl]
section
variable {G : Ctx} {W : WX} {ds : DS} {m : Mu} {R : DV → Mu → Prop} {XR : Tag → Mu → Prop} {t : Addr} {i : Nat} {x y : D}
/-- town["game"], town["row"] -/
theorem ev_tg (hi : ds[i]? = some (some (.r t))) (hm : m t = some (.tdc (townL x y))) (k : R (.d x) m) : EvD G W (tTGet G (tVar i) (tC (.str (S (cd "game"))))) ds m R XR :=
  ev_tget (ev_var hi (ev_str ⟨t, _, _, x, rfl, rfl, hm, tget_g x y, k⟩))
theorem ev_tr (hi : ds[i]? = some (some (.r t))) (hm : m t = some (.tdc (townL x y))) (k : R (.d y) m) : EvD G W (tTGet G (tVar i) (tC (.str (S (cd "row"))))) ds m R XR :=
  ev_tget (ev_var hi (ev_str ⟨t, _, _, y, rfl, rfl, hm, tget_r x y, k⟩))
variable {N : EndsD} {XS : Tag → DS → Mu → Prop} {tv : TE}
theorem st_tg (hi : ds[i]? = some (some (.r t))) (h : EvD G W tv ds m (fun v m1 => ∃ d x y, v = .d d ∧ m1 t = some (.tdc (townL x y)) ∧ N.nx ds (mset m1 t (.tdc (townL d y)))) (fun t m1 => XS t ds m1)) : StD G W (sTSet G (tVar i) (tC (.str (S (cd "game")))) tv) ds m N XS :=
  st_tset (h.imp (fun v m1 ⟨d, x, y, e, hm, q⟩ => ev_var hi (ev_str ⟨t, _, d, _, rfl, rfl, e, hm, by unfold townL; simp, by rw [tput_g]; exact q⟩)) (fun _ _ z => z))
theorem st_tr (hi : ds[i]? = some (some (.r t))) (h : EvD G W tv ds m (fun v m1 => ∃ d x y, v = .d d ∧ m1 t = some (.tdc (townL x y)) ∧ N.nx ds (mset m1 t (.tdc (townL x d)))) (fun t m1 => XS t ds m1)) : StD G W (sTSet G (tVar i) (tC (.str (S (cd "row")))) tv) ds m N XS :=
  st_tset (h.imp (fun v m1 ⟨d, x, y, e, hm, q⟩ => ev_var hi (ev_str ⟨t, _, d, _, rfl, rfl, e, hm, by unfold townL; simp, by rw [tput_r]; exact q⟩)) (fun _ _ z => z))
end
/-- what the law holds due -/
def Due (m : Mu) (t : Addr) (R : DV → Mu → Prop) (o : (Tag ⊕ List Nat) × G8) : Prop := R (.d (.str (S (outT o.1)))) (mset m t (townO o.2))
theorem Due.x {m : Mu} {t : Addr} {R : DV → Mu → Prop} {o : (Tag ⊕ List Nat) × G8} {s : G8} {c : Tag} (h : Due m t R o) (e : o = (.inl c, s)) (hm : m t = some (townO s)) : R (.d (.str (S (refT c)))) m := by
  subst e
  have h : R (.d (.str (S (refT c)))) (mset m t (townO s)) := h
  rw [m_same hm] at h
  exact h
theorem Due.r {m : Mu} {t : Addr} {R : DV → Mu → Prop} {o : (Tag ⊕ List Nat) × G8} {s : G8} {x : List Nat} (h : Due m t R o) (e : o = (.inr x, s)) : R (.d (.str (S x))) (mset m t (townO s)) := by
  subst e
  exact h
theorem Due.s {m : Mu} {t : Addr} {R : DV → Mu → Prop} {o : (Tag ⊕ List Nat) × G8} {s : G8} {x : List Nat} (h : Due m t R o) (e : o = (.inr x, s)) (hm : m t = some (townO s)) : R (.d (.str (S x))) m := by
  have := h.r e
  rw [m_same hm] at this
  exact this
/-! ### a game begun -/
abbrev dWords (p : Rw) : D := .lst ((p.1 :: p.2).map fun w => D.str (S w))
def S_law_game : SpD := fun es m R _ => ∃ (t : Addr) (s : G8) (p : Rw), es = [.d (dWords p), .r t] ∧ m t = some (townO s) ∧ RowOk p ∧ p.1 = cd "game" ∧ Due m t R (ansN s p)
def rd_law_game (G : Ctx) (W : WX) : TS :=
  tSeq (tIfS (tTest (tOp (rD2 G neF) (tCB (rDn G lenF) (tCons (tVar 0) (tNil))) (tC (.int 3)))) (tRet (tC (.str (Str.ofString "refused: row")))) (tNext))
  (tSeq (tPar 2 3 (tCons (tCB (rDn G intSF) (tCons (tOp (rD2 G idxF) (tVar 0) (tC (.int 1))) (tNil))) (tCons (tCB (rDn G intSF) (tCons (tOp (rD2 G idxF) (tVar 0) (tC (.int 2))) (tNil))) (tNil))))
  (tSeq (tIfS (tOr (tNot (tTest (tChain (rD2 G leF) (rD2 G leF) (tC (.int 1)) (tVar 2) (tC (.int 64))))) (tTest (tOp (rD2 G gtF) (tVar 3) (tC (.int 4))))) (tRet (tC (.str (Str.ofString "refused: game")))) (tNext))
  (tSeq (sTSet G (tVar 1) (tC (.str (Str.ofString "game"))) (tTup (tCons (tVar 2) (tCons (tVar 3) (tNil)))))
  (tSeq (sTSet G (tVar 1) (tC (.str (Str.ofString "row"))) (tLst (tNil)))
  (tRet (tC (.str (Str.ofString "ok"))))))))

theorem len_law_game : ∀ es m R XR, S_law_game es m R XR → es.length = 2 := by
  rintro es m R XR ⟨t, s, p, rfl, _⟩
  rfl
theorem g_not : ¬ (cd "game" = cd "yes" ∨ cd "game" = cd "no") := by decide +kernel
theorem g_five : cd "game" ∉ five := by decide +kernel
theorem x_int {m : Mu} {R : DV → Mu → Prop} {w : List Nat} {v : Int} (h : wordN w = some v) (k : R (.d (.int v)) m) : intSF [.d (.str (S w))] m R := by
  obtain ⟨_, _, e, hd, hne, hl⟩ := wordN_le h
  refine ⟨_, int_S (List.all_eq_true.mpr fun c hc => List.all_eq_true.mp hd c hc) hne (by omega), by rw [S_len]; omega, ?_⟩
  rw [← e]
  exact k
theorem sem_law_game (G : Ctx) : BodyD G 4 (rd_law_game G) S_law_game := by
  rintro W es m R XR ⟨t, s, ⟨w, r⟩, rfl, hm, hp, hg, h⟩
  have hg : w = cd "game" := hg
  subst hg
  have hfew := hp.few
  dsimp only at hfew
  unfold rd_law_game
  simp only [tCS]
  walk_at "r"
  refine i_nd (fun c => ?_) (fun c => ?_)
  · have c : r.length ≠ 2 := fun z => c (by rw [List.length_cons, z]; rfl)
    walk_at "r"
    exact h.x (c := .row) (s := s) (by unfold ansN; rw [if_neg (fun z => c z.2), if_neg g_not]; unfold wordsN; rw [if_pos (.inr g_five)]) hm
  have c : r.length = 2 := by
    have c : (((cd "game" :: r).length : Nat) : Int) = 3 := c
    rw [List.length_cons] at c
    omega
  obtain ⟨x, y, rfl⟩ : ∃ x y, r = [x, y] := by
    match r, c with
    | [x, y], _ => exact ⟨x, y, rfl⟩
  have hw := hp.gm rfl rfl
  obtain ⟨n, en⟩ := Option.ne_none_iff_exists'.mp (hw x (by simp))
  obtain ⟨l, el⟩ := Option.ne_none_iff_exists'.mp (hw y (by simp))
  have e1 : ansN s (cd "game", [x, y]) = if GameOk n l then (.inr (cd "ok"), some (n.toNat, l.toNat, [])) else (.inl .game, s) := by
    unfold ansN
    rw [if_pos ⟨rfl, rfl⟩]
    show gameN s x y = _
    unfold gameN
    rw [en, el]
  have hn := wordN_le en
  have hl := wordN_le el
  rw [e1] at h
  walk_at "r"
  refine st_par ?_
  walk_at "r"
  refine ⟨.str (S x), atI_nat (j := 1) rfl, ?_⟩
  walk_at "r"
  refine x_int en ?_
  walk_at "r"
  refine ⟨.str (S y), atI_nat (j := 2) rfl, ?_⟩
  walk_at "r"
  refine x_int el ?_
  walk_at "r"
  refine ⟨_, _, rfl, ?_⟩
  have bad : ¬ GameOk n l → R (.d (.str (S (cd "refused: game")))) m := fun z => h.x (c := .game) (s := s) (by rw [if_neg z]) hm
  have good : GameOk n l → StD G W (tSeq (sTSet G (tVar 1) (tC (.str (S (cd "game")))) (tTup (tCons (tVar 2) (tCons (tVar 3) tNil)))) (tSeq (sTSet G (tVar 1) (tC (.str (S (cd "row")))) (tLst tNil)) (tRet (tC (.str (S (cd "ok"))))))) [some (.d (dWords (cd "game", [x, y]))), some (.r t), some (.d (.int n)), some (.d (.int l))] m (NL R) (fun t _ m' => XR t m') := fun ok => by
    obtain ⟨a1, a2, a3, a4⟩ := id ok
    refine st_seq (st_tg rfl ?_)
    walk_at "r"
    refine ⟨_, _, _, rfl, hm, ?_⟩
    refine st_seq (st_tr rfl ?_)
    walk_at "r"
    refine ⟨_, _, _, rfl, mset_same, ?_⟩
    walk_at "r"
    rw [mset_mset]
    have := h.r (by rw [if_pos ok])
    unfold townO gD rD at this
    dsimp only at this
    rw [show ((n.toNat : Nat) : Int) = n by omega, show ((l.toNat : Nat) : Int) = l by omega] at this
    exact this
  walk_at "r"
  refine i_d (fun a1 => ?_) (fun a1 => ?_)
  case refine_2 =>
    walk_at "r"
    exact bad fun z => a1 z.1
  walk_at "r"
  refine i_nd (fun a2 => ?_) (fun a2 => ?_)
  · walk_at "r"
    exact bad fun z => a2 z.2.1
  walk_at "r"
  refine i_d (fun a3 => ?_) (fun a3 => ?_)
  · walk_at "r"
    exact bad fun z => by have := z.2.2.2; omega
  · refine st_next ?_
    exact good ⟨a1, a2, hl.1, by omega⟩
end Lb

/-! Sm80e: what is due to a row. -/
namespace Lb
open PySem L2 SX
local macro_rules | `(tactic| walk_at "v") => `(tactic| ((with_reducible refine ev_var (d := ?dv) ?hv ?_); (case hv => exact rfl)))
local macro_rules | `(tactic| walk_at "f") => `(tactic| first
  | with_reducible refine f_in ?_
  | with_reducible refine f_notin ?_
  | with_reducible refine f_add_i ?_
  | with_reducible refine f_add_s ?_
  | with_reducible refine f_add_l ?_
  | with_reducible refine f_add_t ?_
  | with_reducible refine f_sub ?_
  | with_reducible refine f_mul_i ?_
  | with_reducible refine f_mul_l ?_
  | with_reducible refine f_mul_t ?_
  | with_reducible refine f_div ?_
  | with_reducible refine f_mod ?_
  | with_reducible refine f_pow ?_
  | with_reducible refine f_lt ?_
  | with_reducible refine f_le ?_
  | with_reducible refine f_gt ?_
  | with_reducible refine f_ge ?_
  | with_reducible refine f_eq_i ?_
  | with_reducible refine f_ne_i ?_
  | with_reducible refine f_eq_b ?_
  | with_reducible refine f_ne_b ?_
  | with_reducible refine f_is_n ?_
  | with_reducible refine f_isnot_n ?_
  | with_reducible refine f_is_i ?_
  | with_reducible refine f_isnot_i ?_
  | with_reducible refine f_is_b ?_
  | with_reducible refine f_isnot_b ?_
  | with_reducible refine f_is_s ?_
  | with_reducible refine f_isnot_s ?_
  | with_reducible refine f_is_l ?_
  | with_reducible refine f_isnot_l ?_
  | with_reducible refine f_is_t ?_
  | with_reducible refine f_isnot_t ?_
  | with_reducible refine f_is_r ?_
  | with_reducible refine f_isnot_r ?_
  | with_reducible refine f_is ?_
  | with_reducible refine f_isnot ?_
  | with_reducible refine f_neg ?_
  | with_reducible refine f_len_ml ?_
  | with_reducible refine f_len_mt ?_
  | with_reducible refine f_sum_l ?_
  | with_reducible refine f_sum_t ?_
  | with_reducible refine f_all ?_
  | with_reducible refine f_any ?_
  | with_reducible refine f_len_l ?_
  | with_reducible refine f_len_t ?_
  | with_reducible refine f_len_c ?_
  | with_reducible refine f_abs ?_
  | with_reducible refine f_min2 ?_
  | with_reducible refine f_max2 ?_
  | with_reducible refine f_list_l ?_
  | with_reducible refine f_list_t ?_
  | with_reducible refine f_tup_l ?_
  | with_reducible refine f_tup_t ?_
  | with_reducible refine f_int_i ?_
  | with_reducible refine f_int_b ?_
  | with_reducible refine f_sl_l ?_
  | with_reducible refine f_sl_t ?_
  | with_reducible refine f_tr_n ?_
  | with_reducible refine f_tr_b ?_
  | with_reducible refine f_tr_i ?_
  | with_reducible refine f_tr_l ?_
  | with_reducible refine f_tr_t ?_
  | with_reducible refine f_tr_c ?_)
local macro_rules | `(tactic| walk_at "m") => `(tactic| first
  | assumption
  | exact mset_same
  | ((refine (mset_ne ?_).trans ?_); (first | assumption | exact Ne.symm (by assumption)); walk_at "m"))
local macro_rules | `(tactic| walk_at "w") => `(tactic| first
  | walk_at "v"
  | with_reducible refine ev_rev ?_
  | with_reducible refine ev_sset ?_
  | with_reducible refine ev_lcl ?_
  | with_reducible refine ev_lct ?_
  | with_reducible refine ev_lcs ?_
  | with_reducible refine ev_lc1 ?_
  | with_reducible refine ev_lc2 ?_
  | with_reducible refine st_forl ?_
  | with_reducible refine st_fort ?_
  | with_reducible refine st_fors ?_
  | with_reducible refine st_for1 ?_
  | with_reducible refine st_for2 ?_
  | with_reducible refine ex_bl ?_
  | with_reducible refine ex_in ?_
  | with_reducible refine ex_ls ?_
  | with_reducible refine ex_tu ?_
  | with_reducible refine ex_st ?_
  | with_reducible refine ex_d0 ?_
  | with_reducible refine ex_d1 ?_
  | with_reducible refine ex_d2 ?_
  | with_reducible refine ex_d3 ?_
  | with_reducible refine ex_d4 ?_
  | with_reducible refine ex_d5 ?_
  | with_reducible refine ex_d6 ?_
  | with_reducible refine ex_d7 ?_
  | with_reducible refine ex_d8 ?_
  | with_reducible refine m_and ?_
  | with_reducible refine i_t ?_
  | with_reducible refine i_f ?_
  | with_reducible refine i_nt ?_
  | with_reducible refine i_nf ?_
  | with_reducible refine ev_fld ?_
  | ((with_reducible refine x_fld (fs := ?fs) (v := ?vv) ?hh ?ll ?_); (case hh => walk_at "m"); (case ll => exact rfl))
  | with_reducible refine ev_meth ?_
  | ((with_reducible refine x_meth (fs := ?fs) ?hh ?ll ?_); (case hh => walk_at "m"); (case ll => exact rfl))
  | with_reducible refine ev_make ?_
  | with_reducible refine st_fld ?_
  | ((with_reducible refine x_set (fs := ?fs) ?hh ?ll ?_); (case hh => walk_at "m"); (case ll => exact Nat.le_of_ble_eq_true rfl))
  | with_reducible refine ev_lstP ?_
  | with_reducible refine ev_dnew ?_
  | with_reducible refine st_dset ?_
  | with_reducible refine ev_tup ?_
  | with_reducible refine ev_lst ?_
  | with_reducible refine ev_int ?_
  | with_reducible refine ea_cons ?_
  | with_reducible refine ea_nil ?_
  | with_reducible refine ev_op ?_
  | with_reducible refine st_seq ?_
  | with_reducible refine st_asg ?_
  | with_reducible refine ev_call ?_
  | with_reducible refine ev_cb ?_
  | with_reducible refine st_if ?_
  | with_reducible refine et_test ?_
  | with_reducible refine et_not ?_
  | with_reducible refine et_or ?_
  | with_reducible refine et_and ?_
  | with_reducible refine et_tru ?_
  | with_reducible refine et_yes ?_
  | with_reducible refine et_B ?_
  | with_reducible refine ev_chain ?_
  | with_reducible refine ev_chain3 ?_
  | with_reducible refine ev_un ?_
  | with_reducible refine ev_if ?_
  | with_reducible refine ev_bl ?_
  | with_reducible refine ev_non ?_
  | with_reducible refine ev_str ?_
  | with_reducible refine ev_andV ?_
  | with_reducible refine ev_orV ?_
  | with_reducible refine ev_notV ?_
  | with_reducible refine ev_isB ?_
  | with_reducible refine ev_isE ?_
  | with_reducible refine ev_sl2 ?_
  | with_reducible refine ev_slA ?_
  | with_reducible refine ev_slB ?_
  | with_reducible refine ev_bmL ?_
  | with_reducible refine ev_bmL0 ?_
  | with_reducible refine st_ret ?_
  | with_reducible refine st_drop ?_
  | with_reducible refine st_next ?_
  | with_reducible refine st_setL ?_
  | with_reducible refine st_asgG ?_
  | with_reducible refine st_raise ?_
  | with_reducible refine gt_name ?_
  | with_reducible refine gt_tup2 ?_
  | with_reducible refine gt_tup3 ?_
  | walk_at "f")
local macro_rules | `(tactic| walk_at "r") => `(tactic| repeat walk_at "w")

/-! ### a question answered -/
def S_law_asked : SpD := fun es m R _ => ∃ (t : Addr) (s : G8) (p : Rw), es = [.d (dWords p), .r t] ∧ m t = some (townO s) ∧ OkS 499 s ∧ RowOk p ∧ (p.1 = cd "yes" ∨ p.1 = cd "no") ∧ Due m t R (ansN s p)
def rd_law_asked_5 (G : Ctx) (W : WX) : TS :=
  tSeq (tAsg (tOp (rD2 G addF) (tTGet G (tVar 1) (tC (.str (Str.ofString "row")))) (tLst (tCons (tTup (tCons (tVar 2) (tCons (tOp (rD2 G eqF) (tOp (rD2 G idxF) (tVar 0) (tC (.int 0))) (tC (.str (Str.ofString "yes")))) (tNil)))) (tNil)))) (gName 6))
  (tSeq (tAsg (tLc (iRng1 (tCons (tVar 4) (tNil))) (gName 8) (tTest (tOp (rD2 G leF) (tCallS (spL G S_law_lied) (WE WF) (tCons (tVar 6) (tCons (tVar 8) (tNil)))) (tVar 5))) (tVar 8) [8]) (gName 7))
  (tSeq (tIfS (tTest (tOp (rD2 G eqF) (tVar 7) (tLst (tNil)))) (tRet (tC (.str (Str.ofString "refused: liar")))) (tNext))
  (tSeq (sTSet G (tVar 1) (tC (.str (Str.ofString "row"))) (tVar 6))
  (tRet (tOp (rD2 G addF) (tC (.str (Str.ofString "left "))) (tCallS (spL G S_law_text) (WE W) (tCons (tVar 7) (tNil))))))))
def rd_law_asked_2 (G : Ctx) (W : WX) : TS :=
  tSeq (tIfS (tTest (tOp (rD2 G isF) (tTGet G (tVar 1) (tC (.str (Str.ofString "game")))) (tC .non))) (tRet (tC (.str (Str.ofString "refused: game")))) (tNext))
  (tSeq (tAsg (tTGet G (tVar 1) (tC (.str (Str.ofString "game")))) (gTup G.K 2 (gCons (gName 4) (gCons (gName 5) (gNil)))))
  (tSeq (tIfS (tOr (tTest (tOp (rD2 G neF) (tVar 2) (tSset G G.w (tCons (tVar 2) (tNil))))) (tAnd (tTest (tOp (rD2 G neF) (tVar 2) (tLst (tNil)))) (tTest (tOp (rD2 G geF) (tOp (rD2 G idxF) (tVar 2) (tUn (rD1 G negF) (tC (.int 1)))) (tVar 4))))) (tRet (tC (.str (Str.ofString "refused: question")))) (tNext))
  (rd_law_asked_5 G W)))
def rd_law_asked (G : Ctx) (W : WX) : TS :=
  tSeq (tAsg (tLstO (tNil)) (gName 2))
  (tSeq (tFor (iList G.K (tSl (rDS G sliceF) (tVar 0) (tPart (tC (.int 1))) tNoPart)) (gName 3) (tSeq (tIfS (tOr (tTest (tOp (rD2 G eqF) (tVar 3) (tC (.str (Str.ofString ""))))) (tOr (tTest (tOp (rD2 G gtF) (tCB (rDn G lenF) (tCons (tVar 3) (tNil))) (tC (.int 2)))) (tTest (tOp (rD2 G neF) (tCB (rDn G strF) (tCons (tCB (rDn G intSF) (tCons (tVar 3) (tNil))) (tNil))) (tVar 3))))) (tRet (tC (.str (Str.ofString "refused: row")))) (tNext))
  (tDrop (tBM G.K "list" (rDM G appendF) (tVar 2) (tCons (tCB (rDn G intSF) (tCons (tVar 3) (tNil))) (tNil))))))
  (rd_law_asked_2 G W))

theorem len_law_asked : ∀ es m R XR, S_law_asked es m R XR → es.length = 2 := by
  rintro es m R XR ⟨t, s, p, rfl, _⟩
  rfl
theorem gD_none : gD none = .non := rfl
theorem gD_some (n l : Nat) (row : List QA) : gD (some (n, l, row)) = .tup [.int (n : Nat), .int (l : Nat)] := rfl
theorem yn_game : ¬ (cd "yes" = cd "game" ∨ cd "no" = cd "game") := by decide +kernel
section
variable {G : Ctx} {W : WX} {m : Mu} {R : DV → Mu → Prop} {XR : Tag → Mu → Prop} {t : Addr} {s : G8} {w : List Nat} {r : List (List Nat)} {n l : Nat} {row : List QA} {o3 : Option DV}
theorem asked_5 (hm : m t = some (townO (some (n, l, row)))) (ok : OkS 499 (some (n, l, row))) (hp : RowOk (w, r)) (hq : QOk n (r.filterMap wordN))
    (h : Due m t R (if leftN n l (addR row (w, r)) = [] then (.inl .liar, some (n, l, row)) else (.inr (cd "left " ++ numsT (leftN n l (addR row (w, r)))), some (n, l, addR row (w, r))))) :
    StD G W (rd_law_asked_5 G W) [some (.d (dWords (w, r))), some (.r t), some (.d (dInts (r.filterMap wordN))), o3, some (.d (.int (n : Nat))), some (.d (.int (l : Nat))), none, none, none] m (NL R) (fun t _ m' => XR t m') := by
  obtain ⟨k1, k2, k3, k4, k5, k6⟩ := id ok
  have hw : Asc w := fun c hc => (hp.asc w (by simp) c hc).1
  unfold rd_law_asked_5
  simp only [tCS]
  refine st_seq (st_asg (ev_op (ev_tr rfl hm ?_)))
  walk_at "r"
  refine ⟨.str (S w), atI_nat (j := 0) rfl, ?_⟩
  walk_at "r"
  refine x_eq hw (asc_cd (by decide +kernel)) ?_
  walk_at "r"
  refine f_add_l ⟨by rw [List.length_map]; simp; omega, ?_⟩
  rw [show row.map dQA ++ [D.tup [dInts (r.filterMap wordN), D.bl (decide (w = cd "yes"))]] = (addR row (w, r)).map dQA by rw [List.map_append]; rfl]
  have hrl : (addR row (w, r)).length ≤ 1000 := by rw [List.length_append, List.length_singleton]; omega
  generalize addR row (w, r) = row' at *
  walk_at "r"
  refine ⟨_, rfl, by omega, by omega, ?_⟩
  rw [Int.toNat_natCast]
  refine lcF (List.range n) (fun t => .d (.int (0 + (t : Nat)))) (fun t => decide (liesN row' ((t : Nat) : Int) ≤ l)) (fun t => .int ((t : Nat) : Int)) rfl (by rw [List.length_range]; omega) (fun k M hk hM => ⟨_, .name (by decide), ?_, fun _ => ?_⟩) ?_
  · walk_at "r"
    rw [Int.zero_add]
    refine ⟨row', _, rfl, hrl, ?_⟩
    walk_at "r"
    apply decide_eq_decide.mpr
    omega
  · walk_at "r"
    rw [Int.zero_add]
  rw [show ((List.range n).filter fun t => decide (liesN row' ((t : Nat) : Int) ≤ l)).map (fun t => D.int ((t : Nat) : Int)) = (leftN n l row').map D.int by unfold leftN; rw [List.map_map]; rfl]
  walk_at "r"
  refine x_eqN ?_
  walk_at "r"
  refine i_d (fun c => ?_) (fun c => ?_)
  · walk_at "r"
    exact h.x (c := .liar) (s := some (n, l, row)) (by rw [if_pos c]) hm
  walk_at "r"
  refine st_tr rfl ?_
  walk_at "r"
  refine ⟨_, _, _, rfl, hm, ?_⟩
  have hll := left_len n l row'
  have hnl := numsT_len (left_99 (n := n) (l := l) (row := row') k2)
  walk_at "r"
  refine ⟨leftN n l row', rfl, left_99 k2, by omega, ?_⟩
  refine x_add (by rw [show (cd "left ").length = 5 by decide +kernel]; omega) ?_
  exact h.r (by rw [if_neg c])
theorem asked_2 (hm : m t = some (townO s)) (ok : OkS 499 s) (hp : RowOk (w, r)) (hall : ¬ ∃ v ∈ r, wordN v = none) (h : Due m t R (askN s (w, r))) :
    StD G W (rd_law_asked_2 G W) [some (.d (dWords (w, r))), some (.r t), some (.d (dInts (r.filterMap wordN))), o3, none, none, none, none, none] m (NL R) (fun t _ m' => XR t m') := by
  have hfew := hp.few
  dsimp only at hfew
  have hfl : (r.filterMap wordN).length ≤ r.length := wl_len
  have hpos : ∀ k ∈ r.filterMap wordN, 0 ≤ k := fun k hk => by
    obtain ⟨v, _, e⟩ := List.mem_filterMap.mp hk
    exact (wordN_le e).1
  unfold rd_law_asked_2
  simp only [tCS]
  refine st_seq (st_if (et_test (ev_op (ev_tg rfl hm ?_))))
  cases s with
  | none =>
    rw [gD_none]
    walk_at "r"
    exact h.x (c := .game) (s := none) (by unfold askN; rw [if_neg hall]) hm
  | some x =>
    obtain ⟨n, l, row⟩ := x
    unfold askN at h
    rw [if_neg hall] at h
    dsimp only at h
    rw [gD_some]
    walk_at "r"
    refine ev_tg rfl hm ?_
    rw [gD_some]
    walk_at "r"
    refine ⟨r.filterMap wordN, rfl, by omega, ?_⟩
    refine v_ne rfl rfl sh_dInts sh_dInts ?_
    rw [eqD_ints]
    generalize hqe : r.filterMap wordN = q at *
    have bad : ¬ QOk n q → R (.d (.str (S (cd "refused: question")))) m := fun z => h.x (c := .question) (s := some (n, l, row)) (by rw [if_pos z]) hm
    have good : QOk n q → StD G W (rd_law_asked_5 G W) [some (.d (dWords (w, r))), some (.r t), some (.d (dInts q)), o3, some (.d (.int (n : Nat))), some (.d (.int (l : Nat))), none, none, none] m (NL R) (fun t _ m' => XR t m') := fun z => by
      rw [if_neg (fun y => y z)] at h
      subst hqe
      exact asked_5 hm ok hp z h
    by_cases e : q = sset q
    · rw [decide_eq_true e]
      have pw : q.Pairwise (· < ·) := by rw [e]; exact sset_pw q
      walk_at "r"
      refine x_neN ?_
      walk_at "r"
      refine i_nd (fun c => ?_) (fun c => ?_)
      · obtain ⟨y, ys, rfl⟩ := List.exists_cons_of_ne_nil c
        have el : (y :: ys).getLast? = some ((y :: ys).getLast (by simp)) := List.getLast?_eq_some_getLast (by simp)
        have es : y :: ys = (y :: ys).dropLast ++ [(y :: ys).getLast (by simp)] := (List.dropLast_concat_getLast (by simp)).symm
        walk_at "r"
        refine ⟨.int ((y :: ys).getLast (by simp)), ?_, ?_⟩
        · have := atI_map (f := D.int) (atI_last (y :: ys).dropLast ((y :: ys).getLast (by simp)))
          rw [← es] at this
          exact this
        generalize hl : (y :: ys).getLast (by simp) = z at el
        have bd := pw_last pw el
        have zin : z ∈ y :: ys := by rw [← hl]; exact List.getLast_mem _
        walk_at "r"
        refine i_d (fun a2 => ?_) (fun a2 => ?_)
        · walk_at "r"
          exact bad fun ok2 => by have := (ok2.2 z zin).2; omega
        · refine st_next ?_
          exact good ⟨pw, fun k hk => ⟨hpos k hk, by have := bd k hk; omega⟩⟩
      · refine st_next ?_
        refine good ⟨pw, fun k hk => ?_⟩
        rw [c] at hk
        cases hk
    · rw [decide_eq_false e]
      walk_at "r"
      exact bad fun ok2 => e (sset_self ok2.1).symm
end
theorem sem_law_asked (G : Ctx) : BodyD G 9 (rd_law_asked G) S_law_asked := by
  rintro W es m R XR ⟨t, s, ⟨w, r⟩, rfl, hm, ok, hp, hyn, h⟩
  have hyn : w = cd "yes" ∨ w = cd "no" := hyn
  have hfew := hp.few
  dsimp only at hfew
  have e1 : ansN s (w, r) = askN s (w, r) := by
    unfold ansN
    rw [if_neg (fun z => by rcases hyn with e | e; exact yn_game (.inl (e.symm.trans z.1)); exact yn_game (.inr (e.symm.trans z.1))), if_pos hyn]
  rw [e1] at h
  have hdig := hp.ask hyn
  unfold rd_law_asked
  simp only [tCS, cd_em]
  walk_at "r"
  intro q hq
  refine st_seq (st_forl ?_)
  walk_at "r"
  rw [List.map_cons, cut_tail]
  refine forL r (fun w => .d (.str (S w))) (fun pre ds' m' => (∀ v ∈ pre, wordN v ≠ none) ∧ m' = mset m q (.lst ((pre.filterMap wordN).map D.int)) ∧ ∃ o3, ds' = [some (.d (dWords (w, r))), some (.r t), some (.r q), o3, none, none, none, none, none]) (by rw [List.map_map]; rfl) ⟨(fun v hv => by cases hv), rfl, none, rfl⟩ ?_ ?_
  · rintro pre v post ds' m' epre ⟨hpre, rfl, o3, rfl⟩
    have hv : v ∈ r := by rw [epre]; simp
    have hva : Asc v := fun c hc => (hp.asc v (List.mem_cons_of_mem _ hv) c hc).1
    have hvl : v.length ≤ 20 := hp.sh v (List.mem_cons_of_mem _ hv)
    have hd := hdig v hv
    have bad : wordN v = none → R (.d (.str (S (cd "refused: row")))) m := fun z => h.x (c := .row) (s := s) (by unfold askN; rw [if_pos ⟨v, hv, z⟩]) hm
    walk_at "r"
    refine x_eq hva (fun c hc => by cases hc) ?_
    walk_at "r"
    refine i_d (fun c1 => ?_) (fun c1 => ?_)
    · refine StD.sub (m' := m) ?_ (sub_mset hq)
      walk_at "r"
      exact bad (word_bad (.inl c1))
    walk_at "r"
    refine x_len (by omega) ?_
    walk_at "r"
    refine i_d (fun c2 => ?_) (fun c2 => ?_)
    · refine StD.sub (m' := m) ?_ (sub_mset hq)
      walk_at "r"
      exact bad (word_bad (.inr (by omega)))
    have h2 : v.length ≤ 2 := by omega
    have hle := dig_le hd h2
    have hint : PySem.intText? (S v) = some ((NumText.digitsVal v : Nat) : Int) := int_S (List.all_eq_true.mpr fun c hc => List.all_eq_true.mp hd c hc) c1 (by omega)
    walk_at "r"
    refine ⟨_, hint, by rw [S_len]; omega, ?_⟩
    walk_at "r"
    refine x_str (by omega) (by omega) ?_
    walk_at "r"
    refine x_ne (asc_numT _) hva ?_
    have eN : numT ((NumText.digitsVal v : Nat) : Int) = TL.numL (NumText.digitsVal v) := by unfold numT; rw [Int.toNat_natCast]
    rw [eN]
    walk_at "r"
    refine i_nd (fun c3 => ?_) (fun c3 => ?_)
    · refine StD.sub (m' := m) ?_ (sub_mset hq)
      walk_at "r"
      refine bad ?_
      cases e : wordN v with
      | none => rfl
      | some i => exact absurd ((word_iff hd c1 h2).mpr (by rw [e]; exact fun z => nomatch z)) c3
    have hw : wordN v ≠ none := (word_iff hd c1 h2).mp c3
    obtain ⟨i, ei⟩ := Option.ne_none_iff_exists'.mp hw
    have evi := (wordN_le ei).2.2.1
    walk_at "r"
    refine ⟨⟨_, mset_same⟩, ?_⟩
    walk_at "r"
    refine ⟨_, hint, by rw [S_len]; omega, ?_⟩
    walk_at "r"
    refine ⟨_, mset_same, ?_, ?_⟩
    · rw [List.length_map]
      have : (pre.filterMap wordN).length ≤ pre.length := wl_len
      have : r.length = pre.length + (post.length + 1) := by rw [epre]; simp
      omega
    · refine ⟨fun x hx => ?_, ?_, _, rfl⟩
      · rcases List.mem_append.mp hx with z | z
        · exact hpre x z
        · rw [List.mem_singleton.mp z]; exact hw
      · rw [mset_mset, List.filterMap_append, List.map_append, List.filterMap_cons, ei, ← evi]
        rfl
  · rintro ds' m' ⟨hpre, rfl, o3, rfl⟩
    refine st_frz 2 rfl mset_same ?_
    rw [mdel_mset hq]
    exact asked_2 hm ok hp (fun ⟨v, hv, e⟩ => hpre v hv e) h
/-! ### one word -/
def bestC (n l : Nat) (row : List QA) (w : List Nat) : Prop := w = cd "best" ∧ Small (countsN n l row) ∧ Small (countsN n l [])
def S_law_one : SpD := fun es m R _ => ∃ (t : Addr) (s : G8) (w : List Nat), es = [.d (.str (S w)), .r t] ∧ m t = some (townO s) ∧ OkS 499 s ∧ w ∈ five ∧ (s = none → R (.d (.str (S (cd "refused: game")))) m) ∧
  (∀ n l row, s = some (n, l, row) → (bestC n l row w → R (.d .non) m) ∧ (¬ bestC n l row w → Due m t R (oneN n l row w)))
def rd_law_one_6 (G : Ctx) (W : WX) : TS :=
  tSeq (tAsg (tCB (rDn G tupleF) (tCons (tLc (iRng1 (tCons (tOp (rD2 G addF) (tVar 3) (tC (.int 1))) (tNil))) (gName 8) (tYes) (tBM G.K "list" (rDM G countF) (tVar 4) (tCons (tVar 8) (tNil))) [8]) (tNil))) (gName 6))
  (tSeq (tIfS (tOr (tTest (tOp (rD2 G gtF) (tCB (rDn G sumF) (tCons (tVar 6) (tNil))) (tC (.int 12)))) (tOr (tTest (tOp (rD2 G gtF) (tVar 3) (tC (.int 2)))) (tAnd (tTest (tOp (rD2 G eqF) (tVar 0) (tC (.str (Str.ofString "best"))))) (tTest (tOp (rD2 G gtF) (tVar 2) (tC (.int 12))))))) (tRet (tC (.str (Str.ofString "refused: counts")))) (tNext))
  (tRet (tIf (tTest (tOp (rD2 G eqF) (tVar 0) (tC (.str (Str.ofString "needed"))))) (tCB (rDn G strF) (tCons (tCallS (spL G S_least) (WE W) (tCons (tVar 6) (tNil))) (tNil))) (tC .non))))
def rd_law_one_3 (G : Ctx) (W : WX) : TS :=
  tSeq (tIfS (tTest (tOp (rD2 G eqF) (tVar 0) (tC (.str (Str.ofString "left"))))) (tRet (tCallS (spL G S_law_text) (WE W) (tCons (tLc (iRng1 (tCons (tVar 2) (tNil))) (gName 7) (tTest (tOp (rD2 G leF) (tOp (rD2 G idxF) (tVar 4) (tVar 7)) (tVar 3))) (tVar 7) [7]) (tNil)))) (tNext))
  (tSeq (tIfS (tTest (tOp (rD2 G eqF) (tVar 0) (tC (.str (Str.ofString "lies"))))) (tRet (tM1 (rDM G joinF) (tC (.str (Str.ofString " "))) (tLc (iList G.K (tVar 4)) (gName 8) (tYes) (tIf (tTest (tOp (rD2 G leF) (tVar 8) (tVar 3))) (tCB (rDn G strF) (tCons (tVar 8) (tNil))) (tC (.str (Str.ofString "-")))) [8]))) (tNext))
  (tSeq (tIfS (tTest (tOp (rD2 G eqF) (tVar 0) (tC (.str (Str.ofString "back"))))) (tSeq (tAsg (tOp (rD2 G idxF) (tLst (tCons (tC (.str (Str.ofString "nothing"))) (tCons (tC (.str (Str.ofString "back"))) (tNil)))) (tCB (rDn G intF) (tCons (tOp (rD2 G neF) (tTGet G (tVar 1) (tC (.str (Str.ofString "row")))) (tLst (tNil))) (tNil)))) (gName 5))
  (tSeq (sTSet G (tVar 1) (tC (.str (Str.ofString "row"))) (tSl (rDS G sliceF) (tTGet G (tVar 1) (tC (.str (Str.ofString "row")))) tNoPart (tPart (tUn (rD1 G negF) (tC (.int 1))))))
  (tRet (tVar 5)))) (tNext))
  (rd_law_one_6 G W)))
def rd_law_one (G : Ctx) (W : WX) : TS :=
  tSeq (tIfS (tTest (tOp (rD2 G isF) (tTGet G (tVar 1) (tC (.str (Str.ofString "game")))) (tC .non))) (tRet (tC (.str (Str.ofString "refused: game")))) (tNext))
  (tSeq (tAsg (tTGet G (tVar 1) (tC (.str (Str.ofString "game")))) (gTup G.K 2 (gCons (gName 2) (gCons (gName 3) (gNil)))))
  (tSeq (tAsg (tLc (iRng1 (tCons (tVar 2) (tNil))) (gName 7) (tYes) (tCallS (spL G S_law_lied) (WE WF) (tCons (tTGet G (tVar 1) (tC (.str (Str.ofString "row")))) (tCons (tVar 7) (tNil)))) [7]) (gName 4))
  (rd_law_one_3 G W)))

theorem len_law_one : ∀ es m R XR, S_law_one es m R XR → es.length = 2 := by
  rintro es m R XR ⟨t, s, w, rfl, _⟩
  rfl
theorem cut_last {α : Type} (xs : List α) : cut xs none (some (-1)) = xs.dropLast := by
  unfold cut
  have e1 : HT.sIx xs.length 0 none = 0 := HT.sIx_none _ _
  rw [e1, List.drop_zero, Nat.sub_zero, List.dropLast_eq_take]
  congr 1
  show HT.sIx xs.length xs.length (some (-1)) = _
  unfold HT.sIx
  simp
  omega
theorem eqD_nil (xs : List D) (h : xs ≠ []) : eqD (.lst xs) (.lst []) = false := by
  unfold eqD
  rw [toPy, toPy, PyData.eqv]
  cases xs with
  | nil => exact absurd rfl h
  | cons x xs => rw [toPys, toPys, PyData.eqvAll]
theorem sh_row {n : Nat} {row : List QA} : Sh (n + 3) (dRow row) := by
  show ∀ x ∈ row.map dQA, Sh (n + 2) x
  intro x hx
  obtain ⟨p, _, rfl⟩ := List.mem_map.mp hx
  show ∀ x ∈ [dInts p.1, D.bl p.2], Sh (n + 1) x
  intro x hx
  simp only [List.mem_cons, List.not_mem_nil, or_false] at hx
  rcases hx with rfl | rfl
  · exact sh_dInts
  · exact sh_bl
theorem x_neR {m : Mu} {R : DV → Mu → Prop} {row : List QA} (h : R (.d (.bl (!decide (row = [])))) m) : neF (.d (dRow row)) (.d (.lst [])) m R := by
  refine v_ne rfl rfl (sh_row (n := 60)) (sh_dInts (n := 62) (ns := [])) ?_
  by_cases e : row = []
  · subst e
    rw [show eqD (dRow []) (.lst []) = true from eqD_refl _]
    rw [decide_eq_true rfl] at h
    exact h
  · rw [eqD_nil _ (by simpa using e)]
    rw [decide_eq_false e] at h
    exact h
section
variable {G : Ctx} {W : WX} {m : Mu} {R : DV → Mu → Prop} {XR : Tag → Mu → Prop} {t : Addr} {w : List Nat} {n l : Nat} {row : List QA}
theorem lone_6 (hm : m t = some (townO (some (n, l, row)))) (ok : OkS 499 (some (n, l, row))) (hw : w ∈ five) (h1 : bestC n l row w → R (.d .non) m) (h2 : ¬ bestC n l row w → Due m t R (oneN n l row w)) (c1 : ¬ w = cd "left") (c2 : ¬ w = cd "lies") (c3 : ¬ w = cd "back") :
    StD G W (rd_law_one_6 G W) [some (.d (.str (S w))), some (.r t), some (.d (.int (n : Nat))), some (.d (.int (l : Nat))), some (.d (dInts (toldN n row))), none, none, none, none] m (NL R) (fun t _ m' => XR t m') := by
  obtain ⟨k1, k2, k3, k4, k5, k6⟩ := id ok
  have hwa := asc_five w hw
  unfold rd_law_one_6
  simp only [tCS]
  walk_at "r"
  refine ⟨_, rfl, by omega, by omega, ?_⟩
  rw [show ((l : Int) + 1).toNat = l + 1 by omega]
  refine lcM (List.range (l + 1)) (fun t => .d (.int (0 + (t : Nat)))) (fun k => .int (((List.range n).countP fun t => decide (liesN row ((t : Nat) : Int) = k) : Nat) : Int)) rfl (by rw [List.length_range]; omega) (fun k M hk hM => ⟨_, .name (by decide), ?_⟩) ?_
  · walk_at "r"
    refine ⟨trivial, ?_⟩
    walk_at "r"
    refine ⟨_, _, rfl, rfl, sh_ints, sh_int, ?_⟩
    rw [Int.zero_add, count_told]
    exact ⟨rfl, rfl⟩
  rw [show (List.range (l + 1)).map (fun k => D.int (((List.range n).countP fun t => decide (liesN row ((t : Nat) : Int) = k) : Nat) : Int)) = (countsN n l row).map D.int by unfold countsN; rw [List.map_map]; rfl]
  have bad : ¬ Small (countsN n l row) → R (.d (.str (S (cd "refused: counts")))) m := fun z => (h2 fun y => z y.2.1).x (c := .counts) (s := some (n, l, row)) (by unfold oneN; rw [if_neg c1, if_neg c2, if_neg c3, if_pos z]) hm
  have hsi := small_iff (n := n) (l := l) (row := row) k2
  have hsn := small_nil (n := n) (l := l) k2
  walk_at "r"
  refine i_d (fun a1 => ?_) (fun a1 => ?_)
  · walk_at "r"
    exact bad fun z => by have := (hsi.mp z).1; omega
  walk_at "r"
  refine i_d (fun a2 => ?_) (fun a2 => ?_)
  · walk_at "r"
    exact bad fun z => by have := (hsi.mp z).2; omega
  have sm : Small (countsN n l row) := hsi.mpr ⟨by omega, by omega⟩
  have last : (w = cd "best" → n ≤ 12) → StD G W (tRet (tIf (tTest (tOp (rD2 G eqF) (tVar 0) (tC (.str (S (cd "needed")))))) (tCB (rDn G strF) (tCons (tCallS (spL G S_least) (WE W) (tCons (tVar 6) (tNil))) (tNil))) (tC .non))) [some (.d (.str (S w))), some (.r t), some (.d (.int (n : Nat))), some (.d (.int (l : Nat))), some (.d (dInts (toldN n row))), none, some (.d (dTup (countsN n l row))), none, none] m (NL R) (fun t _ m' => XR t m') := fun hb => by
    walk_at "r"
    refine x_eq hwa (asc_cd (by decide +kernel)) ?_
    walk_at "r"
    refine i_d (fun a3 => ?_) (fun a3 => ?_)
    · walk_at "r"
      refine ⟨_, rfl, by rw [counts_len]; omega, fun z => absurd sm z, fun _ => ?_⟩
      have hle := leastW_le sm.ok
      walk_at "r"
      refine x_str (by omega) (by omega) ?_
      exact (h2 fun y => by have := y.1; rw [a3] at this; revert this; decide +kernel).s (s := some (n, l, row)) (by unfold oneN; rw [if_neg c1, if_neg c2, if_neg c3, if_neg (fun z => z sm), if_pos a3]; rfl) hm
    · walk_at "r"
      have hwb : w = cd "best" := by
        simp only [five, List.mem_cons, List.not_mem_nil, or_false] at hw
        rcases hw with z | z | z | z | z
        · exact absurd z c1
        · exact absurd z c2
        · exact absurd z a3
        · exact z
        · exact absurd z c3
      exact h1 ⟨hwb, sm, hsn.mpr ⟨hb hwb, by omega⟩⟩
  walk_at "r"
  refine x_eq hwa (asc_cd (by decide +kernel)) ?_
  walk_at "r"
  refine i_d (fun a3 => ?_) (fun a3 => ?_)
  · walk_at "r"
    refine i_d (fun a4 => ?_) (fun a4 => ?_)
    · walk_at "r"
      have hno : ¬ Small (countsN n l []) := fun z => by have := (hsn.mp z).1; omega
      exact (h2 fun y => hno y.2.2).x (c := .counts) (s := some (n, l, row)) (by unfold oneN; rw [if_neg c1, if_neg c2, if_neg c3, if_neg (fun z => z sm), if_neg (by rw [a3]; decide +kernel), if_pos hno]) hm
    · refine st_next ?_
      exact last fun _ => by omega
  · refine st_next ?_
    exact last fun z => absurd z a3
theorem lone_3 (hm : m t = some (townO (some (n, l, row)))) (ok : OkS 499 (some (n, l, row))) (hw : w ∈ five) (h1 : bestC n l row w → R (.d .non) m) (h2 : ¬ bestC n l row w → Due m t R (oneN n l row w)) :
    StD G W (rd_law_one_3 G W) [some (.d (.str (S w))), some (.r t), some (.d (.int (n : Nat))), some (.d (.int (l : Nat))), some (.d (dInts (toldN n row))), none, none, none, none] m (NL R) (fun t _ m' => XR t m') := by
  obtain ⟨k1, k2, k3, k4, k5, k6⟩ := id ok
  have hwa := asc_five w hw
  have nb : ∀ {v : List Nat}, v ≠ cd "best" → w = v → ¬ bestC n l row w := fun {v} hv e z => hv (e.symm.trans z.1)
  have hll := left_len n l row
  unfold rd_law_one_3
  simp only [s_spc, tCS]
  walk_at "r"
  refine x_eq hwa (asc_cd (by decide +kernel)) ?_
  walk_at "r"
  refine i_d (fun c1 => ?_) (fun c1 => ?_)
  · walk_at "r"
    refine ⟨_, rfl, by omega, by omega, ?_⟩
    rw [Int.toNat_natCast]
    refine lcF (List.range n) (fun t => .d (.int (0 + (t : Nat)))) (fun t => decide (liesN row ((t : Nat) : Int) ≤ l)) (fun t => .int ((t : Nat) : Int)) rfl (by rw [List.length_range]; omega) (fun k M hk hM => ⟨_, .name (by decide), ?_, fun _ => ?_⟩) ?_
    · walk_at "r"
      refine ⟨_, told_get (List.mem_range.mp hk), ?_⟩
      walk_at "r"
      apply decide_eq_decide.mpr
      omega
    · walk_at "r"
      rw [Int.zero_add]
    rw [show ((List.range n).filter fun t => decide (liesN row ((t : Nat) : Int) ≤ l)).map (fun t => D.int ((t : Nat) : Int)) = (leftN n l row).map D.int by unfold leftN; rw [List.map_map]; rfl]
    walk_at "r"
    refine ⟨leftN n l row, rfl, left_99 k2, by omega, ?_⟩
    exact (h2 (nb (by decide +kernel) c1)).s (s := some (n, l, row)) (by unfold oneN; rw [if_pos c1]) hm
  walk_at "r"
  refine x_eq hwa (asc_cd (by decide +kernel)) ?_
  walk_at "r"
  refine i_d (fun c2 => ?_) (fun c2 => ?_)
  · refine st_ret (ev_m1 (ev_str ⟨⟨_, rfl⟩, ?_⟩))
    walk_at "r"
    refine lcM (toldN n row) (fun k => .d (.int k)) (fun k => .str (S (if k ≤ (l : Int) then numT k else cd "-"))) (by rw [List.map_map]; rfl) (by rw [told_len]; omega) (fun k M hk hM => ⟨_, .name (by decide), ?_⟩) ?_
    · obtain ⟨j, _, rfl⟩ := List.mem_map.mp hk
      walk_at "r"
      refine i_d (fun e => ?_) (fun e => ?_)
      · rw [if_pos e]
        walk_at "r"
        exact x_str (by omega) (by omega) ⟨rfl, rfl⟩
      · rw [if_neg e]
        walk_at "r"
        exact rfl
    · refine x_join ((toldN n row).map fun k => if k ≤ (l : Int) then numT k else cd "-") (by rw [List.map_map]; rfl) (by rw [List.length_map, told_len]; omega) (by decide) (fun p hp => ?_) ?_
      · obtain ⟨k, hk, rfl⟩ := List.mem_map.mp hp
        obtain ⟨j, _, rfl⟩ := List.mem_map.mp hk
        split
        · have := numT_len (i := ((liesN row (j : Int) : Nat) : Int)) (by omega) (by omega)
          omega
        · decide +kernel
      · exact (h2 (nb (by decide +kernel) c2)).s (s := some (n, l, row)) (by unfold oneN; rw [if_neg c1, if_pos c2]; rfl) hm
  walk_at "r"
  refine x_eq hwa (asc_cd (by decide +kernel)) ?_
  walk_at "r"
  refine i_d (fun c3 => ?_) (fun c3 => ?_)
  · have hD := h2 (nb (by decide +kernel) c3)
    refine st_seq (st_asg (ev_op ?_))
    walk_at "r"
    refine ev_tr rfl hm ?_
    walk_at "r"
    refine x_neR ?_
    walk_at "r"
    by_cases e : row = []
    · subst e
      rw [decide_eq_true rfl]
      refine ⟨.str (S (cd "nothing")), atI_nat (j := 0) rfl, ?_⟩
      refine st_seq (st_tr rfl (ev_slB (ev_tr rfl hm ?_)))
      walk_at "r"
      refine ⟨_, _, _, rfl, hm, ?_⟩
      walk_at "r"
      rw [cut_last]
      exact hD.r (s := some (n, l, [])) (by unfold oneN; rw [if_neg c1, if_neg c2, if_pos c3, if_pos rfl])
    · rw [decide_eq_false e]
      refine ⟨.str (S (cd "back")), atI_nat (j := 1) rfl, ?_⟩
      refine st_seq (st_tr rfl (ev_slB (ev_tr rfl hm ?_)))
      walk_at "r"
      refine ⟨_, _, _, rfl, hm, ?_⟩
      walk_at "r"
      rw [cut_last, ← List.map_dropLast]
      exact hD.r (s := some (n, l, row.dropLast)) (by unfold oneN; rw [if_neg c1, if_neg c2, if_pos c3, if_neg e])
  refine st_next ?_
  exact lone_6 hm ok hw h1 h2 c1 c2 c3
end
theorem sem_law_one (G : Ctx) : BodyD G 9 (rd_law_one G) S_law_one := by
  rintro W es m R XR ⟨t, s, w, rfl, hm, ok, hw, h1, h2⟩
  unfold rd_law_one
  simp only [tCS]
  refine st_seq (st_if (et_test (ev_op (ev_tg rfl hm ?_))))
  cases s with
  | none =>
    rw [gD_none]
    walk_at "r"
    exact h1 rfl
  | some x =>
    obtain ⟨n, l, row⟩ := x
    obtain ⟨k1, k2, k3, k4, k5, k6⟩ := id ok
    obtain ⟨h3, h4⟩ := h2 n l row rfl
    rw [gD_some]
    walk_at "r"
    refine ev_tg rfl hm ?_
    rw [gD_some]
    walk_at "r"
    refine ⟨_, rfl, by omega, by omega, ?_⟩
    rw [Int.toNat_natCast]
    refine lcM (List.range n) (fun t => .d (.int (0 + (t : Nat)))) (fun t => .int ((liesN row ((t : Nat) : Int) : Nat) : Int)) rfl (by rw [List.length_range]; omega) (fun k M hk hM => ⟨_, .name (by decide), ?_⟩) ?_
    · refine ev_call (ea_cons (ev_tr rfl (hM _ _ hm) ?_))
      walk_at "r"
      rw [Int.zero_add]
      exact ⟨row, _, rfl, by omega, rfl, rfl⟩
    rw [show (List.range n).map (fun t => D.int ((liesN row ((t : Nat) : Int) : Nat) : Int)) = (toldN n row).map D.int by unfold toldN; rw [List.map_map]; rfl]
    exact lone_3 hm ok hw h3 h4
end Lb

/-! Sm80f: the best question looked at, rows and what is said to them. -/
namespace Lb
open PySem L2 SX
local macro_rules | `(tactic| walk_at "v") => `(tactic| ((with_reducible refine ev_var (d := ?dv) ?hv ?_); (case hv => exact rfl)))
local macro_rules | `(tactic| walk_at "f") => `(tactic| first
  | with_reducible refine f_in ?_
  | with_reducible refine f_notin ?_
  | with_reducible refine f_add_i ?_
  | with_reducible refine f_add_s ?_
  | with_reducible refine f_add_l ?_
  | with_reducible refine f_add_t ?_
  | with_reducible refine f_sub ?_
  | with_reducible refine f_mul_i ?_
  | with_reducible refine f_mul_l ?_
  | with_reducible refine f_mul_t ?_
  | with_reducible refine f_div ?_
  | with_reducible refine f_mod ?_
  | with_reducible refine f_pow ?_
  | with_reducible refine f_lt ?_
  | with_reducible refine f_le ?_
  | with_reducible refine f_gt ?_
  | with_reducible refine f_ge ?_
  | with_reducible refine f_eq_i ?_
  | with_reducible refine f_ne_i ?_
  | with_reducible refine f_eq_b ?_
  | with_reducible refine f_ne_b ?_
  | with_reducible refine f_is_n ?_
  | with_reducible refine f_isnot_n ?_
  | with_reducible refine f_is_i ?_
  | with_reducible refine f_isnot_i ?_
  | with_reducible refine f_is_b ?_
  | with_reducible refine f_isnot_b ?_
  | with_reducible refine f_is_s ?_
  | with_reducible refine f_isnot_s ?_
  | with_reducible refine f_is_l ?_
  | with_reducible refine f_isnot_l ?_
  | with_reducible refine f_is_t ?_
  | with_reducible refine f_isnot_t ?_
  | with_reducible refine f_is_r ?_
  | with_reducible refine f_isnot_r ?_
  | with_reducible refine f_is ?_
  | with_reducible refine f_isnot ?_
  | with_reducible refine f_neg ?_
  | with_reducible refine f_len_ml ?_
  | with_reducible refine f_len_mt ?_
  | with_reducible refine f_sum_l ?_
  | with_reducible refine f_sum_t ?_
  | with_reducible refine f_all ?_
  | with_reducible refine f_any ?_
  | with_reducible refine f_len_l ?_
  | with_reducible refine f_len_t ?_
  | with_reducible refine f_len_c ?_
  | with_reducible refine f_abs ?_
  | with_reducible refine f_min2 ?_
  | with_reducible refine f_max2 ?_
  | with_reducible refine f_list_l ?_
  | with_reducible refine f_list_t ?_
  | with_reducible refine f_tup_l ?_
  | with_reducible refine f_tup_t ?_
  | with_reducible refine f_int_i ?_
  | with_reducible refine f_int_b ?_
  | with_reducible refine f_sl_l ?_
  | with_reducible refine f_sl_t ?_
  | with_reducible refine f_tr_n ?_
  | with_reducible refine f_tr_b ?_
  | with_reducible refine f_tr_i ?_
  | with_reducible refine f_tr_l ?_
  | with_reducible refine f_tr_t ?_
  | with_reducible refine f_tr_c ?_)
local macro_rules | `(tactic| walk_at "m") => `(tactic| first
  | assumption
  | exact mset_same
  | ((refine (mset_ne ?_).trans ?_); (first | assumption | exact Ne.symm (by assumption)); walk_at "m"))
local macro_rules | `(tactic| walk_at "w") => `(tactic| first
  | walk_at "v"
  | with_reducible refine ev_rev ?_
  | with_reducible refine ev_sset ?_
  | with_reducible refine ev_lcl ?_
  | with_reducible refine ev_lct ?_
  | with_reducible refine ev_lcs ?_
  | with_reducible refine ev_lc1 ?_
  | with_reducible refine ev_lc2 ?_
  | with_reducible refine st_forl ?_
  | with_reducible refine st_fort ?_
  | with_reducible refine st_fors ?_
  | with_reducible refine st_for1 ?_
  | with_reducible refine st_for2 ?_
  | with_reducible refine ex_bl ?_
  | with_reducible refine ex_in ?_
  | with_reducible refine ex_ls ?_
  | with_reducible refine ex_tu ?_
  | with_reducible refine ex_st ?_
  | with_reducible refine ex_d0 ?_
  | with_reducible refine ex_d1 ?_
  | with_reducible refine ex_d2 ?_
  | with_reducible refine ex_d3 ?_
  | with_reducible refine ex_d4 ?_
  | with_reducible refine ex_d5 ?_
  | with_reducible refine ex_d6 ?_
  | with_reducible refine ex_d7 ?_
  | with_reducible refine ex_d8 ?_
  | with_reducible refine m_and ?_
  | with_reducible refine i_t ?_
  | with_reducible refine i_f ?_
  | with_reducible refine i_nt ?_
  | with_reducible refine i_nf ?_
  | with_reducible refine ev_fld ?_
  | ((with_reducible refine x_fld (fs := ?fs) (v := ?vv) ?hh ?ll ?_); (case hh => walk_at "m"); (case ll => exact rfl))
  | with_reducible refine ev_meth ?_
  | ((with_reducible refine x_meth (fs := ?fs) ?hh ?ll ?_); (case hh => walk_at "m"); (case ll => exact rfl))
  | with_reducible refine ev_make ?_
  | with_reducible refine st_fld ?_
  | ((with_reducible refine x_set (fs := ?fs) ?hh ?ll ?_); (case hh => walk_at "m"); (case ll => exact Nat.le_of_ble_eq_true rfl))
  | with_reducible refine ev_lstP ?_
  | with_reducible refine ev_dnew ?_
  | with_reducible refine st_dset ?_
  | with_reducible refine ev_tup ?_
  | with_reducible refine ev_lst ?_
  | with_reducible refine ev_int ?_
  | with_reducible refine ea_cons ?_
  | with_reducible refine ea_nil ?_
  | with_reducible refine ev_op ?_
  | with_reducible refine st_seq ?_
  | with_reducible refine st_asg ?_
  | with_reducible refine ev_call ?_
  | with_reducible refine ev_cb ?_
  | with_reducible refine st_if ?_
  | with_reducible refine et_test ?_
  | with_reducible refine et_not ?_
  | with_reducible refine et_or ?_
  | with_reducible refine et_and ?_
  | with_reducible refine et_tru ?_
  | with_reducible refine et_yes ?_
  | with_reducible refine et_B ?_
  | with_reducible refine ev_chain ?_
  | with_reducible refine ev_chain3 ?_
  | with_reducible refine ev_un ?_
  | with_reducible refine ev_if ?_
  | with_reducible refine ev_bl ?_
  | with_reducible refine ev_non ?_
  | with_reducible refine ev_str ?_
  | with_reducible refine ev_andV ?_
  | with_reducible refine ev_orV ?_
  | with_reducible refine ev_notV ?_
  | with_reducible refine ev_isB ?_
  | with_reducible refine ev_isE ?_
  | with_reducible refine ev_sl2 ?_
  | with_reducible refine ev_slA ?_
  | with_reducible refine ev_slB ?_
  | with_reducible refine ev_bmL ?_
  | with_reducible refine ev_bmL0 ?_
  | with_reducible refine st_ret ?_
  | with_reducible refine st_drop ?_
  | with_reducible refine st_next ?_
  | with_reducible refine st_setL ?_
  | with_reducible refine st_asgG ?_
  | with_reducible refine st_raise ?_
  | with_reducible refine gt_name ?_
  | with_reducible refine gt_tup2 ?_
  | with_reducible refine gt_tup3 ?_
  | walk_at "f")
local macro_rules | `(tactic| walk_at "r") => `(tactic| repeat walk_at "w")

/-! ### a best question -/
noncomputable def bestT (n l : Nat) (row : List QA) : List Nat := if (countsN n l row).sum ≤ 1 then cd "none left to ask" else numsT (askQ n l row)
theorem one_best {n l : Nat} {row : List QA} (h : bestC n l row (cd "best")) : oneN n l row (cd "best") = (.inr (bestT n l row), some (n, l, row)) := by
  unfold oneN bestT
  rw [if_neg (by decide +kernel), if_neg (by decide +kernel), if_neg (by decide +kernel), if_neg (fun z => z h.2.1), if_neg (by decide +kernel), if_neg (fun z => z h.2.2)]
  split <;> rfl
def S_law_best : SpD := fun es m R _ => ∃ (t : Addr) (n l : Nat) (row : List QA), es = [.d (.str (S (bestT n l row))), .r t] ∧ m t = some (townO (some (n, l, row))) ∧ row.length ≤ 500 ∧ n ≤ 12 ∧ l ≤ 2 ∧ R (.d (.bl true)) m
def rd_law_best_7 (G : Ctx) (W : WX) : TS :=
  tSeq (tAsg (tLc (iTup G.K (tTup (tCons (tC (.bl true)) (tCons (tC (.bl false)) (tNil))))) (gName 10) (tYes) (tCallS (spL G S_law_counts) (WE WF) (tCons (tOp (rD2 G addF) (tVar 2) (tLst (tCons (tTup (tCons (tVar 7) (tCons (tVar 10) (tNil)))) (tNil)))) (tCons (tTGet G (tVar 1) (tC (.str (Str.ofString "game")))) (tNil)))) [10]) (gName 8))
  (tRet (tOp (rD2 G ltF) (tCB (rDn G maxF) (tCons (tLc (iList G.K (tVar 8)) (gName 11) (tYes) (tCallS (spL G S_least) (WE WF) (tCons (tVar 11) (tNil))) [11]) (tNil))) (tCallS (spL G S_least) (WE W) (tCons (tVar 5) (tNil)))))
def rd_law_best_4 (G : Ctx) (W : WX) : TS :=
  tSeq (tAsg (tM1 (rDM G splitF) (tVar 0) (tC (.str (Str.ofString " ")))) (gName 6))
  (tSeq (tAsg (tLc (iRng1 (tCons (tVar 3) (tNil))) (gName 9) (tAnd (tTest (tOp (rD2 G leF) (tCallS (spL G S_law_lied) (WE WF) (tCons (tVar 2) (tCons (tVar 9) (tNil)))) (tVar 4))) (tTest (tOp (rD2 G inF) (tCB (rDn G strF) (tCons (tVar 9) (tNil))) (tVar 6)))) (tVar 9) [9]) (gName 7))
  (tSeq (tIfS (tOr (tTest (tOp (rD2 G eqF) (tVar 7) (tLst (tNil)))) (tTest (tOp (rD2 G neF) (tVar 0) (tCallS (spL G S_law_text) (WE W) (tCons (tVar 7) (tNil)))))) (tRet (tC (.bl false))) (tNext))
  (rd_law_best_7 G W)))
def rd_law_best (G : Ctx) (W : WX) : TS :=
  tSeq (tAsg (tTGet G (tVar 1) (tC (.str (Str.ofString "row")))) (gName 2))
  (tSeq (tAsg (tTGet G (tVar 1) (tC (.str (Str.ofString "game")))) (gTup G.K 2 (gCons (gName 3) (gCons (gName 4) (gNil)))))
  (tSeq (tAsg (tCallS (spL G S_law_counts) (WE W) (tCons (tVar 2) (tCons (tTGet G (tVar 1) (tC (.str (Str.ofString "game")))) (tNil)))) (gName 5))
  (tSeq (tIfS (tTest (tOp (rD2 G ltF) (tCB (rDn G sumF) (tCons (tVar 5) (tNil))) (tC (.int 2)))) (tRet (tOp (rD2 G eqF) (tVar 0) (tC (.str (Str.ofString "none left to ask"))))) (tNext))
  (rd_law_best_4 G W))))

theorem len_law_best : ∀ es m R XR, S_law_best es m R XR → es.length = 2 := by
  rintro es m R XR ⟨t, n, l, row, rfl, _⟩
  rfl
theorem numT_inj {i j : Int} (hi : 0 ≤ i) (hj : 0 ≤ j) (h : numT i = numT j) : i = j := by
  have := TL.numL_inj h
  omega
theorem in_numT {q : List Int} {t : Nat} (hq : ∀ k ∈ q, 0 ≤ k) : numT (t : Int) ∈ q.map numT ↔ (t : Int) ∈ q := by
  constructor
  · intro h
    obtain ⟨k, hk, e⟩ := List.mem_map.mp h
    rw [← numT_inj (hq k hk) (by omega) e]
    exact hk
  · exact fun h => List.mem_map.mpr ⟨_, h, rfl⟩
theorem quest_eq {n l : Nat} {row : List QA} (ak : AskOk n l row) : ((List.range n).filter fun t => decide (liesN row ((t : Nat) : Int) ≤ l) && decide (((t : Nat) : Int) ∈ askQ n l row)).map (fun t => ((t : Nat) : Int)) = askQ n l row := by
  refine sorted_ext ?_ ak.q.1 fun x => ?_
  · refine List.Pairwise.map _ (fun a b h => ?_) (List.Pairwise.filter _ (List.pairwise_lt_range (n := n)))
    have h : a < b := h
    omega
  · rw [List.mem_map]
    constructor
    · rintro ⟨k, hk, rfl⟩
      have := (List.mem_filter.mp hk).2
      rw [Bool.and_eq_true, decide_eq_true_eq, decide_eq_true_eq] at this
      exact this.2
    · intro h
      obtain ⟨k, rfl, h1, h2⟩ := mem_left.mp (ak.inn x h)
      exact ⟨k, List.mem_filter.mpr ⟨List.mem_range.mpr h1, by rw [decide_eq_true h2, decide_eq_true h]; rfl⟩, rfl⟩
section
variable {G : Ctx} {W : WX} {m : Mu} {R : DV → Mu → Prop} {XR : Tag → Mu → Prop} {t : Addr} {n l : Nat} {row : List QA} {o0 o6 : Option DV}
theorem lbest_7 (hm : m t = some (townO (some (n, l, row)))) (hr : row.length ≤ 500) (hn : n ≤ 12) (hl : l ≤ 2) (hs : 1 < (countsN n l row).sum) (h : R (.d (.bl true)) m) :
    StD G W (rd_law_best_7 G W) [o0, some (.r t), some (.d (dRow row)), some (.d (.int (n : Nat))), some (.d (.int (l : Nat))), some (.d (dTup (countsN n l row))), o6, some (.d (dInts (askQ n l row))), none, none, none, none] m (NL R) (fun t _ m' => XR t m') := by
  have ak := ask_ok hn hl hs
  have ok := counts_ok row hn hl
  unfold rd_law_best_7
  simp only [tCS]
  walk_at "r"
  refine lcM [true, false] (fun b => .d (.bl b)) (fun b => dTup (countsN n l (row ++ [(askQ n l row, b)]))) rfl (by decide) (fun b M hb hM => ⟨_, .name (by decide), ?_⟩) ?_
  · walk_at "r"
    refine ⟨by rw [List.length_map]; simp; omega, ?_⟩
    walk_at "r"
    refine ev_tg rfl (hM _ _ hm) ?_
    walk_at "r"
    exact ⟨n, l, row ++ [(askQ n l row, b)], by rw [dRow, List.map_append]; rfl, by rw [List.length_append, List.length_singleton]; omega, by omega, by omega, rfl, rfl⟩
  walk_at "r"
  refine lcM [true, false] (fun b => .d (dTup (countsN n l (row ++ [(askQ n l row, b)])))) (fun b => .int ((leastW (countsN n l (row ++ [(askQ n l row, b)])) : Nat) : Int)) rfl (by decide) (fun b M hb hM => ⟨_, .name (by decide), ?_⟩) ?_
  · walk_at "r"
    exact ⟨_, rfl, by rw [counts_len]; omega, fun z => absurd (counts_ok _ hn hl).small z, fun _ => ⟨rfl, rfl⟩⟩
  walk_at "r"
  refine ⟨[true, false].map fun b => ((leastW (countsN n l (row ++ [(askQ n l row, b)])) : Nat) : Int), rfl, by show 0 < 2; decide, fun k hk _ => ?_⟩
  walk_at "r"
  refine ⟨_, rfl, by rw [counts_len]; omega, fun z => absurd ok.small z, fun _ => ?_⟩
  walk_at "r"
  rw [decide_eq_true]
  · exact h
  · have h1 := ak.y
    have h2 := ak.f
    simp only [List.map_cons, List.map_nil, List.mem_cons, List.not_mem_nil, or_false] at hk
    rcases hk with rfl | rfl <;> omega
theorem lbest_4 (hm : m t = some (townO (some (n, l, row)))) (hr : row.length ≤ 500) (hn : n ≤ 12) (hl : l ≤ 2) (hs : 1 < (countsN n l row).sum) (h : R (.d (.bl true)) m) :
    StD G W (rd_law_best_4 G W) [some (.d (.str (S (numsT (askQ n l row))))), some (.r t), some (.d (dRow row)), some (.d (.int (n : Nat))), some (.d (.int (l : Nat))), some (.d (dTup (countsN n l row))), none, none, none, none, none, none] m (NL R) (fun t _ m' => XR t m') := by
  have ak := ask_ok hn hl hs
  have hne := ask_ne ak
  have hql := ask_len ak.q hn
  have h99 : ∀ i ∈ askQ n l row, 0 ≤ i ∧ i ≤ 99 := fun i hi => left_99 (by omega) i (ak.inn i hi)
  have e1 : numsT (askQ n l row) = numsJ (askQ n l row) := by unfold numsT; rw [if_neg hne]
  have hlen := numsT_len h99
  have hasc := asc_numsT (askQ n l row)
  unfold rd_law_best_4
  simp only [s_spc, tCS]
  refine st_seq (st_asg (ev_m1 ?_))
  walk_at "r"
  refine ⟨⟨_, rfl⟩, ?_⟩
  walk_at "r"
  refine ⟨rfl, by rw [S_len]; omega, ?_⟩
  have esp : Txt.split (S (numsT (askQ n l row))) (S [32]) = ((askQ n l row).map numT).map S := by
    rw [e1, split_S (by simp) (by decide)]
    unfold numsJ
    rw [spl_join (by simpa using hne) fun w hw hc => ?_]
    obtain ⟨i, _, rfl⟩ := List.mem_map.mp hw
    exact TL.numL_free (.inl (by decide)) hc
  rw [esp]
  walk_at "r"
  refine ⟨_, rfl, by omega, by omega, ?_⟩
  rw [Int.toNat_natCast]
  refine lcF (List.range n) (fun t => .d (.int (0 + (t : Nat)))) (fun t => decide (liesN row ((t : Nat) : Int) ≤ l) && decide (((t : Nat) : Int) ∈ askQ n l row)) (fun t => .int ((t : Nat) : Int)) rfl (by rw [List.length_range]; omega) (fun k M hk hM => ⟨_, .name (by decide), ?_, fun _ => ?_⟩) ?_
  · have hk := List.mem_range.mp hk
    walk_at "r"
    rw [Int.zero_add]
    refine ⟨row, _, rfl, by omega, ?_⟩
    walk_at "r"
    refine i_d (fun c => ?_) (fun c => ?_)
    · walk_at "r"
      refine x_str (by omega) (by omega) ?_
      walk_at "r"
      refine x_inL ((askQ n l row).map numT) (by simp only [List.map_map]; rfl) (asc_numT _) (fun p hp => by obtain ⟨i, _, rfl⟩ := List.mem_map.mp hp; exact asc_numT i) ?_
      walk_at "r"
      rw [decide_eq_true (p := liesN row (k : Int) ≤ l) (by omega), Bool.true_and]
      exact decide_eq_decide.mpr (in_numT fun i hi => (h99 i hi).1)
    · refine ⟨rfl, ?_⟩
      rw [decide_eq_false (p := liesN row (k : Int) ≤ l) (by omega), Bool.false_and]
  · walk_at "r"
    rw [Int.zero_add]
  have eq := congrArg (List.map D.int) (quest_eq ak)
  rw [List.map_map] at eq
  rw [show (fun t : Nat => D.int ((t : Nat) : Int)) = D.int ∘ (fun t : Nat => ((t : Nat) : Int)) from rfl, eq]
  walk_at "r"
  refine x_eqN ?_
  rw [decide_eq_false hne]
  walk_at "r"
  refine ⟨_, rfl, h99, by omega, ?_⟩
  refine x_ne hasc hasc ?_
  rw [decide_eq_true rfl]
  walk_at "r"
  exact lbest_7 hm hr hn hl hs h
end
theorem sem_law_best (G : Ctx) : BodyD G 12 (rd_law_best G) S_law_best := by
  rintro W es m R XR ⟨t, n, l, row, rfl, hm, hr, hn, hl, h⟩
  unfold rd_law_best
  simp only [tCS]
  refine st_seq (st_asg (ev_tr rfl hm ?_))
  refine st_seq (st_asgG (ev_tg rfl hm ?_))
  rw [gD_some]
  walk_at "r"
  refine ev_tg rfl hm ?_
  walk_at "r"
  refine ⟨n, l, row, rfl, by omega, by omega, by omega, ?_⟩
  walk_at "r"
  refine i_d (fun c => ?_) (fun c => ?_)
  · have c : (countsN n l row).sum ≤ 1 := by omega
    have e : bestT n l row = cd "none left to ask" := by unfold bestT; rw [if_pos c]
    walk_at "r"
    rw [e]
    refine x_eq (asc_cd (by decide +kernel)) (asc_cd (by decide +kernel)) ?_
    rw [decide_eq_true rfl]
    exact h
  · have c : 1 < (countsN n l row).sum := by omega
    have e : bestT n l row = numsT (askQ n l row) := by unfold bestT; rw [if_neg (by omega)]
    refine st_next ?_
    rw [e]
    exact lbest_4 hm hr hn hl c h
/-! ### what is due -/
def bestS (s : G8) (p : Rw) : Prop := p.2 = [] ∧ ∃ n l row, s = some (n, l, row) ∧ bestC n l row p.1
def S_law_due : SpD := fun es m R _ => ∃ (t : Addr) (s : G8) (p : Rw), es = [.d (.str (S (rowT p))), .r t] ∧ m t = some (townO s) ∧ OkS 499 s ∧ RowOk p ∧ (bestS s p → R (.d .non) m) ∧ (¬ bestS s p → Due m t R (ansN s p))
def rd_law_due (G : Ctx) (W : WX) : TS :=
  tSeq (tAsg (tM1 (rDM G splitF) (tVar 0) (tC (.str (Str.ofString " ")))) (gName 2))
  (tSeq (tIfS (tTest (tOp (rD2 G eqF) (tOp (rD2 G idxF) (tVar 2) (tC (.int 0))) (tC (.str (Str.ofString "game"))))) (tRet (tCallS (spL G S_law_game) (WE W) (tCons (tVar 2) (tCons (tVar 1) (tNil))))) (tNext))
  (tSeq (tIfS (tTest (tOp (rD2 G inF) (tOp (rD2 G idxF) (tVar 2) (tC (.int 0))) (tTup (tCons (tC (.str (Str.ofString "yes"))) (tCons (tC (.str (Str.ofString "no"))) (tNil)))))) (tRet (tCallS (spL G S_law_asked) (WE W) (tCons (tVar 2) (tCons (tVar 1) (tNil))))) (tNext))
  (tSeq (tIfS (tOr (tTest (tOp (rD2 G gtF) (tCB (rDn G lenF) (tCons (tVar 2) (tNil))) (tC (.int 1)))) (tTest (tOp (rD2 G notinF) (tOp (rD2 G idxF) (tVar 2) (tC (.int 0))) (tTup (tCons (tC (.str (Str.ofString "left"))) (tCons (tC (.str (Str.ofString "lies"))) (tCons (tC (.str (Str.ofString "needed"))) (tCons (tC (.str (Str.ofString "best"))) (tCons (tC (.str (Str.ofString "back"))) (tNil)))))))))) (tRet (tC (.str (Str.ofString "refused: row")))) (tNext))
  (tRet (tCallS (spL G S_law_one) (WE W) (tCons (tOp (rD2 G idxF) (tVar 2) (tC (.int 0))) (tCons (tVar 1) (tNil))))))))

theorem len_law_due : ∀ es m R XR, S_law_due es m R XR → es.length = 2 := by
  rintro es m R XR ⟨t, s, p, rfl, _⟩
  rfl
theorem best_word {s : G8} {p : Rw} (h : bestS s p) : p.1 = cd "best" := by
  obtain ⟨_, n, l, row, _, h⟩ := h
  exact h.1
theorem sem_law_due (G : Ctx) : BodyD G 3 (rd_law_due G) S_law_due := by
  rintro W es m R XR ⟨t, s, ⟨w, r⟩, rfl, hm, ok, hp, h1, h2⟩
  have hw : Asc w := fun c hc => (hp.asc w (by simp) c hc).1
  have nb : ∀ {v : List Nat}, v ≠ cd "best" → w = v → ¬ bestS s (w, r) := fun {v} hv e z => hv (e.symm.trans (best_word z))
  unfold rd_law_due
  simp only [s_spc, tCS]
  refine st_seq (st_asg (ev_m1 ?_))
  walk_at "r"
  refine ⟨⟨_, rfl⟩, ?_⟩
  walk_at "r"
  refine ⟨rfl, by rw [S_len]; have := hp.len; omega, ?_⟩
  rw [hp.split, List.map_map]
  walk_at "r"
  refine ⟨.str (S w), atI_nat (j := 0) rfl, ?_⟩
  walk_at "r"
  refine x_eq hw (asc_cd (by decide +kernel)) ?_
  walk_at "r"
  refine i_d (fun c1 => ?_) (fun c1 => ?_)
  · walk_at "r"
    exact ⟨t, s, (w, r), rfl, hm, hp, c1, h2 (nb (by decide +kernel) c1)⟩
  walk_at "r"
  refine ⟨.str (S w), atI_nat (j := 0) rfl, ?_⟩
  walk_at "r"
  refine x_inT [cd "yes", cd "no"] rfl hw asc_yn ?_
  walk_at "r"
  refine i_d (fun c2 => ?_) (fun c2 => ?_)
  · have c2 : w = cd "yes" ∨ w = cd "no" := by simpa using c2
    walk_at "r"
    exact ⟨t, s, (w, r), rfl, hm, ok, hp, c2, h2 (by rcases c2 with c2 | c2 <;> exact nb (by decide +kernel) c2)⟩
  have c2 : ¬ (w = cd "yes" ∨ w = cd "no") := fun z => c2 (by simpa using z)
  have e1 : ansN s (w, r) = wordsN s (w, r) := by unfold ansN; rw [if_neg (fun z => c1 z.1), if_neg c2]
  rw [e1] at h2
  have bad : (r ≠ [] ∨ w ∉ five) → R (.d (.str (S (cd "refused: row")))) m := fun z => (h2 fun y => by
    rcases z with z | z
    · exact z y.1
    · exact z (by rw [show w = cd "best" from best_word y]; decide +kernel)).x (c := .row) (s := s) (by unfold wordsN; rw [if_pos z]) hm
  walk_at "r"
  refine i_d (fun c3 => ?_) (fun c3 => ?_)
  · walk_at "r"
    exact bad (.inl fun z => by rw [z] at c3; simp at c3)
  have c3 : r = [] := by
    cases r with
    | nil => rfl
    | cons x y => simp at c3; omega
  walk_at "r"
  refine ⟨.str (S w), atI_nat (j := 0) rfl, ?_⟩
  walk_at "r"
  refine x_ninT five rfl hw asc_five ?_
  walk_at "r"
  refine i_nd (fun c4 => ?_) (fun c4 => ?_)
  · walk_at "r"
    exact bad (.inr c4)
  have hno : ¬ (r ≠ [] ∨ w ∉ five) := fun z => z.elim (fun y => y c3) (fun y => y c4)
  walk_at "r"
  refine ⟨.str (S w), atI_nat (j := 0) rfl, ?_⟩
  walk_at "r"
  refine ⟨t, s, w, rfl, hm, ok, c4, fun z => ?_, fun n l row z => ⟨fun b => h1 ⟨c3, n, l, row, z, b⟩, fun b => ?_⟩⟩
  · subst z
    exact (h2 fun y => by obtain ⟨_, n, l, row, e, _⟩ := y; cases e).x (c := .game) (s := none) (by unfold wordsN; rw [if_neg hno]) hm
  · subst z
    have := h2 fun y => by
      obtain ⟨_, n', l', row', e, b'⟩ := y
      cases e
      exact b b'
    unfold wordsN at this
    rw [if_neg hno] at this
    exact this
/-! ### all that is said -/
abbrev dRows (rs : List Rw) : D := .lst (rs.map fun p => D.str (S (rowT p)))
def S_law_good : SpD := fun es m R _ => ∃ rs : List Rw, es = [.d (dRows rs), .d (dStrs (saysN none rs))] ∧ rs.length ≤ 20 ∧ (∀ p ∈ rs, RowOk p) ∧ R (.d (.bl true)) m
def rd_law_good (G : Ctx) (W : WX) : TS :=
  tSeq (tAsg (tTNew (Str.ofString "game") (Str.ofString "row") (tC .non) (tLst (tNil))) (gName 2))
  (tSeq (tIfS (tOr (tNot (tTru G.K (tCB (rIsB G "list") (tCons (tVar 1) (tCons (tC (.ty "list")) tNil))))) (tTest (tOp (rD2 G neF) (tCB (rDn G lenF) (tCons (tVar 1) (tNil))) (tCB (rDn G lenF) (tCons (tVar 0) (tNil)))))) (tRet (tC (.bl false))) (tNext))
  (tSeq (tFor (iRng1 (tCons (tCB (rDn G lenF) (tCons (tVar 0) (tNil))) (tNil))) (gName 3) (tSeq (tAsg (tCallS (spL G S_law_due) (WE W) (tCons (tOp (rD2 G idxF) (tVar 0) (tVar 3)) (tCons (tVar 2) (tNil)))) (gName 4))
  (tIfS (tOr (tAnd (tTest (tOp (rD2 G isF) (tVar 4) (tC .non))) (tNot (tTru G.K (tCallS (spL G S_law_best) (WE W) (tCons (tOp (rD2 G idxF) (tVar 1) (tVar 3)) (tCons (tVar 2) (tNil))))))) (tAnd (tTest (tOp (rD2 G isnotF) (tVar 4) (tC .non))) (tTest (tOp (rD2 G neF) (tOp (rD2 G idxF) (tVar 1) (tVar 3)) (tVar 4))))) (tRet (tC (.bl false))) (tNext))))
  (tRet (tC (.bl true)))))

theorem len_law_good : ∀ es m R XR, S_law_good es m R XR → es.length = 2 := by
  rintro es m R XR ⟨rs, rfl, _⟩
  rfl
theorem says_at : ∀ {s : G8} {rs : List Rw} {i : Nat} {p : Rw}, rs[i]? = some p → (saysN s rs)[i]? = some (outT (ansN (stN s (rs.take i)) p).1)
  | _, [], i, _, h => by simp at h
  | s, q :: r, 0, p, h => by
    simp at h
    subst h
    rfl
  | s, q :: r, i + 1, p, h => by
    rw [List.getElem?_cons_succ] at h
    have := says_at (s := (ansN s q).2) h
    rw [saysN, List.getElem?_cons_succ, this]
    rfl
theorem ans_best {s : G8} {p : Rw} (h : bestS s p) : ∃ n l row, s = some (n, l, row) ∧ bestC n l row (cd "best") ∧ ansN s p = (.inr (bestT n l row), s) := by
  obtain ⟨w, r⟩ := p
  obtain ⟨h0, n, l, row, rfl, hb⟩ := h
  have h0 : r = [] := h0
  have hw : w = cd "best" := hb.1
  subst h0 hw
  refine ⟨n, l, row, rfl, hb, ?_⟩
  unfold ansN
  rw [if_neg (by decide +kernel), if_neg (by decide +kernel)]
  unfold wordsN
  rw [if_neg (by decide +kernel)]
  exact one_best hb
theorem sem_law_good (G : Ctx) : BodyD G 5 (rd_law_good G) S_law_good := by
  rintro W es m R XR ⟨rs, rfl, hl, hp, h⟩
  unfold rd_law_good
  simp only [ofS "game", ofS "row"]
  refine st_seq (st_asg (ev_tnew kgr fun t ht => ?_))
  walk_at "r"
  refine ⟨_, rfl, ?_⟩
  walk_at "r"
  refine ⟨_, rfl, mset_same, ?_⟩
  rw [mset_mset]
  have e0 : (MO.tdc [(S (cd "game"), .non), (S (cd "row"), .lst [])]) = townO none := rfl
  rw [e0]
  walk_at "r"
  refine ⟨"list", true, rfl, kit_ll, ?_⟩
  walk_at "r"
  rw [says_len]
  refine i_b (fun e => absurd e (by simp)) (fun _ => ?_)
  walk_at "r"
  refine ⟨_, rfl, by omega, by omega, ?_⟩
  rw [Int.toNat_natCast]
  refine forN (fun i ds' m' => m' = mset m t (townO (stN none (rs.take i))) ∧ ∃ o3 o4, ds' = [some (.d (dRows rs)), some (.d (dStrs (saysN none rs))), some (.r t), o3, o4]) ⟨rfl, none, none, rfl⟩ ?_ ?_
  · rintro i ds' m' hi ⟨rfl, o3, o4, rfl⟩
    have ep : rs[i]? = some rs[i] := List.getElem?_eq_getElem hi
    generalize rs[i] = p at ep
    have hr := hp p (List.mem_of_getElem? ep)
    have etk : rs.take (i + 1) = rs.take i ++ [p] := by rw [List.take_add_one, ep]; rfl
    have hst : stN none (rs.take (i + 1)) = (ansN (stN none (rs.take i)) p).2 := by rw [etk, stN_app]
    have hsa := says_at (s := none) ep
    have hok : OkS 499 (stN none (rs.take i)) := (ok_st (k := 0) (s := none) _ trivial).mono (by have := List.length_take_le i rs; omega)
    have a1 : atI (rs.map fun p => D.str (S (rowT p))) (0 + (i : Int)) = some (.str (S (rowT p))) := by
      rw [Int.zero_add]
      apply atI_nat
      rw [List.getElem?_map, ep]
      rfl
    have a2 : atI ((saysN none rs).map fun x => D.str (S x)) (0 + (i : Int)) = some (.str (S (outT (ansN (stN none (rs.take i)) p).1))) := by
      rw [Int.zero_add]
      apply atI_nat
      rw [List.getElem?_map, hsa]
      rfl
    rw [hst]
    generalize stN none (rs.take i) = s at *
    walk_at "r"
    refine ⟨_, a1, ?_⟩
    walk_at "r"
    refine ⟨t, s, p, rfl, mset_same, hok, hr, fun hb => ?_, fun hb => ?_⟩
    · obtain ⟨n, l, row, rfl, hbC, ea⟩ := ans_best hb
      obtain ⟨k1, k2, k3, k4, k5, k6⟩ := id hok
      obtain ⟨n12, l2⟩ := (small_nil k2).mp hbC.2.2
      rw [ea] at a2 ⊢
      walk_at "r"
      refine ⟨_, a2, ?_⟩
      walk_at "r"
      refine ⟨t, n, l, row, rfl, mset_same, by omega, n12, l2, ?_⟩
      walk_at "r"
      exact ⟨_, _, rfl⟩
    · have hasc := asc_ans s p
      unfold Due
      rw [mset_mset]
      walk_at "r"
      refine ⟨_, a2, ?_⟩
      walk_at "r"
      refine x_ne hasc hasc ?_
      rw [decide_eq_true rfl]
      walk_at "r"
      exact ⟨_, _, rfl⟩
  · rintro ds' m' ⟨rfl, o3, o4, rfl⟩
    refine StD.sub (m' := m) ?_ (sub_mset ht)
    walk_at "r"
    exact h
end Lb

/-! Sm80g: the rows, the law. -/
namespace Lb
open PySem L2 SX
local macro_rules | `(tactic| walk_at "v") => `(tactic| ((with_reducible refine ev_var (d := ?dv) ?hv ?_); (case hv => exact rfl)))
local macro_rules | `(tactic| walk_at "f") => `(tactic| first
  | with_reducible refine f_in ?_
  | with_reducible refine f_notin ?_
  | with_reducible refine f_add_i ?_
  | with_reducible refine f_add_s ?_
  | with_reducible refine f_add_l ?_
  | with_reducible refine f_add_t ?_
  | with_reducible refine f_sub ?_
  | with_reducible refine f_mul_i ?_
  | with_reducible refine f_mul_l ?_
  | with_reducible refine f_mul_t ?_
  | with_reducible refine f_div ?_
  | with_reducible refine f_mod ?_
  | with_reducible refine f_pow ?_
  | with_reducible refine f_lt ?_
  | with_reducible refine f_le ?_
  | with_reducible refine f_gt ?_
  | with_reducible refine f_ge ?_
  | with_reducible refine f_eq_i ?_
  | with_reducible refine f_ne_i ?_
  | with_reducible refine f_eq_b ?_
  | with_reducible refine f_ne_b ?_
  | with_reducible refine f_is_n ?_
  | with_reducible refine f_isnot_n ?_
  | with_reducible refine f_is_i ?_
  | with_reducible refine f_isnot_i ?_
  | with_reducible refine f_is_b ?_
  | with_reducible refine f_isnot_b ?_
  | with_reducible refine f_is_s ?_
  | with_reducible refine f_isnot_s ?_
  | with_reducible refine f_is_l ?_
  | with_reducible refine f_isnot_l ?_
  | with_reducible refine f_is_t ?_
  | with_reducible refine f_isnot_t ?_
  | with_reducible refine f_is_r ?_
  | with_reducible refine f_isnot_r ?_
  | with_reducible refine f_is ?_
  | with_reducible refine f_isnot ?_
  | with_reducible refine f_neg ?_
  | with_reducible refine f_len_ml ?_
  | with_reducible refine f_len_mt ?_
  | with_reducible refine f_sum_l ?_
  | with_reducible refine f_sum_t ?_
  | with_reducible refine f_all ?_
  | with_reducible refine f_any ?_
  | with_reducible refine f_len_l ?_
  | with_reducible refine f_len_t ?_
  | with_reducible refine f_len_c ?_
  | with_reducible refine f_abs ?_
  | with_reducible refine f_min2 ?_
  | with_reducible refine f_max2 ?_
  | with_reducible refine f_list_l ?_
  | with_reducible refine f_list_t ?_
  | with_reducible refine f_tup_l ?_
  | with_reducible refine f_tup_t ?_
  | with_reducible refine f_int_i ?_
  | with_reducible refine f_int_b ?_
  | with_reducible refine f_sl_l ?_
  | with_reducible refine f_sl_t ?_
  | with_reducible refine f_tr_n ?_
  | with_reducible refine f_tr_b ?_
  | with_reducible refine f_tr_i ?_
  | with_reducible refine f_tr_l ?_
  | with_reducible refine f_tr_t ?_
  | with_reducible refine f_tr_c ?_)
local macro_rules | `(tactic| walk_at "m") => `(tactic| first
  | assumption
  | exact mset_same
  | ((refine (mset_ne ?_).trans ?_); (first | assumption | exact Ne.symm (by assumption)); walk_at "m"))
local macro_rules | `(tactic| walk_at "w") => `(tactic| first
  | walk_at "v"
  | with_reducible refine ev_rev ?_
  | with_reducible refine ev_sset ?_
  | with_reducible refine ev_lcl ?_
  | with_reducible refine ev_lct ?_
  | with_reducible refine ev_lcs ?_
  | with_reducible refine ev_lc1 ?_
  | with_reducible refine ev_lc2 ?_
  | with_reducible refine st_forl ?_
  | with_reducible refine st_fort ?_
  | with_reducible refine st_fors ?_
  | with_reducible refine st_for1 ?_
  | with_reducible refine st_for2 ?_
  | with_reducible refine ex_bl ?_
  | with_reducible refine ex_in ?_
  | with_reducible refine ex_ls ?_
  | with_reducible refine ex_tu ?_
  | with_reducible refine ex_st ?_
  | with_reducible refine ex_d0 ?_
  | with_reducible refine ex_d1 ?_
  | with_reducible refine ex_d2 ?_
  | with_reducible refine ex_d3 ?_
  | with_reducible refine ex_d4 ?_
  | with_reducible refine ex_d5 ?_
  | with_reducible refine ex_d6 ?_
  | with_reducible refine ex_d7 ?_
  | with_reducible refine ex_d8 ?_
  | with_reducible refine m_and ?_
  | with_reducible refine i_t ?_
  | with_reducible refine i_f ?_
  | with_reducible refine i_nt ?_
  | with_reducible refine i_nf ?_
  | with_reducible refine ev_fld ?_
  | ((with_reducible refine x_fld (fs := ?fs) (v := ?vv) ?hh ?ll ?_); (case hh => walk_at "m"); (case ll => exact rfl))
  | with_reducible refine ev_meth ?_
  | ((with_reducible refine x_meth (fs := ?fs) ?hh ?ll ?_); (case hh => walk_at "m"); (case ll => exact rfl))
  | with_reducible refine ev_make ?_
  | with_reducible refine st_fld ?_
  | ((with_reducible refine x_set (fs := ?fs) ?hh ?ll ?_); (case hh => walk_at "m"); (case ll => exact Nat.le_of_ble_eq_true rfl))
  | with_reducible refine ev_lstP ?_
  | with_reducible refine ev_dnew ?_
  | with_reducible refine st_dset ?_
  | with_reducible refine ev_tup ?_
  | with_reducible refine ev_lst ?_
  | with_reducible refine ev_int ?_
  | with_reducible refine ea_cons ?_
  | with_reducible refine ea_nil ?_
  | with_reducible refine ev_op ?_
  | with_reducible refine st_seq ?_
  | with_reducible refine st_asg ?_
  | with_reducible refine ev_call ?_
  | with_reducible refine ev_cb ?_
  | with_reducible refine st_if ?_
  | with_reducible refine et_test ?_
  | with_reducible refine et_not ?_
  | with_reducible refine et_or ?_
  | with_reducible refine et_and ?_
  | with_reducible refine et_tru ?_
  | with_reducible refine et_yes ?_
  | with_reducible refine et_B ?_
  | with_reducible refine ev_chain ?_
  | with_reducible refine ev_chain3 ?_
  | with_reducible refine ev_un ?_
  | with_reducible refine ev_if ?_
  | with_reducible refine ev_bl ?_
  | with_reducible refine ev_non ?_
  | with_reducible refine ev_str ?_
  | with_reducible refine ev_andV ?_
  | with_reducible refine ev_orV ?_
  | with_reducible refine ev_notV ?_
  | with_reducible refine ev_isB ?_
  | with_reducible refine ev_isE ?_
  | with_reducible refine ev_sl2 ?_
  | with_reducible refine ev_slA ?_
  | with_reducible refine ev_slB ?_
  | with_reducible refine ev_bmL ?_
  | with_reducible refine ev_bmL0 ?_
  | with_reducible refine st_ret ?_
  | with_reducible refine st_drop ?_
  | with_reducible refine st_next ?_
  | with_reducible refine st_setL ?_
  | with_reducible refine st_asgG ?_
  | with_reducible refine st_raise ?_
  | with_reducible refine gt_name ?_
  | with_reducible refine gt_tup2 ?_
  | with_reducible refine gt_tup3 ?_
  | walk_at "f")
local macro_rules | `(tactic| walk_at "r") => `(tactic| repeat walk_at "w")

/-! ### rows -/
def gameL : List Nat := [4, 3, 2, 5, 1, 13, 0, 65]
def lieL : List Nat := [0, 1, 1, 2, 3, 5]
def powL : List Nat := [1, 2, 4, 8, 16]
def thN (N : Nat) : Nat := gameL.getD (N / 16 % 8) 0
def liN (N : Nat) : Nat := if thN N = 13 then 0 else lieL.getD (N / 16 / 8 % 6) 0
def thingsN (N : Nat) : List Nat := (List.range 5).filter fun t => decide (N / 8 / powL.getD t 1 % 2 = 1)
def thingsD (N : Nat) : List Nat := if N / 256 % 8 = 0 then thingsN N ++ (thingsN N).drop ((thingsN N).length - 1) else thingsN N
def litL : List Rw := [(cd "games", [cd "3", cd "1"]), (cd "yes", [cd "01"]), (cd "no", [[], cd "1"]), (cd "left", [cd "1"]), (cd "game", [cd "3"]), (cd "best", [[]]), (cd "yes", [cd "100"]), (cd "back", [cd "now"])]
def ynN (N : Nat) : List Nat := if N / 2048 % 2 = 0 then cd "yes" else cd "no"
def rowW (N k : Nat) : Rw :=
  if N % 8 = 0 ∧ N / 8 % 2 = 0 ∨ k = 1 then (cd "game", [TL.numL (thN N), TL.numL (liN N)])
  else if N % 8 < 4 then (ynN N, (thingsD N).map TL.numL)
  else if N % 8 = 7 then litL.getD (N / 8 % 8) ([], [])
  else (five.getD (N / 8 % 5) [], [])
theorem th_le (N : Nat) : thN N ≤ 65 := by
  unfold thN
  have h : N / 16 % 8 < 8 := Nat.mod_lt _ (by decide)
  generalize N / 16 % 8 = j at h
  revert j
  decide
theorem li_le (N : Nat) : liN N ≤ 5 := by
  unfold liN
  have h : N / 16 / 8 % 6 < 6 := Nat.mod_lt _ (by decide)
  generalize N / 16 / 8 % 6 = j at h
  split
  · exact Nat.zero_le _
  · revert j
    decide
theorem things_lt {N : Nat} : ∀ t ∈ thingsN N, t < 5 := fun t ht => List.mem_range.mp (List.mem_filter.mp ht).1
theorem thingsD_lt {N : Nat} : ∀ t ∈ thingsD N, t < 5 := fun t ht => by
  unfold thingsD at ht
  split at ht
  · rcases List.mem_append.mp ht with h | h
    · exact things_lt t h
    · exact things_lt t (List.mem_of_mem_drop h)
  · exact things_lt t ht
theorem things_len (N : Nat) : (thingsN N).length ≤ 5 := by
  have := List.length_filter_le (fun t => decide (N / 8 / powL.getD t 1 % 2 = 1)) (List.range 5)
  rw [List.length_range] at this
  exact this
theorem thingsD_len (N : Nat) : (thingsD N).length ≤ 10 := by
  have := things_len N
  unfold thingsD
  split
  · rw [List.length_append, List.length_drop]; omega
  · omega
/-- what holds of rows without numbers, by going through them -/
def rowC (p : Rw) : Bool := !p.1.isEmpty && decide (p.2.length ≤ 20) && (p.1 :: p.2).all (fun w => decide (w.length ≤ 20) && w.all fun c => decide (c < 128) && decide (c ≠ 32) && decide (c ≠ 10)) && !(decide (p.1 = cd "game") && decide (p.2.length = 2)) && (!(decide (p.1 = cd "yes") || decide (p.1 = cd "no")) || p.2.all fun w => w.all isD)
theorem rowC_ok {p : Rw} (h : rowC p = true) : RowOk p := by
  unfold rowC at h
  simp only [Bool.and_eq_true, Bool.not_eq_true', decide_eq_true_eq, List.all_eq_true, Bool.or_eq_true, Bool.and_eq_false_iff, decide_eq_false_iff_not, Bool.or_eq_false_iff, List.isEmpty_eq_false_iff] at h
  obtain ⟨⟨⟨⟨h1, h2⟩, h3⟩, h4⟩, h5⟩ := h
  refine ⟨h1, h2, fun w hw => (h3 w hw).1, fun w hw c hc => ?_, fun a b => ?_, fun a w hw => ?_⟩
  · have := (h3 w hw).2 c hc
    exact ⟨this.1.1, this.1.2, this.2⟩
  · rcases h4 with z | z
    · exact absurd a z
    · exact absurd b z
  · rcases h5 with z | z
    · rcases a with a | a
      · exact absurd a z.1
      · exact absurd a z.2
    · exact List.all_eq_true.mpr (z w hw)
theorem num_asc {n : Nat} : ∀ c ∈ TL.numL n, c < 128 ∧ c ≠ 32 ∧ c ≠ 10 := fun c hc => by
  have := TL.numL_digits n c hc
  omega
theorem cd_plain {s : String} (h : ((cd s).all fun c => decide (c < 128) && decide (c ≠ 32) && decide (c ≠ 10)) = true) : ∀ c ∈ cd s, c < 128 ∧ c ≠ 32 ∧ c ≠ 10 := fun c hc => by
  have := List.all_eq_true.mp h c hc
  simp only [Bool.and_eq_true, decide_eq_true_eq] at this
  exact ⟨this.1.1, this.1.2, this.2⟩
theorem num_l2 {n : Nat} (h : n ≤ 99) : (TL.numL n).length ≤ 2 := TL.numL_len (by decide) (by omega)
theorem rowW_ok (N k : Nat) : RowOk (rowW N k) := by
  unfold rowW
  split
  · have h1 := th_le N
    have h2 := li_le N
    refine ⟨by show cd "game" ≠ []; decide +kernel, by show 2 ≤ 20; decide, fun w hw => ?_, fun w hw => ?_, fun _ _ w hw => ?_, fun h => absurd h g_not⟩
    · simp only [List.mem_cons, List.not_mem_nil, or_false] at hw
      rcases hw with rfl | rfl | rfl
      · decide +kernel
      · have := num_l2 (n := thN N) (by omega); omega
      · have := num_l2 (n := liN N) (by omega); omega
    · simp only [List.mem_cons, List.not_mem_nil, or_false] at hw
      rcases hw with rfl | rfl | rfl
      · exact cd_plain (by decide +kernel)
      · exact num_asc
      · exact num_asc
    · simp only [List.mem_cons, List.not_mem_nil, or_false] at hw
      rcases hw with rfl | rfl
      · rw [wordN_num (by omega)]; exact fun z => nomatch z
      · rw [wordN_num (by omega)]; exact fun z => nomatch z
  · split
    · have hl := thingsD_len N
      have hy : ynN N = cd "yes" ∨ ynN N = cd "no" := by
        unfold ynN
        split
        · exact .inl rfl
        · exact .inr rfl
      refine ⟨by rcases hy with e | e <;> (dsimp only; rw [e]; decide +kernel), by rw [List.length_map]; omega, fun w hw => ?_, fun w hw => ?_, fun h => ?_, fun _ w hw => ?_⟩
      · rcases List.mem_cons.mp hw with rfl | hw
        · rcases hy with e | e <;> (dsimp only; rw [e]; decide +kernel)
        · obtain ⟨t, ht, rfl⟩ := List.mem_map.mp hw
          have := thingsD_lt t ht
          have := num_l2 (n := t) (by omega)
          omega
      · rcases List.mem_cons.mp hw with rfl | hw
        · rcases hy with e | e <;> (dsimp only; rw [e]; exact cd_plain (by decide +kernel))
        · obtain ⟨t, ht, rfl⟩ := List.mem_map.mp hw
          exact num_asc
      · rcases hy with e | e
        · exact absurd (e.symm.trans h) (fun z => yn_game (.inl z))
        · exact absurd (e.symm.trans h) (fun z => yn_game (.inr z))
      · obtain ⟨t, ht, rfl⟩ := List.mem_map.mp hw
        exact List.all_eq_true.mpr fun c hc => isD_iff.mpr (TL.numL_digits t c hc)
    · split
      · have h : N / 8 % 8 < 8 := Nat.mod_lt _ (by decide)
        generalize N / 8 % 8 = j at h
        apply rowC_ok
        revert j
        decide +kernel
      · have h : N / 8 % 5 < 5 := Nat.mod_lt _ (by decide)
        generalize N / 8 % 5 = j at h
        apply rowC_ok
        revert j
        decide +kernel
def S_law_row : SpD := fun es m R _ => ∃ (ns : List Int) (k : Nat), es = [.scr ns, .d (.int (k : Nat))] ∧ k ≤ 1000 ∧ R (.d (.str (S (rowT (rowW (mixN ns k).toNat k))))) m
def rd_law_row_c0 (G : Ctx) (W : WX) : TS :=
  tSeq (tAsg (tOp (rD2 G divF) (tVar 2) (tC (.int 16))) (gName 4))
  (tSeq (tAsg (tOp (rD2 G idxF) (tLst (tCons (tC (.int 4)) (tCons (tC (.int 3)) (tCons (tC (.int 2)) (tCons (tC (.int 5)) (tCons (tC (.int 1)) (tCons (tC (.int 13)) (tCons (tC (.int 0)) (tCons (tC (.int 65)) (tNil)))))))))) (tOp (rD2 G modF) (tVar 4) (tC (.int 8)))) (gName 5))
  (tSeq (tAsg (tOp (rD2 G idxF) (tLst (tCons (tC (.int 0)) (tCons (tC (.int 1)) (tCons (tC (.int 1)) (tCons (tC (.int 2)) (tCons (tC (.int 3)) (tCons (tC (.int 5)) (tNil)))))))) (tOp (rD2 G modF) (tOp (rD2 G divF) (tVar 4) (tC (.int 8))) (tC (.int 6)))) (gName 6))
  (tRet (tOp (rD2 G addF) (tOp (rD2 G addF) (tOp (rD2 G addF) (tC (.str (Str.ofString "game "))) (tCB (rDn G strF) (tCons (tVar 5) (tNil)))) (tC (.str (Str.ofString " ")))) (tCB (rDn G strF) (tCons (tIf (tTest (tOp (rD2 G eqF) (tVar 5) (tC (.int 13)))) (tC (.int 0)) (tVar 6)) (tNil)))))))
def rd_law_row_c1 (G : Ctx) (W : WX) : TS :=
  tSeq (tIfS (tTest (tOp (rD2 G ltF) (tVar 3) (tC (.int 4)))) (tSeq (tAsg (tLc (iRng1 (tCons (tC (.int 5)) (tNil))) (gName 7) (tTest (tOp (rD2 G eqF) (tOp (rD2 G modF) (tOp (rD2 G divF) (tOp (rD2 G divF) (tVar 2) (tC (.int 8))) (tOp (rD2 G idxF) (tLst (tCons (tC (.int 1)) (tCons (tC (.int 2)) (tCons (tC (.int 4)) (tCons (tC (.int 8)) (tCons (tC (.int 16)) (tNil))))))) (tVar 7))) (tC (.int 2))) (tC (.int 1)))) (tVar 7) [7]) (gName 5))
  (tSeq (tIfS (tTest (tOp (rD2 G eqF) (tOp (rD2 G modF) (tOp (rD2 G divF) (tVar 2) (tC (.int 256))) (tC (.int 8))) (tC (.int 0)))) (tAsg (tOp (rD2 G addF) (tVar 5) (tSl (rDS G sliceF) (tVar 5) (tPart (tUn (rD1 G negF) (tC (.int 1)))) tNoPart)) (gName 5)) (tNext))
  (tRet (tM1 (rDM G joinF) (tC (.str (Str.ofString " "))) (tOp (rD2 G addF) (tLst (tCons (tOp (rD2 G idxF) (tLst (tCons (tC (.str (Str.ofString "yes"))) (tCons (tC (.str (Str.ofString "no"))) (tNil)))) (tOp (rD2 G modF) (tOp (rD2 G divF) (tVar 2) (tC (.int 2048))) (tC (.int 2)))) (tNil))) (tLc (iList G.K (tVar 5)) (gName 7) (tYes) (tCB (rDn G strF) (tCons (tVar 7) (tNil))) [7])))))) (tNext))
  (tSeq (tIfS (tTest (tOp (rD2 G eqF) (tVar 3) (tC (.int 7)))) (tRet (tOp (rD2 G idxF) (tLst (tCons (tC (.str (Str.ofString "games 3 1"))) (tCons (tC (.str (Str.ofString "yes 01"))) (tCons (tC (.str (Str.ofString "no  1"))) (tCons (tC (.str (Str.ofString "left 1"))) (tCons (tC (.str (Str.ofString "game 3"))) (tCons (tC (.str (Str.ofString "best "))) (tCons (tC (.str (Str.ofString "yes 100"))) (tCons (tC (.str (Str.ofString "back now"))) (tNil)))))))))) (tOp (rD2 G modF) (tOp (rD2 G divF) (tVar 2) (tC (.int 8))) (tC (.int 8))))) (tNext))
  (tRet (tOp (rD2 G idxF) (tLst (tCons (tC (.str (Str.ofString "left"))) (tCons (tC (.str (Str.ofString "lies"))) (tCons (tC (.str (Str.ofString "needed"))) (tCons (tC (.str (Str.ofString "best"))) (tCons (tC (.str (Str.ofString "back"))) (tNil))))))) (tOp (rD2 G modF) (tOp (rD2 G divF) (tVar 2) (tC (.int 8))) (tC (.int 5))))))
def rd_law_row (G : Ctx) (W : WX) : TS :=
  tSeq (tAsg (tCallS (spL G S_law_mix) (WE W) (tCons (tVar 0) (tCons (tVar 1) (tNil)))) (gName 2))
  (tSeq (tAsg (tOp (rD2 G modF) (tVar 2) (tC (.int 8))) (gName 3))
  (tSeq (tIfS (tOr (tAnd (tTest (tOp (rD2 G eqF) (tVar 3) (tC (.int 0)))) (tTest (tOp (rD2 G eqF) (tOp (rD2 G modF) (tOp (rD2 G divF) (tVar 2) (tC (.int 8))) (tC (.int 2))) (tC (.int 0))))) (tTest (tOp (rD2 G eqF) (tVar 1) (tC (.int 1))))) (rd_law_row_c0 G W) (tNext))
  (rd_law_row_c1 G W)))

theorem len_law_row : ∀ es m R XR, S_law_row es m R XR → es.length = 2 := by
  rintro es m R XR ⟨ns, k, rfl, _⟩
  rfl
theorem at_nats (ns : List Nat) {j : Nat} (h : j < ns.length) : atI (ns.map fun n => D.int ((n : Nat) : Int)) (j : Int) = some (.int ((ns.getD j 0 : Nat) : Int)) := by
  apply atI_nat
  rw [List.getElem?_map, List.getD_eq_getElem?_getD, List.getElem?_eq_getElem h]
  rfl
theorem at_txts (ps : List (List Nat)) {j : Nat} (h : j < ps.length) : atI (ps.map fun p => D.str (S p)) (j : Int) = some (.str (S (ps.getD j []))) := by
  apply atI_nat
  rw [List.getElem?_map, List.getD_eq_getElem?_getD, List.getElem?_eq_getElem h]
  rfl
theorem lit_T : ∀ j, j < 8 → [cd "games 3 1", cd "yes 01", cd "no  1", cd "left 1", cd "game 3", cd "best ", cd "yes 100", cd "back now"].getD j [] = rowT (litL.getD j ([], [])) := by decide +kernel
theorem rowT_one (w : List Nat) : rowT (w, []) = w := rfl
theorem cut_end {α : Type} (xs : List α) : cut xs (some (-1)) none = xs.drop (xs.length - 1) := by
  unfold cut
  rw [HT.sIx_none]
  have e : HT.sIx xs.length 0 (some (-1)) = xs.length - 1 := by
    unfold HT.sIx
    simp
    omega
  rw [e, List.take_of_length_le (by rw [List.length_drop]; omega)]
section
variable {G : Ctx} {W : WX} {m : Mu} {R : DV → Mu → Prop} {XR : Tag → Mu → Prop} {ns : List Int} {N k : Nat}
theorem row_c0 {E : EndsD} (h : E.rt (.d (.str (S (rowT (cd "game", [TL.numL (thN N), TL.numL (liN N)]))))) m) :
    StD G W (rd_law_row_c0 G W) [some (.scr ns), some (.d (.int (k : Nat))), some (.d (.int (N : Nat))), some (.d (.int ((N % 8 : Nat) : Int))), none, none, none, none] m E (fun t _ m' => XR t m') := by
  have h1 := th_le N
  have h2 := li_le N
  have l1 := num_l2 (n := thN N) (by omega)
  have l2 := num_l2 (n := liN N) (by omega)
  have eT : ∀ j : Nat, numT ((j : Nat) : Int) = TL.numL j := fun j => by unfold numT; rw [Int.toNat_natCast]
  unfold rd_law_row_c0
  simp only [s_spc, tCS]
  walk_at "r"
  refine ⟨⟨by decide, by decide⟩, ?_⟩
  walk_at "r"
  refine ⟨by decide, ?_⟩
  rw [show (N : Int) / 16 % 8 = ((N / 16 % 8 : Nat) : Int) by omega]
  refine ⟨_, at_nats gameL (Nat.mod_lt _ (by decide)), ?_⟩
  walk_at "r"
  refine ⟨⟨by decide, by decide⟩, ?_⟩
  walk_at "r"
  refine ⟨by decide, ?_⟩
  rw [show (N : Int) / 16 / 8 % 6 = ((N / 16 / 8 % 6 : Nat) : Int) by omega]
  refine ⟨_, at_nats lieL (Nat.mod_lt _ (by decide)), ?_⟩
  walk_at "r"
  refine x_str (by omega) (by show ((thN N : Nat) : Int) < _; omega) ?_
  rw [show numT ((gameL.getD (N / 16 % 8) 0 : Nat) : Int) = TL.numL (thN N) from eT _]
  refine x_add (by rw [show (cd "game ").length = 5 by decide +kernel]; omega) ?_
  walk_at "r"
  refine ⟨by rw [S_len, S_len, List.length_append, show (cd "game ").length = 5 by decide +kernel, List.length_singleton]; omega, ?_⟩
  rw [S_cat]
  have fin : ∀ v : Nat, v = liN N → strF [.d (.int ((v : Nat) : Int))] m (fun y m2 => addF (.d (.str (S (cd "game " ++ TL.numL (thN N) ++ [32])))) y m2 E.rt) := fun v e => by
    subst e
    refine x_str (by omega) (by omega) ?_
    rw [eT]
    refine x_add (by rw [List.length_append, List.length_append, show (cd "game ").length = 5 by decide +kernel]; simp; omega) ?_
    have e : cd "game " ++ TL.numL (thN N) ++ [32] ++ TL.numL (liN N) = rowT (cd "game", [TL.numL (thN N), TL.numL (liN N)]) := by
      rw [show cd "game " = cd "game" ++ [32] by decide +kernel]
      show _ = cd "game" ++ ([32] ++ (TL.numL (thN N) ++ ([32] ++ TL.numL (liN N))))
      simp [List.append_assoc]
    rw [e]
    exact h
  walk_at "r"
  refine i_d (fun c => ?_) (fun c => ?_)
  · walk_at "r"
    have c : thN N = 13 := by have c : ((thN N : Nat) : Int) = 13 := c; omega
    exact fin 0 (by unfold liN; rw [if_pos c])
  · walk_at "r"
    have c : ¬ thN N = 13 := fun z => c (by show ((thN N : Nat) : Int) = 13; omega)
    exact fin (lieL.getD (N / 16 / 8 % 6) 0) (by unfold liN; rw [if_neg c])
theorem row_c1 (h : R (.d (.str (S (rowT (if N % 8 < 4 then (ynN N, (thingsD N).map TL.numL) else if N % 8 = 7 then litL.getD (N / 8 % 8) ([], []) else (five.getD (N / 8 % 5) [], [])))))) m) :
    StD G W (rd_law_row_c1 G W) [some (.scr ns), some (.d (.int (k : Nat))), some (.d (.int (N : Nat))), some (.d (.int ((N % 8 : Nat) : Int))), none, none, none, none] m (NL R) (fun t _ m' => XR t m') := by
  have eT : ∀ j : Nat, numT ((j : Nat) : Int) = TL.numL j := fun j => by unfold numT; rw [Int.toNat_natCast]
  unfold rd_law_row_c1
  simp only [s_spc, tCS]
  walk_at "r"
  refine i_d (fun c => ?_) (fun c => ?_)
  · rw [if_pos (by omega)] at h
    walk_at "r"
    refine ⟨_, rfl, by decide, by decide, ?_⟩
    refine lcF (List.range 5) (fun t => .d (.int (0 + (t : Nat)))) (fun t => decide (N / 8 / powL.getD t 1 % 2 = 1)) (fun t => .int ((t : Nat) : Int)) rfl (by decide) (fun t M ht hM => ⟨_, .name (by decide), ?_, fun _ => ?_⟩) ?_
    · have ht := List.mem_range.mp ht
      walk_at "r"
      refine ⟨⟨by decide, by decide⟩, ?_⟩
      walk_at "r"
      rw [Int.zero_add]
      refine ⟨_, at_nats powL ht, ?_⟩
      walk_at "r"
      have hpw : powL.getD t 0 = powL.getD t 1 ∧ 0 < powL.getD t 1 ∧ powL.getD t 1 ≤ 16 := by
        revert t
        decide
      rw [hpw.1]
      refine ⟨⟨by omega, by omega⟩, ?_⟩
      walk_at "r"
      refine ⟨by decide, ?_⟩
      walk_at "r"
      apply decide_eq_decide.mpr
      rw [show (N : Int) / 8 / ((powL.getD t 1 : Nat) : Int) % 2 = ((N / 8 / powL.getD t 1 % 2 : Nat) : Int) by
        rw [Int.natCast_emod, Int.natCast_ediv, Int.natCast_ediv]; rfl]
      omega
    · walk_at "r"
      rw [Int.zero_add]
    have e1 : ((List.range 5).filter fun t => decide (N / 8 / powL.getD t 1 % 2 = 1)).map (fun t => D.int ((t : Nat) : Int)) = (thingsN N).map fun t => D.int ((t : Nat) : Int) := rfl
    rw [e1]
    have hln := things_len N
    have hld := thingsD_len N
    have fin : ∀ E : EndsD, (∀ d m', R d m' → E.rt d m') → StD G W (tRet (tM1 (rDM G joinF) (tC (.str (S [32]))) (tOp (rD2 G addF) (tLst (tCons (tOp (rD2 G idxF) (tLst (tCons (tC (.str (S (cd "yes")))) (tCons (tC (.str (S (cd "no")))) (tNil)))) (tOp (rD2 G modF) (tOp (rD2 G divF) (tVar 2) (tC (.int 2048))) (tC (.int 2)))) (tNil))) (tLc (iList G.K (tVar 5)) (gName 7) (tYes) (tCB (rDn G strF) (tCons (tVar 7) (tNil))) [7])))) [some (.scr ns), some (.d (.int (k : Nat))), some (.d (.int (N : Nat))), some (.d (.int ((N % 8 : Nat) : Int))), none, some (.d (.lst ((thingsD N).map fun t => D.int ((t : Nat) : Int)))), none, none] m E (fun t _ m' => XR t m') := by
      intro E hE
      refine st_ret (ev_m1 (ev_str ⟨⟨_, rfl⟩, ?_⟩))
      walk_at "r"
      refine ⟨⟨by decide, by decide⟩, ?_⟩
      walk_at "r"
      refine ⟨by decide, ?_⟩
      rw [show (N : Int) / 2048 % 2 = ((N / 2048 % 2 : Nat) : Int) by omega]
      have ey : [cd "yes", cd "no"].getD (N / 2048 % 2) [] = ynN N := by
        unfold ynN
        have : N / 2048 % 2 < 2 := Nat.mod_lt _ (by decide)
        by_cases z : N / 2048 % 2 = 0
        · rw [if_pos z, z]; rfl
        · rw [if_neg z, show N / 2048 % 2 = 1 by omega]; rfl
      refine ⟨_, at_txts [cd "yes", cd "no"] (Nat.mod_lt _ (by decide)), ?_⟩
      rw [ey]
      walk_at "r"
      refine lcM (thingsD N) (fun t => .d (.int ((t : Nat) : Int))) (fun t => .str (S (TL.numL t))) (by rw [List.map_map]; rfl) (by omega) (fun t M ht hM => ⟨_, .name (by decide), ?_⟩) ?_
      · have := thingsD_lt t ht
        walk_at "r"
        refine x_str (by omega) (by omega) ?_
        rw [eT]
        exact ⟨rfl, rfl⟩
      walk_at "r"
      refine ⟨by rw [List.length_map]; simp; omega, ?_⟩
      refine x_join (ynN N :: (thingsD N).map TL.numL) (by rw [List.map_cons, List.map_map]; rfl) (by rw [List.length_cons, List.length_map]; omega) (by decide) (fun p hp => ?_) ?_
      · rcases List.mem_cons.mp hp with rfl | hp
        · unfold ynN; split <;> decide +kernel
        · obtain ⟨t, ht, rfl⟩ := List.mem_map.mp hp
          have := thingsD_lt t ht
          have := num_l2 (n := t) (by omega)
          omega
      · exact hE _ _ h
    walk_at "r"
    refine ⟨⟨by decide, by decide⟩, ?_⟩
    walk_at "r"
    refine ⟨by decide, ?_⟩
    rw [show (N : Int) / 256 % 8 = ((N / 256 % 8 : Nat) : Int) by omega]
    walk_at "r"
    refine i_d (fun c2 => ?_) (fun c2 => ?_)
    · have c2 : N / 256 % 8 = 0 := by omega
      have e2 : thingsD N = thingsN N ++ (thingsN N).drop ((thingsN N).length - 1) := by unfold thingsD; rw [if_pos c2]
      walk_at "r"
      rw [cut_end]
      walk_at "r"
      refine ⟨by rw [List.length_drop, List.length_map]; omega, ?_⟩
      rw [List.length_map, ← List.map_drop, ← List.map_append, ← e2]
      exact fin _ (fun _ _ z => z)
    · have c2 : ¬ N / 256 % 8 = 0 := by omega
      have e2 : thingsD N = thingsN N := by unfold thingsD; rw [if_neg c2]
      refine st_next ?_
      rw [← e2]
      exact fin _ (fun _ _ z => z)
  · rw [if_neg (by omega)] at h
    walk_at "r"
    refine i_d (fun c2 => ?_) (fun c2 => ?_)
    · rw [if_pos (by omega), ← lit_T _ (Nat.mod_lt _ (by decide))] at h
      walk_at "r"
      refine ⟨⟨by decide, by decide⟩, ?_⟩
      walk_at "r"
      refine ⟨by decide, ?_⟩
      rw [show (N : Int) / 8 % 8 = ((N / 8 % 8 : Nat) : Int) by omega]
      exact ⟨_, at_txts [cd "games 3 1", cd "yes 01", cd "no  1", cd "left 1", cd "game 3", cd "best ", cd "yes 100", cd "back now"] (Nat.mod_lt _ (by decide)), h⟩
    · rw [if_neg (by omega), rowT_one] at h
      walk_at "r"
      refine ⟨⟨by decide, by decide⟩, ?_⟩
      walk_at "r"
      refine ⟨by decide, ?_⟩
      rw [show (N : Int) / 8 % 5 = ((N / 8 % 5 : Nat) : Int) by omega]
      exact ⟨_, at_txts five (Nat.mod_lt _ (by decide)), h⟩
end
theorem sem_law_row (G : Ctx) : BodyD G 8 (rd_law_row G) S_law_row := by
  rintro W es m R XR ⟨ns, k, rfl, hk, h⟩
  unfold rd_law_row
  walk_at "r"
  refine ⟨ns, k, rfl, by omega, by omega, ?_⟩
  have h0 : 0 ≤ mixN ns k := by unfold mixN; exact Int.emod_nonneg _ (by decide)
  obtain ⟨N, hN⟩ := Int.eq_ofNat_of_zero_le h0
  rw [hN, Int.toNat_natCast] at h
  rw [hN]
  unfold rowW at h
  walk_at "r"
  refine ⟨by decide, ?_⟩
  rw [show (N : Int) % 8 = ((N % 8 : Nat) : Int) by omega]
  have yes : N % 8 = 0 ∧ N / 8 % 2 = 0 ∨ k = 1 → ∀ E : EndsD, (∀ d m', R d m' → E.rt d m') → StD G W (rd_law_row_c0 G W) [some (.scr ns), some (.d (.int (k : Nat))), some (.d (.int (N : Nat))), some (.d (.int ((N % 8 : Nat) : Int))), none, none, none, none] m E (fun t _ m' => XR t m') := fun z E hE => by
    rw [if_pos z] at h
    exact row_c0 (hE _ _ h)
  have no : ¬ (N % 8 = 0 ∧ N / 8 % 2 = 0 ∨ k = 1) → StD G W (rd_law_row_c1 G W) [some (.scr ns), some (.d (.int (k : Nat))), some (.d (.int (N : Nat))), some (.d (.int ((N % 8 : Nat) : Int))), none, none, none, none] m (NL R) (fun t _ m' => XR t m') := fun z => by
    rw [if_neg z] at h
    exact row_c1 h
  walk_at "r"
  refine i_d (fun c1 => ?_) (fun c1 => ?_)
  · walk_at "r"
    refine ⟨⟨by decide, by decide⟩, ?_⟩
    walk_at "r"
    refine ⟨by decide, ?_⟩
    rw [show (N : Int) / 8 % 2 = ((N / 8 % 2 : Nat) : Int) by omega]
    walk_at "r"
    refine i_d (fun c2 => ?_) (fun c2 => ?_)
    · walk_at "r"
      exact yes (.inl ⟨by omega, by omega⟩) _ (fun _ _ z => z)
    · walk_at "r"
      refine i_d (fun c3 => ?_) (fun c3 => ?_)
      · walk_at "r"
        exact yes (.inr (by omega)) _ (fun _ _ z => z)
      · walk_at "r"
        exact no (by omega)
  · walk_at "r"
    refine i_d (fun c3 => ?_) (fun c3 => ?_)
    · walk_at "r"
      exact yes (.inr (by omega)) _ (fun _ _ z => z)
    · walk_at "r"
      exact no (by omega)
end Lb

/-! SmL80: the law k80. -/
namespace Lb
open PySem L2 SX
local macro_rules | `(tactic| walk_at "v") => `(tactic| ((with_reducible refine ev_var (d := ?dv) ?hv ?_); (case hv => exact rfl)))
local macro_rules | `(tactic| walk_at "f") => `(tactic| first
  | with_reducible refine f_in ?_
  | with_reducible refine f_notin ?_
  | with_reducible refine f_add_i ?_
  | with_reducible refine f_add_s ?_
  | with_reducible refine f_add_l ?_
  | with_reducible refine f_add_t ?_
  | with_reducible refine f_sub ?_
  | with_reducible refine f_mul_i ?_
  | with_reducible refine f_mul_l ?_
  | with_reducible refine f_mul_t ?_
  | with_reducible refine f_div ?_
  | with_reducible refine f_mod ?_
  | with_reducible refine f_pow ?_
  | with_reducible refine f_lt ?_
  | with_reducible refine f_le ?_
  | with_reducible refine f_gt ?_
  | with_reducible refine f_ge ?_
  | with_reducible refine f_eq_i ?_
  | with_reducible refine f_ne_i ?_
  | with_reducible refine f_eq_b ?_
  | with_reducible refine f_ne_b ?_
  | with_reducible refine f_is_n ?_
  | with_reducible refine f_isnot_n ?_
  | with_reducible refine f_is_i ?_
  | with_reducible refine f_isnot_i ?_
  | with_reducible refine f_is_b ?_
  | with_reducible refine f_isnot_b ?_
  | with_reducible refine f_is_s ?_
  | with_reducible refine f_isnot_s ?_
  | with_reducible refine f_is_l ?_
  | with_reducible refine f_isnot_l ?_
  | with_reducible refine f_is_t ?_
  | with_reducible refine f_isnot_t ?_
  | with_reducible refine f_is_r ?_
  | with_reducible refine f_isnot_r ?_
  | with_reducible refine f_is ?_
  | with_reducible refine f_isnot ?_
  | with_reducible refine f_neg ?_
  | with_reducible refine f_len_ml ?_
  | with_reducible refine f_len_mt ?_
  | with_reducible refine f_sum_l ?_
  | with_reducible refine f_sum_t ?_
  | with_reducible refine f_all ?_
  | with_reducible refine f_any ?_
  | with_reducible refine f_len_l ?_
  | with_reducible refine f_len_t ?_
  | with_reducible refine f_len_c ?_
  | with_reducible refine f_abs ?_
  | with_reducible refine f_min2 ?_
  | with_reducible refine f_max2 ?_
  | with_reducible refine f_list_l ?_
  | with_reducible refine f_list_t ?_
  | with_reducible refine f_tup_l ?_
  | with_reducible refine f_tup_t ?_
  | with_reducible refine f_int_i ?_
  | with_reducible refine f_int_b ?_
  | with_reducible refine f_sl_l ?_
  | with_reducible refine f_sl_t ?_
  | with_reducible refine f_tr_n ?_
  | with_reducible refine f_tr_b ?_
  | with_reducible refine f_tr_i ?_
  | with_reducible refine f_tr_l ?_
  | with_reducible refine f_tr_t ?_
  | with_reducible refine f_tr_c ?_)
local macro_rules | `(tactic| walk_at "m") => `(tactic| first
  | assumption
  | exact mset_same
  | ((refine (mset_ne ?_).trans ?_); (first | assumption | exact Ne.symm (by assumption)); walk_at "m"))
local macro_rules | `(tactic| walk_at "w") => `(tactic| first
  | walk_at "v"
  | with_reducible refine ev_rev ?_
  | with_reducible refine ev_sset ?_
  | with_reducible refine ev_lcl ?_
  | with_reducible refine ev_lct ?_
  | with_reducible refine ev_lcs ?_
  | with_reducible refine ev_lc1 ?_
  | with_reducible refine ev_lc2 ?_
  | with_reducible refine st_forl ?_
  | with_reducible refine st_fort ?_
  | with_reducible refine st_fors ?_
  | with_reducible refine st_for1 ?_
  | with_reducible refine st_for2 ?_
  | with_reducible refine ex_bl ?_
  | with_reducible refine ex_in ?_
  | with_reducible refine ex_ls ?_
  | with_reducible refine ex_tu ?_
  | with_reducible refine ex_st ?_
  | with_reducible refine ex_d0 ?_
  | with_reducible refine ex_d1 ?_
  | with_reducible refine ex_d2 ?_
  | with_reducible refine ex_d3 ?_
  | with_reducible refine ex_d4 ?_
  | with_reducible refine ex_d5 ?_
  | with_reducible refine ex_d6 ?_
  | with_reducible refine ex_d7 ?_
  | with_reducible refine ex_d8 ?_
  | with_reducible refine m_and ?_
  | with_reducible refine i_t ?_
  | with_reducible refine i_f ?_
  | with_reducible refine i_nt ?_
  | with_reducible refine i_nf ?_
  | with_reducible refine ev_fld ?_
  | ((with_reducible refine x_fld (fs := ?fs) (v := ?vv) ?hh ?ll ?_); (case hh => walk_at "m"); (case ll => exact rfl))
  | with_reducible refine ev_meth ?_
  | ((with_reducible refine x_meth (fs := ?fs) ?hh ?ll ?_); (case hh => walk_at "m"); (case ll => exact rfl))
  | with_reducible refine ev_make ?_
  | with_reducible refine st_fld ?_
  | ((with_reducible refine x_set (fs := ?fs) ?hh ?ll ?_); (case hh => walk_at "m"); (case ll => exact Nat.le_of_ble_eq_true rfl))
  | with_reducible refine ev_lstP ?_
  | with_reducible refine ev_dnew ?_
  | with_reducible refine st_dset ?_
  | with_reducible refine ev_tup ?_
  | with_reducible refine ev_lst ?_
  | with_reducible refine ev_int ?_
  | with_reducible refine ea_cons ?_
  | with_reducible refine ea_nil ?_
  | with_reducible refine ev_op ?_
  | with_reducible refine st_seq ?_
  | with_reducible refine st_asg ?_
  | with_reducible refine ev_call ?_
  | with_reducible refine ev_cb ?_
  | with_reducible refine st_if ?_
  | with_reducible refine et_test ?_
  | with_reducible refine et_not ?_
  | with_reducible refine et_or ?_
  | with_reducible refine et_and ?_
  | with_reducible refine et_tru ?_
  | with_reducible refine et_yes ?_
  | with_reducible refine et_B ?_
  | with_reducible refine ev_chain ?_
  | with_reducible refine ev_chain3 ?_
  | with_reducible refine ev_un ?_
  | with_reducible refine ev_if ?_
  | with_reducible refine ev_bl ?_
  | with_reducible refine ev_non ?_
  | with_reducible refine ev_str ?_
  | with_reducible refine ev_andV ?_
  | with_reducible refine ev_orV ?_
  | with_reducible refine ev_notV ?_
  | with_reducible refine ev_isB ?_
  | with_reducible refine ev_isE ?_
  | with_reducible refine ev_sl2 ?_
  | with_reducible refine ev_slA ?_
  | with_reducible refine ev_slB ?_
  | with_reducible refine ev_bmL ?_
  | with_reducible refine ev_bmL0 ?_
  | with_reducible refine st_ret ?_
  | with_reducible refine st_drop ?_
  | with_reducible refine st_next ?_
  | with_reducible refine st_setL ?_
  | with_reducible refine st_asgG ?_
  | with_reducible refine st_raise ?_
  | with_reducible refine gt_name ?_
  | with_reducible refine gt_tup2 ?_
  | with_reducible refine gt_tup3 ?_
  | walk_at "f")
local macro_rules | `(tactic| walk_at "r") => `(tactic| repeat walk_at "w")

def S_law : SpD := fun es m R _ => ∃ ns : List Int, es = [.scr ns] ∧ ∀ m', R (.d (.bl true)) m'
def rd_law (G : Ctx) (W : WX) : TS :=
  tSeq (tAsg (tLc (iRng1 (tCons (tOp (rD2 G modF) (tCallS (spL G S_law_mix) (WE W) (tCons (tVar 0) (tCons (tC (.int 0)) (tNil)))) (tC (.int 17))) (tNil))) (gName 4) (tYes) (tCallS (spL G S_law_row) (WE WF) (tCons (tVar 0) (tCons (tOp (rD2 G addF) (tC (.int 1)) (tVar 4)) (tNil)))) [4]) (gName 1))
  (tSeq (tAsg (tMakeS G .desk (spL G S_Desk___init__) (WE W) (tNil)) (gName 2))
  (tSeq (tAsg (tLc (iList G.K (tVar 1)) (gName 5) (tYes) (tMethD G .desk "say" (spL G S_Desk_say) (WE WF) (tVar 2) (tCons (tVar 5) (tNil))) [5]) (gName 3))
  (tSeq (tIfS (tOr (tNot (tTru G.K (tCallS (spL G S_law_good) (WE W) (tCons (tVar 1) (tCons (tVar 3) (tNil)))))) (tNot (tTru G.K (tCallS (spL G S_law_good) (WE W) (tCons (tVar 1) (tCons (tCallS (spL G S_play) (WE W) (tCons (tM1 (rDM G joinF) (tC (.str (Str.ofString "\n"))) (tVar 1)) (tNil))) (tNil))))))) (tRet (tC (.bl false))) (tNext))
  (tRet (tCallS (spL G S_law_good) (WE W) (tCons (tVar 1) (tCons (tCallS (spL G S_play) (WE W) (tCons (tOp (rD2 G addF) (tOp (rD2 G addF) (tC (.str (Str.ofString "\n"))) (tM1 (rDM G joinF) (tC (.str (Str.ofString "\n\n"))) (tVar 1))) (tC (.str (Str.ofString "\n")))) (tNil))) (tNil))))))))

theorem len_law : ∀ es m R XR, S_law es m R XR → es.length = 1 := by
  rintro es m R XR ⟨a, rfl, _⟩
  rfl
theorem ask_law (ns : List Int) (hl : ns.length ≤ 63) : S_law [.scr ns] (fun _ => none) (fun d _ => d = .d (.bl true)) (fun _ _ => False) := ⟨ns, rfl, fun _ => rfl⟩
/-- rows between line ends -/
def onesP (rs : List Rw) : List (Option Rw) := if rs = [] then [none] else rs.map some
def twosB : List Rw → List (Option Rw)
  | [] => [none, none]
  | [p] => [some p, none]
  | p :: q :: r => some p :: none :: twosB (q :: r)
def twosP (rs : List Rw) : List (Option Rw) := none :: twosB rs
theorem map_some (rs : List Rw) : (rs.map some).filterMap id = rs := by
  rw [List.filterMap_map]
  show rs.filterMap some = rs
  exact List.filterMap_some
theorem ones_rows (rs : List Rw) : (onesP rs).filterMap id = rs := by
  unfold onesP
  split
  · rename_i e; subst e; rfl
  · exact map_some rs
theorem twosB_rows : ∀ rs : List Rw, (twosB rs).filterMap id = rs
  | [] => rfl
  | [p] => rfl
  | p :: q :: r => by
    rw [twosB]
    show p :: (twosB (q :: r)).filterMap id = _
    rw [twosB_rows]
theorem twos_rows (rs : List Rw) : (twosP rs).filterMap id = rs := twosB_rows rs
theorem ones_text (rs : List Rw) : TL.joinL [10] (rs.map rowT) = TL.joinL [10] ((onesP rs).map linT) := by
  unfold onesP
  split
  · rename_i e; subst e; rfl
  · rw [List.map_map]; rfl
theorem join_cons2 (sep p : List Nat) {ps : List (List Nat)} (h : ps ≠ []) : TL.joinL sep (p :: ps) = p ++ (sep ++ TL.joinL sep ps) := by
  cases ps with
  | nil => exact absurd rfl h
  | cons q r => rfl
theorem twosB_ne : ∀ rs : List Rw, (twosB rs).map linT ≠ []
  | [] => by simp [twosB]
  | [p] => by simp [twosB]
  | p :: q :: r => by simp [twosB]
theorem twosB_text : ∀ rs : List Rw, TL.joinL [10, 10] (rs.map rowT) ++ [10] = TL.joinL [10] ((twosB rs).map linT)
  | [] => rfl
  | [p] => rfl
  | p :: q :: r => by
    have ih := twosB_text (q :: r)
    have e : TL.joinL [10] ((twosB (p :: q :: r)).map linT) = rowT p ++ ([10] ++ ([] ++ ([10] ++ TL.joinL [10] ((twosB (q :: r)).map linT)))) := by
      rw [twosB]
      show TL.joinL [10] (rowT p :: [] :: (twosB (q :: r)).map linT) = _
      rw [join_cons2 _ _ (by simp), join_cons2 _ _ (twosB_ne (q :: r))]
    rw [e, ← ih]
    show rowT p ++ ([10, 10] ++ TL.joinL [10, 10] ((q :: r).map rowT)) ++ [10] = rowT p ++ ([10] ++ ([] ++ ([10] ++ (TL.joinL [10, 10] ((q :: r).map rowT) ++ [10]))))
    simp [List.append_assoc]
theorem twos_text (rs : List Rw) : [10] ++ TL.joinL [10, 10] (rs.map rowT) ++ [10] = TL.joinL [10] ((twosP rs).map linT) := by
  unfold twosP
  rw [List.map_cons, join_cons2 _ _ (twosB_ne rs), ← twosB_text]
  show _ = [] ++ ([10] ++ _)
  simp [List.append_assoc]
theorem twosB_len : ∀ rs : List Rw, (twosB rs).length ≤ 2 * rs.length + 2
  | [] => by decide
  | [p] => by show 2 ≤ 4; decide
  | p :: q :: r => by
    have := twosB_len (q :: r)
    rw [twosB]
    simp only [List.length_cons] at this ⊢
    omega
theorem twosB_mem {p : Rw} : ∀ {rs : List Rw}, some p ∈ twosB rs → p ∈ rs
  | [], h => by simp [twosB] at h
  | [q], h => by simp [twosB] at h; simp [h]
  | a :: q :: r, h => by
    rw [twosB] at h
    rcases List.mem_cons.mp h with h | h
    · cases h; simp
    · rcases List.mem_cons.mp h with h | h
      · cases h
      · exact List.mem_cons_of_mem _ (twosB_mem h)
theorem ones_mem {p : Rw} {rs : List Rw} (h : some p ∈ onesP rs) : p ∈ rs := by
  unfold onesP at h
  split at h
  · simp at h
  · obtain ⟨q, hq, e⟩ := List.mem_map.mp h
    cases e
    exact hq
theorem ones_len (rs : List Rw) : (onesP rs).length ≤ rs.length + 1 := by
  unfold onesP
  split
  · exact Nat.le_add_left _ _
  · rw [List.length_map]; omega
theorem ones_ne (rs : List Rw) : onesP rs ≠ [] := by
  unfold onesP
  split
  · simp
  · rename_i e; simpa using e
theorem cd_nl2 : cd "\n\n" = [10, 10] := by decide +kernel
theorem sem_law (G : Ctx) : BodyD G 6 (rd_law G) S_law := by
  rintro W es m R XR ⟨ns, rfl, h⟩
  unfold rd_law
  simp only [tCS, cd_nl, cd_nl2]
  walk_at "r"
  refine ⟨ns, 0, rfl, by decide, by decide, ?_⟩
  walk_at "r"
  refine ⟨by decide, ?_⟩
  obtain ⟨K, hK, eK⟩ := mix_lt ns 0 (z := 17) (by decide)
  rw [show mixN ns 0 % 17 = (K : Int) from eK]
  walk_at "r"
  refine ⟨_, rfl, by omega, by omega, ?_⟩
  rw [Int.toNat_natCast]
  refine lcM (List.range K) (fun t => .d (.int (0 + (t : Nat)))) (fun t => .str (S (rowT (rowW (mixN ns ((1 + t : Nat) : Int)).toNat (1 + t))))) rfl (by rw [List.length_range]; omega) (fun t M ht hM => ⟨_, .name (by decide), ?_⟩) ?_
  · have ht := List.mem_range.mp ht
    walk_at "r"
    rw [Int.zero_add, show (1 : Int) + (t : Int) = ((1 + t : Nat) : Int) by omega]
    exact ⟨ns, 1 + t, rfl, by omega, rfl, rfl⟩
  obtain ⟨rs, hrs⟩ : ∃ rs : List Rw, rs = (List.range K).map fun t => rowW (mixN ns ((1 + t : Nat) : Int)).toNat (1 + t) := ⟨_, rfl⟩
  have e1 : (List.range K).map (fun t => D.str (S (rowT (rowW (mixN ns ((1 + t : Nat) : Int)).toNat (1 + t))))) = rs.map fun p => D.str (S (rowT p)) := by rw [hrs, List.map_map]; rfl
  rw [e1]
  have hlen : rs.length ≤ 16 := by rw [hrs, List.length_map, List.length_range]; omega
  have hok : ∀ p ∈ rs, RowOk p := fun p hp => by
    rw [hrs] at hp
    obtain ⟨t, _, rfl⟩ := List.mem_map.mp hp
    exact rowW_ok _ _
  clear hrs e1 eK
  walk_at "r"
  intro a ha
  refine ⟨m, a, rfl, mset_same, sub_mset ha, ha, fun m1 hD => ⟨rfl, ?_⟩⟩
  refine st_seq (st_asg (ev_lcS (ei_list ?_)))
  walk_at "r"
  intro Dn hDn
  have hmD : m Dn = none := hD.sub.none' hDn
  refine ⟨fun i l M => l = (saysN none (rs.take i)).map (fun x => D.str (S x)) ∧ DeskAt (mset m Dn (.lst l)) M a (stN none (rs.take i)), ⟨rfl, hD.new hDn⟩, fun i l M ⟨e, hM⟩ => ⟨hM.sub.some mset_same, trivial, ?_⟩, fun i x l M hx ⟨e, hM⟩ => ⟨_, .name (by decide), ?_⟩, fun l M ⟨e, hM⟩ => ?_⟩
  · subst e
    rw [List.length_map, says_len]
    have : (rs.take i).length ≤ rs.length := by rw [List.length_take]; omega
    omega
  · rw [List.getElem?_map, List.getElem?_map] at hx
    have hs : (rs.take i).length ≤ 16 := by rw [List.length_take]; omega
    cases eq : rs[i]? with
    | none => rw [eq] at hx; cases hx
    | some p =>
      rw [eq] at hx
      cases hx
      obtain ⟨v0, ho⟩ := hM.fld
      have hr := hok p (List.mem_of_getElem? eq)
      have etk : rs.take (i + 1) = rs.take i ++ [p] := by rw [List.take_add_one, eq]; rfl
      walk_at "r"
      refine ⟨_, a, _, p, rfl, hM, (ok_st (k := 0) (s := none) _ trivial).mono (by omega), hr, fun M4 hD4 => ⟨_, rfl, hD4.sub.some mset_same, ?_, ?_⟩⟩
      · rw [etk, says_app, List.map_append, e]
        rfl
      · rw [etk, stN_app]
        have := hD4.put (x := Dn) (o := .lst (l ++ [.str (S (outT (ansN (stN none (rs.take i)) p).1))])) (by rw [mset_same]; exact fun z => nomatch z)
        rw [mset_mset] at this
        exact this
  rw [List.length_map, List.length_map, List.take_length] at e hM
  refine st_frz 3 rfl (hM.sub.some mset_same) ?_
  rw [e]
  generalize mdel M Dn = m2
  have hps1 : ∀ p, some p ∈ onesP rs → RowOk p := fun p hp => hok p (ones_mem hp)
  have hps2 : ∀ p, some p ∈ twosP rs → RowOk p := fun p hp => by
    rcases List.mem_cons.mp hp with z | z
    · cases z
    · exact hok p (twosB_mem z)
  have hl1 := ones_len rs
  have hl2 := twosB_len rs
  have hjl : ∀ p ∈ rs.map rowT, p.length ≤ 2000 := fun p hp => by
    obtain ⟨q, hq, rfl⟩ := List.mem_map.mp hp
    have := (hok q hq).len
    omega
  have jl : (TL.joinL [10, 10] (rs.map rowT)).length ≤ 50000 := by
    have h1 := join_len [10, 10] (rs.map rowT)
    have h2 := sum_le hjl
    rw [List.length_map] at h1 h2
    have : rs.length * 2000 ≤ 16 * 2000 := Nat.mul_le_mul_right _ hlen
    simp only [List.length_cons, List.length_nil] at h1
    omega
  walk_at "r"
  refine ⟨rs, rfl, by omega, hok, ?_⟩
  walk_at "r"
  refine ev_m1 ?_
  walk_at "r"
  refine ⟨⟨_, rfl⟩, ?_⟩
  walk_at "r"
  refine x_join (rs.map rowT) (by rw [List.map_map]; rfl) (by rw [List.length_map]; omega) (by decide) hjl ?_
  rw [ones_text]
  walk_at "r"
  refine ⟨onesP rs, rfl, ones_ne rs, by omega, hps1, ?_⟩
  rw [ones_rows]
  walk_at "r"
  refine ⟨rs, rfl, by omega, hok, ?_⟩
  walk_at "r"
  refine ev_m1 ?_
  walk_at "r"
  refine ⟨⟨_, rfl⟩, ?_⟩
  walk_at "r"
  refine x_join (rs.map rowT) (by rw [List.map_map]; rfl) (by rw [List.length_map]; omega) (by decide) hjl ?_
  refine x_add (by simp only [List.length_cons, List.length_nil]; omega) ?_
  walk_at "r"
  refine ⟨by rw [S_len, S_len]; simp only [List.length_append, List.length_cons, List.length_nil]; omega, ?_⟩
  rw [S_cat, twos_text]
  walk_at "r"
  refine ⟨twosP rs, rfl, by unfold twosP; simp, by unfold twosP; rw [List.length_cons]; omega, hps2, ?_⟩
  rw [twos_rows]
  walk_at "r"
  exact ⟨rs, rfl, by omega, hok, h _⟩
end Lb

namespace Lb
open PySem L2
def topS (i : Nat) : Stmt := PySem.Challenge.pw_liarbook_k80_whole_desk.main.body.getD i (.Pass ⟨0, 0, 0, 0⟩)
structure Tx (G : Ctx) (mg : Str → Option Value) : Prop where
  b_abs : mg "abs" = none
  b_all : mg "all" = none
  b_int : mg "int" = none
  b_isinstance : mg "isinstance" = none
  b_len : mg "len" = none
  b_list : mg "list" = none
  b_max : mg "max" = none
  b_min : mg "min" = none
  b_range : mg "range" = none
  b_set : mg "set" = none
  b_sorted : mg "sorted" = none
  b_str : mg "str" = none
  b_sum : mg "sum" = none
  b_tuple : mg "tuple" = none
  c_FIGURES : ∃ t, mg "FIGURES" = some (.str (Str.ofString "0123456789") t)
  c_MOST_COUNT : ∃ t, mg "MOST_COUNT" = some (.int 64 t)
  c_MOST_LIES : ∃ t, mg "MOST_LIES" = some (.int 4 t)
  c_MOST_QUESTIONS : ∃ t, mg "MOST_QUESTIONS" = some (.int 60 t)
  c_MOST_THINGS_games : ∃ t, mg "MOST_THINGS_games" = some (.int 64 t)
  c_MOST_THINGS_plans : ∃ t, mg "MOST_THINGS_plans" = some (.int 12 t)
  e_game : ErrAt G mg "BadGame" .game
  e_counts : ErrAt G mg "BadCounts" .counts
  e_question : ErrAt G mg "BadQuestion" .question
  e_liar : ErrAt G mg "Liar" .liar
  e_row : ErrAt G mg "BadRow" .row
  cl_game : ClOk G .game
  mk_game : MkOk G mg .game "Game"
  cl_worker : ClOk G .worker
  mk_worker : MkOk G mg .worker "Worker"
  cl_asker : ClOk G .asker
  mk_asker : MkOk G mg .asker "Asker"
  cl_desk : ClOk G .desk
  mk_desk : MkOk G mg .desk "Desk"
  n_asker_game : NoAttr G.K (G.cl .asker) "game"
  n_asker_worker : NoAttr G.K (G.cl .asker) "worker"
  n_desk_game : NoAttr G.K (G.cl .desk) "game"
  n_game_most : NoAttr G.K (G.cl .game) "most"
  n_game_row : NoAttr G.K (G.cl .game) "row"
  n_game_things : NoAttr G.K (G.cl .game) "things"
  n_game_told : NoAttr G.K (G.cl .game) "told"
  n_worker_known : NoAttr G.K (G.cl .worker) "known"
  le : mg "LiarError" = some (.ref G.le)
  exc : ExcT G
  xall : XAll G
  xp : XPair G
abbrev s_look_game : Stmt := topS 11
abbrev N_look_game : List Str := ["things", "lies"]
theorem sc_look_game : FnScope N_look_game ["things", "lies"] (defScope s_look_game) := ⟨rfl, rfl, rfl, by decide +kernel, rfl, by decide +kernel, by decide +kernel⟩
theorem fk_look_game {P : Program} {mg : Str → Option Value} {base : Heap} {G : Ctx} (T : Tx G mg) (F : DefAt G mg "look_game" "look_game" s_look_game ["things", "lies"]) : FnF P G mg base 1 "look_game" ["things", "lies"] S_look_game := by
    refine fnF_mk (k := 0) F sc_look_game len_look_game (sem_look_game G) (fun f cdv A outer s H E hr => ?_)
    have tk := takes_of (X := cxOf (L2.CX P G.w) P G.w G.K mg base N_look_game "look_game" (defScope s_look_game) f cdv A outer s H E) (E := E) rfl rfl rfl rfl
    have po := passes_of (X := cxOf (L2.CX P G.w) P G.w G.K mg base N_look_game "look_game" (defScope s_look_game) f cdv A outer s H E) rfl
    exact (pss_one (ps_if (PW.pt (pw_or (pt_not (pt_chain (or_le hr.units0) (or_le hr.units0) pe_int (pv 0) (pe_globI T.c_MOST_THINGS_games rfl))) (pw_or1 (pt_not (pt_chain (or_le hr.units0) (or_le hr.units0) pe_int (pv 1) (pe_globI T.c_MOST_LIES rfl)))))) (pss_one (ps_raiseE rfl tk rfl T.e_game rfl)) pss_nil))
abbrev s_look_question : Stmt := topS 12
abbrev N_look_question : List Str := ["things", "question"]
theorem sc_look_question : FnScope N_look_question ["things", "question"] (defScope s_look_question) := ⟨rfl, rfl, rfl, by decide +kernel, rfl, by decide +kernel, by decide +kernel⟩
theorem fk_look_question {P : Program} {mg : Str → Option Value} {base : Heap} {G : Ctx} (T : Tx G mg) (F : DefAt G mg "look_question" "look_question" s_look_question ["things", "question"]) : FnF P G mg base 1 "look_question" ["things", "question"] S_look_question := by
    refine fnF_mk (k := 0) F sc_look_question len_look_question (sem_look_question G) (fun f cdv A outer s H E hr => ?_)
    have tk := takes_of (X := cxOf (L2.CX P G.w) P G.w G.K mg base N_look_question "look_question" (defScope s_look_question) f cdv A outer s H E) (E := E) rfl rfl rfl rfl
    have po := passes_of (X := cxOf (L2.CX P G.w) P G.w G.K mg base N_look_question "look_question" (defScope s_look_question) f cdv A outer s H E) rfl
    exact (pss_one (ps_if (PW.pt (pw_or (pt_cmpR (or_ne hr.units) (pv 1) (pe_sset (by rfl) (by rfl) (by rfl) T.b_sorted T.b_set (pa_cons (pv 1) pa_nil)) (nomark _)) (pw_or1 (PW.pt (pw_and (pt_truD (pv 1)) (pw_and1 (pt_not (pt_chain3 (or_le hr.units0) (or_le hr.units0) (or_lt hr.units0) pe_int (pe_ix (ix_D rfl) (pv 1) pe_int (fun _ _ => rfl)) (pe_ix (ix_D rfl) (pv 1) (pe_un ur_neg pe_int) (fun _ _ => rfl)) (pv 0))))))))) (pss_one (ps_raiseE rfl tk rfl T.e_question rfl)) pss_nil))
abbrev s_Game___init__ : Stmt := inClass (topS 13) 0
abbrev N_Game___init__ : List Str := ["self", "things", "lies"]
theorem sc_Game___init__ : FnScope N_Game___init__ ["self", "things", "lies"] (defScope s_Game___init__) := ⟨rfl, rfl, rfl, by decide +kernel, rfl, by decide +kernel, by decide +kernel⟩
theorem fk_Game___init__ {P : Program} {mg : Str → Option Value} {base : Heap} {G : Ctx} (T : Tx G mg) (F : MethAt G .game "__init__" "Game.__init__" s_Game___init__ ["self", "things", "lies"]) (h_look_game : FnF P G mg base 1 "look_game" ["things", "lies"] S_look_game) : FnM P G mg base 2 .game "__init__" ["self", "things", "lies"] S_Game___init__ := by
    refine fnM_mk (k := 1) F sc_Game___init__ len_Game___init__ (sem_Game___init__ G) (fun f cdv A outer s H E hr => ?_)
    have tk := takes_of (X := cxOf (L2.CX P G.w) P G.w G.K mg base N_Game___init__ "Game.__init__" (defScope s_Game___init__) f cdv A outer s H E) (E := E) rfl rfl rfl rfl
    have po := passes_of (X := cxOf (L2.CX P G.w) P G.w G.K mg base N_Game___init__ "Game.__init__" (defScope s_Game___init__) f cdv A outer s H E) rfl
    exact (pss_cons (ps_expr (pe_callF h_look_game rfl rfl (hr.mono (by decide)) tk (by rfl) (pa_cons (pv 1) (pa_cons (pv 2) pa_nil))))
    (pss_cons (ps_fldD rfl T.cl_game T.n_game_things (pv 0) (pv 1))
    (pss_cons (ps_fldD rfl T.cl_game T.n_game_most (pv 0) (pv 2))
    (pss_cons (ps_fldD rfl T.cl_game T.n_game_told (pv 0) (pe_op (or_mulO) (pe_lst (pa_cons pe_int pa_nil)) (pv 1)))
    (pss_one (ps_fldD rfl T.cl_game T.n_game_row (pv 0) (pe_lstO pa_nil)))))))
abbrev s_Game_ask : Stmt := inClass (topS 13) 1
abbrev N_Game_ask : List Str := ["self", "question", "answer", "later", "thing"]
theorem sc_Game_ask : FnScope N_Game_ask ["self", "question", "answer"] (defScope s_Game_ask) := ⟨rfl, rfl, rfl, by decide +kernel, rfl, by decide +kernel, by decide +kernel⟩
theorem fk_Game_ask {P : Program} {mg : Str → Option Value} {base : Heap} {G : Ctx} (T : Tx G mg) (F : MethAt G .game "ask" "Game.ask" s_Game_ask ["self", "question", "answer"]) (h_look_question : FnF P G mg base 1 "look_question" ["things", "question"] S_look_question) : FnM P G mg base 2 .game "ask" ["self", "question", "answer"] S_Game_ask := by
    refine fnM_mk (k := 1) F sc_Game_ask len_Game_ask (sem_Game_ask G) (fun f cdv A outer s H E hr => ?_)
    have tk := takes_of (X := cxOf (L2.CX P G.w) P G.w G.K mg base N_Game_ask "Game.ask" (defScope s_Game_ask) f cdv A outer s H E) (E := E) rfl rfl rfl rfl
    have po := passes_of (X := cxOf (L2.CX P G.w) P G.w G.K mg base N_Game_ask "Game.ask" (defScope s_Game_ask) f cdv A outer s H E) rfl
    exact (pss_cons (ps_expr (pe_callF h_look_question rfl rfl (hr.mono (by decide)) tk (by rfl) (pa_cons (pe_fldD rfl T.cl_game T.n_game_things (pv 0)) (pa_cons (pv 1) pa_nil))))
    (pss_cons (ps_set (i := 3) sc_Game_ask.nd rfl (Or.inl rfl) (pe_callTy (cr_listO) (by rfl) T.b_list bt_list (pa_cons (pe_fldD rfl T.cl_game T.n_game_told (pv 0)) pa_nil)))
    (pss_cons (ps_for po rfl (pi_range1 rfl T.b_range (pa_cons (pe_fldD rfl T.cl_game T.n_game_things (pv 0)) pa_nil)) (pg_name (i := 4) sc_Game_ask.nd rfl (Or.inl rfl)) (pss_one (ps_if (pt_cmpR (or_ne hr.units) (pe_cmpR (or_in (Room.u65 hr)) (pv 4) (pv 1) (by rfl)) (pv 2) (nomark _)) (pss_one (ps_asg (pe_op (or_add rfl) (pe_ix (ix_D rfl) (pv 3) (pv 4) (fun _ _ => rfl)) pe_int) (pg_sub (pv 3) (pv 4) set_list))) pss_nil)))
    (pss_cons (ps_if (pt_cmpR (or_gt) (pe_callB (cr_minD rfl) (by rfl) T.b_min bt_min (pa_cons (pv 3) pa_nil)) (pe_fldD rfl T.cl_game T.n_game_most (pv 0)) (nomark _)) (pss_one (ps_raiseE rfl tk rfl T.e_liar rfl)) pss_nil)
    (pss_cons (ps_fldD rfl T.cl_game T.n_game_told (pv 0) (pv 3))
    (pss_one (ps_expr (pe_bm PySem.F.plainAttrs_list PySem.F.slot_list_append PySem.F.type_list_append (mt_appendD) (pe_fldD rfl T.cl_game T.n_game_row (pv 0)) (pa_cons (pe_tup (pa_cons (pe_callTy (cr_listD) (by rfl) T.b_list bt_list (pa_cons (pv 1) pa_nil)) (pa_cons (pv 2) pa_nil))) pa_nil)))))))))
abbrev s_Game_lies : Stmt := inClass (topS 13) 2
abbrev N_Game_lies : List Str := ["self", "many"]
theorem sc_Game_lies : FnScope N_Game_lies ["self"] (defScope s_Game_lies) := ⟨rfl, rfl, rfl, by decide +kernel, rfl, by decide +kernel, by decide +kernel⟩
theorem fk_Game_lies {P : Program} {mg : Str → Option Value} {base : Heap} {G : Ctx} (T : Tx G mg) (F : MethAt G .game "lies" "Game.lies" s_Game_lies ["self"]) : FnM P G mg base 1 .game "lies" ["self"] S_Game_lies := by
    refine fnM_mk (k := 0) F sc_Game_lies len_Game_lies (sem_Game_lies G) (fun f cdv A outer s H E hr => ?_)
    have tk := takes_of (X := cxOf (L2.CX P G.w) P G.w G.K mg base N_Game_lies "Game.lies" (defScope s_Game_lies) f cdv A outer s H E) (E := E) rfl rfl rfl rfl
    have po := passes_of (X := cxOf (L2.CX P G.w) P G.w G.K mg base N_Game_lies "Game.lies" (defScope s_Game_lies) f cdv A outer s H E) rfl
    exact (pss_one (ps_ret (pe_lc (own := [("many", 1)]) (by rfl) sc_Game_lies.nd (pi_list (pe_fldD rfl T.cl_game T.n_game_told (pv 0))) (blkOk_by (own := [("many", 1)]) (N := N_Game_lies) (sc := defScope s_Game_lies) (by decide +kernel)) (fun _ _ _ _ _ => (pg_name (i := 1) sc_Game_lies.nd rfl (Or.inl rfl))) (fun _ _ _ _ _ => pts_nil) (fun _ _ _ _ _ => (pe_ifExp (pt_cmpR (or_le hr.units0) (pv 1) (pe_fldD rfl T.cl_game T.n_game_most (pv 0)) (nomark _)) (pv 1) pe_non)))))
abbrev s_Game_left : Stmt := inClass (topS 13) 3
abbrev N_Game_left : List Str := ["self", "thing"]
theorem sc_Game_left : FnScope N_Game_left ["self"] (defScope s_Game_left) := ⟨rfl, rfl, rfl, by decide +kernel, rfl, by decide +kernel, by decide +kernel⟩
theorem fk_Game_left {P : Program} {mg : Str → Option Value} {base : Heap} {G : Ctx} (T : Tx G mg) (F : MethAt G .game "left" "Game.left" s_Game_left ["self"]) : FnM P G mg base 1 .game "left" ["self"] S_Game_left := by
    refine fnM_mk (k := 0) F sc_Game_left len_Game_left (sem_Game_left G) (fun f cdv A outer s H E hr => ?_)
    have tk := takes_of (X := cxOf (L2.CX P G.w) P G.w G.K mg base N_Game_left "Game.left" (defScope s_Game_left) f cdv A outer s H E) (E := E) rfl rfl rfl rfl
    have po := passes_of (X := cxOf (L2.CX P G.w) P G.w G.K mg base N_Game_left "Game.left" (defScope s_Game_left) f cdv A outer s H E) rfl
    exact (pss_one (ps_ret (pe_lc (own := [("thing", 1)]) (by rfl) sc_Game_left.nd (pi_range1 rfl T.b_range (pa_cons (pe_fldD rfl T.cl_game T.n_game_things (pv 0)) pa_nil)) (blkOk_by (own := [("thing", 1)]) (N := N_Game_left) (sc := defScope s_Game_left) (by decide +kernel)) (fun _ _ _ _ _ => (pg_name (i := 1) sc_Game_left.nd rfl (Or.inl rfl))) (fun _ _ _ _ _ => (pts_one (pt_cmpR (or_le hr.units0) (pe_ix (ix_D rfl) (pe_fldD rfl T.cl_game T.n_game_told (pv 0)) (pv 1) (fun _ _ => rfl)) (pe_fldD rfl T.cl_game T.n_game_most (pv 0)) (nomark _)))) (fun _ _ _ _ _ => (pv 1)))))
abbrev s_Game_counts : Stmt := inClass (topS 13) 4
abbrev N_Game_counts : List Str := ["self", "many"]
theorem sc_Game_counts : FnScope N_Game_counts ["self"] (defScope s_Game_counts) := ⟨rfl, rfl, rfl, by decide +kernel, rfl, by decide +kernel, by decide +kernel⟩
theorem fk_Game_counts {P : Program} {mg : Str → Option Value} {base : Heap} {G : Ctx} (T : Tx G mg) (F : MethAt G .game "counts" "Game.counts" s_Game_counts ["self"]) : FnM P G mg base 1 .game "counts" ["self"] S_Game_counts := by
    refine fnM_mk (k := 0) F sc_Game_counts len_Game_counts (sem_Game_counts G) (fun f cdv A outer s H E hr => ?_)
    have tk := takes_of (X := cxOf (L2.CX P G.w) P G.w G.K mg base N_Game_counts "Game.counts" (defScope s_Game_counts) f cdv A outer s H E) (E := E) rfl rfl rfl rfl
    have po := passes_of (X := cxOf (L2.CX P G.w) P G.w G.K mg base N_Game_counts "Game.counts" (defScope s_Game_counts) f cdv A outer s H E) rfl
    exact (pss_one (ps_ret (pe_callTy (cr_tupleD) (by rfl) T.b_tuple bt_tuple (pa_cons (pe_lc (own := [("many", 1)]) (by rfl) sc_Game_counts.nd (pi_range1 rfl T.b_range (pa_cons (pe_op (or_add rfl) (pe_fldD rfl T.cl_game T.n_game_most (pv 0)) pe_int) pa_nil)) (blkOk_by (own := [("many", 1)]) (N := N_Game_counts) (sc := defScope s_Game_counts) (by decide +kernel)) (fun _ _ _ _ _ => (pg_name (i := 1) sc_Game_counts.nd rfl (Or.inl rfl))) (fun _ _ _ _ _ => pts_nil) (fun _ _ _ _ _ => (pe_bm PySem.F.plainAttrs_list PySem.F.slot_list_count PySem.F.type_list_count (mt_countD (Room.u65 hr)) (pe_fldD rfl T.cl_game T.n_game_told (pv 0)) (pa_cons (pv 1) pa_nil)))) pa_nil))))
abbrev s_Game_asked : Stmt := inClass (topS 13) 5
abbrev N_Game_asked : List Str := ["self", "question", "answer"]
theorem sc_Game_asked : FnScope N_Game_asked ["self"] (defScope s_Game_asked) := ⟨rfl, rfl, rfl, by decide +kernel, rfl, by decide +kernel, by decide +kernel⟩
theorem fk_Game_asked {P : Program} {mg : Str → Option Value} {base : Heap} {G : Ctx} (T : Tx G mg) (F : MethAt G .game "asked" "Game.asked" s_Game_asked ["self"]) : FnM P G mg base 1 .game "asked" ["self"] S_Game_asked := by
    refine fnM_mk (k := 0) F sc_Game_asked len_Game_asked (sem_Game_asked G) (fun f cdv A outer s H E hr => ?_)
    have tk := takes_of (X := cxOf (L2.CX P G.w) P G.w G.K mg base N_Game_asked "Game.asked" (defScope s_Game_asked) f cdv A outer s H E) (E := E) rfl rfl rfl rfl
    have po := passes_of (X := cxOf (L2.CX P G.w) P G.w G.K mg base N_Game_asked "Game.asked" (defScope s_Game_asked) f cdv A outer s H E) rfl
    exact (pss_one (ps_ret (pe_lc (own := [("question", 1), ("answer", 2)]) (by rfl) sc_Game_asked.nd (pi_list (pe_fldD rfl T.cl_game T.n_game_row (pv 0))) (blkOk_by (own := [("question", 1), ("answer", 2)]) (N := N_Game_asked) (sc := defScope s_Game_asked) (by decide +kernel)) (fun _ _ _ _ _ => (pg_tup rfl (pgs_cons (pg_name (i := 1) sc_Game_asked.nd rfl (Or.inl rfl)) (pgs_cons (pg_name (i := 2) sc_Game_asked.nd rfl (Or.inl rfl)) pgs_nil)))) (fun _ _ _ _ _ => pts_nil) (fun _ _ _ _ _ => (pe_tup (pa_cons (pe_callTy (cr_listD) (by rfl) T.b_list bt_list (pa_cons (pv 1) pa_nil)) (pa_cons (pv 2) pa_nil)))))))
abbrev s_Game_back : Stmt := inClass (topS 13) 6
abbrev N_Game_back : List Str := ["self", "question", "answer", "thing"]
theorem sc_Game_back : FnScope N_Game_back ["self"] (defScope s_Game_back) := ⟨rfl, rfl, rfl, by decide +kernel, rfl, by decide +kernel, by decide +kernel⟩
theorem fk_Game_back {P : Program} {mg : Str → Option Value} {base : Heap} {G : Ctx} (T : Tx G mg) (F : MethAt G .game "back" "Game.back" s_Game_back ["self"]) : FnM P G mg base 1 .game "back" ["self"] S_Game_back := by
    refine fnM_mk (k := 0) F sc_Game_back len_Game_back (sem_Game_back G) (fun f cdv A outer s H E hr => ?_)
    have tk := takes_of (X := cxOf (L2.CX P G.w) P G.w G.K mg base N_Game_back "Game.back" (defScope s_Game_back) f cdv A outer s H E) (E := E) rfl rfl rfl rfl
    have po := passes_of (X := cxOf (L2.CX P G.w) P G.w G.K mg base N_Game_back "Game.back" (defScope s_Game_back) f cdv A outer s H E) rfl
    exact (pss_cons (ps_if (pt_not (pt_truD (pe_fldD rfl T.cl_game T.n_game_row (pv 0)))) (pss_one (ps_ret pe_bl)) pss_nil)
    (pss_cons (ps_asg (pe_bm0 PySem.F.plainAttrs_list PySem.F.slot_list_pop PySem.F.type_list_pop (mt_popD) (pe_fldD rfl T.cl_game T.n_game_row (pv 0))) (pg_tup rfl (pgs_cons (pg_name (i := 1) sc_Game_back.nd rfl (Or.inl rfl)) (pgs_cons (pg_name (i := 2) sc_Game_back.nd rfl (Or.inl rfl)) pgs_nil))))
    (pss_cons (ps_for po rfl (pi_range1 rfl T.b_range (pa_cons (pe_fldD rfl T.cl_game T.n_game_things (pv 0)) pa_nil)) (pg_name (i := 3) sc_Game_back.nd rfl (Or.inl rfl)) (pss_one (ps_if (pt_cmpR (or_ne hr.units) (pe_cmpR (or_in (Room.u65 hr)) (pv 3) (pv 1) (by rfl)) (pv 2) (nomark _)) (pss_one (ps_asg (pe_op (or_sub) (pe_ix (ix_D rfl) (pe_fldD rfl T.cl_game T.n_game_told (pv 0)) (pv 3) (fun _ _ => rfl)) pe_int) (pg_sub (pe_fldD rfl T.cl_game T.n_game_told (pv 0)) (pv 3) set_list))) pss_nil)))
    (pss_one (ps_ret pe_bl)))))
abbrev s_look_counts : Stmt := topS 17
abbrev N_look_counts : List Str := ["counts", "many"]
theorem sc_look_counts : FnScope N_look_counts ["counts"] (defScope s_look_counts) := ⟨rfl, rfl, rfl, by decide +kernel, rfl, by decide +kernel, by decide +kernel⟩
theorem fk_look_counts {P : Program} {mg : Str → Option Value} {base : Heap} {G : Ctx} (T : Tx G mg) (F : DefAt G mg "look_counts" "look_counts" s_look_counts ["counts"]) : FnF P G mg base 1 "look_counts" ["counts"] S_look_counts := by
    refine fnF_mk (k := 0) F sc_look_counts len_look_counts (sem_look_counts G) (fun f cdv A outer s H E hr => ?_)
    have tk := takes_of (X := cxOf (L2.CX P G.w) P G.w G.K mg base N_look_counts "look_counts" (defScope s_look_counts) f cdv A outer s H E) (E := E) rfl rfl rfl rfl
    have po := passes_of (X := cxOf (L2.CX P G.w) P G.w G.K mg base N_look_counts "look_counts" (defScope s_look_counts) f cdv A outer s H E) rfl
    exact (pss_one (ps_if (PW.pt (pw_or (pt_not (pt_chain (or_le hr.units0) (or_le hr.units0) pe_int (pe_callB (cr_len rfl) (by rfl) T.b_len PySem.boot_len (pa_cons (pv 0) pa_nil)) pe_int)) (pw_or1 (pt_not (pt_truD (pe_callB (cr_allD rfl) (by rfl) T.b_all bt_all (pa_cons (pe_lc (own := [("many", 1)]) (by rfl) sc_look_counts.nd (pi_tup (pv 0)) (blkOk_by (own := [("many", 1)]) (N := N_look_counts) (sc := defScope s_look_counts) (by decide +kernel)) (fun _ _ _ _ _ => (pg_name (i := 1) sc_look_counts.nd rfl (Or.inl rfl))) (fun _ _ _ _ _ => pts_nil) (fun _ _ _ _ _ => (pe_chain (or_le hr.units0) (or_le hr.units0) pe_int (pv 1) (pe_globI T.c_MOST_COUNT rfl)))) pa_nil))))))) (pss_one (ps_raiseE rfl tk rfl T.e_counts rfl)) pss_nil))
abbrev s_look_questions : Stmt := topS 18
abbrev N_look_questions : List Str := ["many"]
theorem sc_look_questions : FnScope N_look_questions ["many"] (defScope s_look_questions) := ⟨rfl, rfl, rfl, by decide +kernel, rfl, by decide +kernel, by decide +kernel⟩
theorem fk_look_questions {P : Program} {mg : Str → Option Value} {base : Heap} {G : Ctx} (T : Tx G mg) (F : DefAt G mg "look_questions" "look_questions" s_look_questions ["many"]) : FnF P G mg base 1 "look_questions" ["many"] S_look_questions := by
    refine fnF_mk (k := 0) F sc_look_questions len_look_questions (sem_look_questions G) (fun f cdv A outer s H E hr => ?_)
    have tk := takes_of (X := cxOf (L2.CX P G.w) P G.w G.K mg base N_look_questions "look_questions" (defScope s_look_questions) f cdv A outer s H E) (E := E) rfl rfl rfl rfl
    have po := passes_of (X := cxOf (L2.CX P G.w) P G.w G.K mg base N_look_questions "look_questions" (defScope s_look_questions) f cdv A outer s H E) rfl
    exact (pss_one (ps_if (pt_not (pt_chain (or_le hr.units0) (or_le hr.units0) pe_int (pv 0) (pe_globI T.c_MOST_QUESTIONS rfl))) (pss_one (ps_raiseE rfl tk rfl T.e_counts rfl)) pss_nil))
abbrev s_choices : Stmt := topS 19
abbrev N_choices : List Str := ["many", "most", "found", "here", "k"]
theorem sc_choices : FnScope N_choices ["many", "most"] (defScope s_choices) := ⟨rfl, rfl, rfl, by decide +kernel, rfl, by decide +kernel, by decide +kernel⟩
theorem fk_choices {P : Program} {mg : Str → Option Value} {base : Heap} {G : Ctx} (T : Tx G mg) (F : DefAt G mg "choices" "choices" s_choices ["many", "most"]) : FnF P G mg base 1 "choices" ["many", "most"] S_choices := by
    refine fnF_mk (k := 0) F sc_choices len_choices (sem_choices G) (fun f cdv A outer s H E hr => ?_)
    have tk := takes_of (X := cxOf (L2.CX P G.w) P G.w G.K mg base N_choices "choices" (defScope s_choices) f cdv A outer s H E) (E := E) rfl rfl rfl rfl
    have po := passes_of (X := cxOf (L2.CX P G.w) P G.w G.K mg base N_choices "choices" (defScope s_choices) f cdv A outer s H E) rfl
    exact (pss_cons (ps_set (i := 2) sc_choices.nd rfl (Or.inl rfl) pe_int)
    (pss_cons (ps_set (i := 3) sc_choices.nd rfl (Or.inl rfl) pe_int)
    (pss_cons (ps_for po rfl (pi_range1 rfl T.b_range (pa_cons (pe_op (or_add rfl) (pe_callB (cr_minD rfl) (by rfl) T.b_min bt_min (pa_cons (pv 0) (pa_cons (pv 1) pa_nil))) pe_int) pa_nil)) (pg_name (i := 4) sc_choices.nd rfl (Or.inl rfl)) (pss_cons (ps_set (i := 2) sc_choices.nd rfl (Or.inl rfl) (pe_op (or_add rfl) (pv 2) (pv 3)))
    (pss_one (ps_set (i := 3) sc_choices.nd rfl (Or.inl rfl) (pe_op (or_div) (pe_op (or_mul) (pv 3) (pe_op (or_sub) (pv 0) (pv 4))) (pe_op (or_add rfl) (pv 4) pe_int))))))
    (pss_one (ps_ret (pv 2))))))
abbrev s_two_to : Stmt := topS 21
abbrev N_two_to : List Str := ["many", "found", "k"]
theorem sc_two_to : FnScope N_two_to ["many"] (defScope s_two_to) := ⟨rfl, rfl, rfl, by decide +kernel, rfl, by decide +kernel, by decide +kernel⟩
theorem fk_two_to {P : Program} {mg : Str → Option Value} {base : Heap} {G : Ctx} (T : Tx G mg) (F : DefAt G mg "two_to" "two_to" s_two_to ["many"]) : FnF P G mg base 1 "two_to" ["many"] S_two_to := by
    refine fnF_mk (k := 0) F sc_two_to len_two_to (sem_two_to G) (fun f cdv A outer s H E hr => ?_)
    have tk := takes_of (X := cxOf (L2.CX P G.w) P G.w G.K mg base N_two_to "two_to" (defScope s_two_to) f cdv A outer s H E) (E := E) rfl rfl rfl rfl
    have po := passes_of (X := cxOf (L2.CX P G.w) P G.w G.K mg base N_two_to "two_to" (defScope s_two_to) f cdv A outer s H E) rfl
    exact (pss_cons (ps_set (i := 1) sc_two_to.nd rfl (Or.inl rfl) pe_int)
    (pss_cons (ps_for po rfl (pi_range1 rfl T.b_range (pa_cons (pv 0) pa_nil)) (pg_name (i := 2) sc_two_to.nd rfl (Or.inl rfl)) (pss_one (ps_set (i := 1) sc_two_to.nd rfl (Or.inl rfl) (pe_op (or_mul) pe_int (pv 1)))))
    (pss_one (ps_ret (pv 1)))))
abbrev s_weight : Stmt := topS 20
abbrev N_weight : List Str := ["counts", "many", "found", "k"]
theorem sc_weight : FnScope N_weight ["counts", "many"] (defScope s_weight) := ⟨rfl, rfl, rfl, by decide +kernel, rfl, by decide +kernel, by decide +kernel⟩
theorem fk_weight {P : Program} {mg : Str → Option Value} {base : Heap} {G : Ctx} (T : Tx G mg) (F : DefAt G mg "weight" "weight" s_weight ["counts", "many"]) (h_look_counts : FnF P G mg base 1 "look_counts" ["counts"] S_look_counts) (h_look_questions : FnF P G mg base 1 "look_questions" ["many"] S_look_questions) (h_choices : FnF P G mg base 1 "choices" ["many", "most"] S_choices) : FnF P G mg base 2 "weight" ["counts", "many"] S_weight := by
    refine fnF_mk (k := 1) F sc_weight len_weight (sem_weight G) (fun f cdv A outer s H E hr => ?_)
    have tk := takes_of (X := cxOf (L2.CX P G.w) P G.w G.K mg base N_weight "weight" (defScope s_weight) f cdv A outer s H E) (E := E) rfl rfl rfl rfl
    have po := passes_of (X := cxOf (L2.CX P G.w) P G.w G.K mg base N_weight "weight" (defScope s_weight) f cdv A outer s H E) rfl
    exact (pss_cons (ps_expr (pe_callF h_look_counts rfl rfl (hr.mono (by decide)) tk (by rfl) (pa_cons (pv 0) pa_nil)))
    (pss_cons (ps_expr (pe_callF h_look_questions rfl rfl (hr.mono (by decide)) tk (by rfl) (pa_cons (pv 1) pa_nil)))
    (pss_cons (ps_set (i := 2) sc_weight.nd rfl (Or.inl rfl) pe_int)
    (pss_cons (ps_for po rfl (pi_range1 rfl T.b_range (pa_cons (pe_callB (cr_len rfl) (by rfl) T.b_len PySem.boot_len (pa_cons (pv 0) pa_nil)) pa_nil)) (pg_name (i := 3) sc_weight.nd rfl (Or.inl rfl)) (pss_one (ps_set (i := 2) sc_weight.nd rfl (Or.inl rfl) (pe_op (or_add rfl) (pv 2) (pe_op (or_mul) (pe_ix (ix_D rfl) (pv 0) (pv 3) (fun _ _ => rfl)) (pe_callF h_choices rfl rfl (hr.mono (by decide)) tk (by rfl) (pa_cons (pv 1) (pa_cons (pe_op (or_sub) (pe_op (or_sub) (pe_callB (cr_len rfl) (by rfl) T.b_len PySem.boot_len (pa_cons (pv 0) pa_nil)) pe_int) (pv 3)) pa_nil))))))))
    (pss_one (ps_ret (pv 2)))))))
abbrev s_behind : Stmt := topS 22
abbrev N_behind : List Str := ["counts", "part", "rest", "yes", "no", "k"]
theorem sc_behind : FnScope N_behind ["counts", "part"] (defScope s_behind) := ⟨rfl, rfl, rfl, by decide +kernel, rfl, by decide +kernel, by decide +kernel⟩
theorem fk_behind {P : Program} {mg : Str → Option Value} {base : Heap} {G : Ctx} (T : Tx G mg) (F : DefAt G mg "behind" "behind" s_behind ["counts", "part"]) (h_look_counts : FnF P G mg base 1 "look_counts" ["counts"] S_look_counts) : FnF P G mg base 2 "behind" ["counts", "part"] S_behind := by
    refine fnF_mk (k := 1) F sc_behind len_behind (sem_behind G) (fun f cdv A outer s H E hr => ?_)
    have tk := takes_of (X := cxOf (L2.CX P G.w) P G.w G.K mg base N_behind "behind" (defScope s_behind) f cdv A outer s H E) (E := E) rfl rfl rfl rfl
    have po := passes_of (X := cxOf (L2.CX P G.w) P G.w G.K mg base N_behind "behind" (defScope s_behind) f cdv A outer s H E) rfl
    exact (pss_cons (ps_expr (pe_callF h_look_counts rfl rfl (hr.mono (by decide)) tk (by rfl) (pa_cons (pv 0) pa_nil)))
    (pss_cons (ps_if (PW.pt (pw_or (pt_cmpR (or_ne hr.units) (pe_callB (cr_len rfl) (by rfl) T.b_len PySem.boot_len (pa_cons (pv 1) pa_nil)) (pe_callB (cr_len rfl) (by rfl) T.b_len PySem.boot_len (pa_cons (pv 0) pa_nil)) (nomark _)) (pw_or1 (pt_not (pt_truD (pe_callB (cr_allD rfl) (by rfl) T.b_all bt_all (pa_cons (pe_lc (own := [("k", 5)]) (by rfl) sc_behind.nd (pi_range1 rfl T.b_range (pa_cons (pe_callB (cr_len rfl) (by rfl) T.b_len PySem.boot_len (pa_cons (pv 0) pa_nil)) pa_nil)) (blkOk_by (own := [("k", 5)]) (N := N_behind) (sc := defScope s_behind) (by decide +kernel)) (fun _ _ _ _ _ => (pg_name (i := 5) sc_behind.nd rfl (Or.inl rfl))) (fun _ _ _ _ _ => pts_nil) (fun _ _ _ _ _ => (pe_chain (or_le hr.units0) (or_le hr.units0) pe_int (pe_ix (ix_D rfl) (pv 1) (pv 5) (fun _ _ => rfl)) (pe_ix (ix_D rfl) (pv 0) (pv 5) (fun _ _ => rfl))))) pa_nil))))))) (pss_one (ps_raiseE rfl tk rfl T.e_counts rfl)) pss_nil)
    (pss_cons (ps_set (i := 2) sc_behind.nd rfl (Or.inr rfl) (pe_lc (own := [("k", 5)]) (by rfl) sc_behind.nd (pi_range1 rfl T.b_range (pa_cons (pe_callB (cr_len rfl) (by rfl) T.b_len PySem.boot_len (pa_cons (pv 0) pa_nil)) pa_nil)) (blkOk_by (own := [("k", 5)]) (N := N_behind) (sc := defScope s_behind) (by decide +kernel)) (fun _ _ _ _ _ => (pg_name (i := 5) sc_behind.nd rfl (Or.inl rfl))) (fun _ _ _ _ _ => pts_nil) (fun _ _ _ _ _ => (pe_op (or_sub) (pe_ix (ix_D rfl) (pv 0) (pv 5) (fun _ _ => rfl)) (pe_ix (ix_D rfl) (pv 1) (pv 5) (fun _ _ => rfl))))))
    (pss_cons (ps_set (i := 3) sc_behind.nd rfl (Or.inl rfl) (pe_callTy (cr_tupleD) (by rfl) T.b_tuple bt_tuple (pa_cons (pe_lc (own := [("k", 5)]) (by rfl) sc_behind.nd (pi_range1 rfl T.b_range (pa_cons (pe_callB (cr_len rfl) (by rfl) T.b_len PySem.boot_len (pa_cons (pv 0) pa_nil)) pa_nil)) (blkOk_by (own := [("k", 5)]) (N := N_behind) (sc := defScope s_behind) (by decide +kernel)) (fun _ _ _ _ _ => (pg_name (i := 5) sc_behind.nd rfl (Or.inl rfl))) (fun _ _ _ _ _ => pts_nil) (fun _ _ _ _ _ => (pe_op (or_add rfl) (pe_ix (ix_D rfl) (pv 1) (pv 5) (fun _ _ => rfl)) (pe_ifExp (pt_cmpR (or_gt) (pv 5) pe_int (nomark _)) (pe_ix (ix_D rfl) (pv 2) (pe_op (or_sub) (pv 5) pe_int) (fun _ _ => rfl)) pe_int)))) pa_nil)))
    (pss_cons (ps_set (i := 4) sc_behind.nd rfl (Or.inl rfl) (pe_callTy (cr_tupleD) (by rfl) T.b_tuple bt_tuple (pa_cons (pe_lc (own := [("k", 5)]) (by rfl) sc_behind.nd (pi_range1 rfl T.b_range (pa_cons (pe_callB (cr_len rfl) (by rfl) T.b_len PySem.boot_len (pa_cons (pv 0) pa_nil)) pa_nil)) (blkOk_by (own := [("k", 5)]) (N := N_behind) (sc := defScope s_behind) (by decide +kernel)) (fun _ _ _ _ _ => (pg_name (i := 5) sc_behind.nd rfl (Or.inl rfl))) (fun _ _ _ _ _ => pts_nil) (fun _ _ _ _ _ => (pe_op (or_add rfl) (pe_ix (ix_D rfl) (pv 2) (pv 5) (fun _ _ => rfl)) (pe_ifExp (pt_cmpR (or_gt) (pv 5) pe_int (nomark _)) (pe_ix (ix_D rfl) (pv 1) (pe_op (or_sub) (pv 5) pe_int) (fun _ _ => rfl)) pe_int)))) pa_nil)))
    (pss_one (ps_ret (pe_tup (pa_cons (pv 3) (pa_cons (pv 4) pa_nil))))))))))
abbrev s_bound : Stmt := topS 23
abbrev N_bound : List Str := ["counts", "many"]
theorem sc_bound : FnScope N_bound ["counts"] (defScope s_bound) := ⟨rfl, rfl, rfl, by decide +kernel, rfl, by decide +kernel, by decide +kernel⟩
theorem fk_bound {P : Program} {mg : Str → Option Value} {base : Heap} {G : Ctx} (T : Tx G mg) (F : DefAt G mg "bound" "bound" s_bound ["counts"]) (h_look_counts : FnF P G mg base 1 "look_counts" ["counts"] S_look_counts) (h_weight : FnF P G mg base 2 "weight" ["counts", "many"] S_weight) (h_two_to : FnF P G mg base 1 "two_to" ["many"] S_two_to) : FnF P G mg base 3 "bound" ["counts"] S_bound := by
    refine fnF_mk (k := 2) F sc_bound len_bound (sem_bound G) (fun f cdv A outer s H E hr => ?_)
    have tk := takes_of (X := cxOf (L2.CX P G.w) P G.w G.K mg base N_bound "bound" (defScope s_bound) f cdv A outer s H E) (E := E) rfl rfl rfl rfl
    have po := passes_of (X := cxOf (L2.CX P G.w) P G.w G.K mg base N_bound "bound" (defScope s_bound) f cdv A outer s H E) rfl
    exact (pss_cons (ps_expr (pe_callF h_look_counts rfl rfl (hr.mono (by decide)) tk (by rfl) (pa_cons (pv 0) pa_nil)))
    (pss_cons (ps_set (i := 1) sc_bound.nd rfl (Or.inl rfl) pe_int)
    (pss_cons (ps_while po (PW.pt (pw_and (pt_cmpR (or_gt) (pe_callB (cr_sumD rfl) (by rfl) T.b_sum bt_sum (pa_cons (pv 0) pa_nil)) pe_int (nomark _)) (pw_and1 (pt_cmpR (or_gt) (pe_callF h_weight rfl rfl (hr.mono (by decide)) tk (by rfl) (pa_cons (pv 0) (pa_cons (pv 1) pa_nil))) (pe_callF h_two_to rfl rfl (hr.mono (by decide)) tk (by rfl) (pa_cons (pv 1) pa_nil)) (nomark _))))) (pss_one (ps_set (i := 1) sc_bound.nd rfl (Or.inl rfl) (pe_op (or_add rfl) (pv 1) pe_int))))
    (pss_one (ps_ret (pv 1))))))
abbrev s_look_small : Stmt := topS 26
abbrev N_look_small : List Str := ["counts"]
theorem sc_look_small : FnScope N_look_small ["counts"] (defScope s_look_small) := ⟨rfl, rfl, rfl, by decide +kernel, rfl, by decide +kernel, by decide +kernel⟩
theorem fk_look_small {P : Program} {mg : Str → Option Value} {base : Heap} {G : Ctx} (T : Tx G mg) (F : DefAt G mg "look_small" "look_small" s_look_small ["counts"]) (h_look_counts : FnF P G mg base 1 "look_counts" ["counts"] S_look_counts) : FnF P G mg base 2 "look_small" ["counts"] S_look_small := by
    refine fnF_mk (k := 1) F sc_look_small len_look_small (sem_look_small G) (fun f cdv A outer s H E hr => ?_)
    have tk := takes_of (X := cxOf (L2.CX P G.w) P G.w G.K mg base N_look_small "look_small" (defScope s_look_small) f cdv A outer s H E) (E := E) rfl rfl rfl rfl
    have po := passes_of (X := cxOf (L2.CX P G.w) P G.w G.K mg base N_look_small "look_small" (defScope s_look_small) f cdv A outer s H E) rfl
    exact (pss_cons (ps_expr (pe_callF h_look_counts rfl rfl (hr.mono (by decide)) tk (by rfl) (pa_cons (pv 0) pa_nil)))
    (pss_one (ps_if (PW.pt (pw_or (pt_cmpR (or_gt) (pe_callB (cr_sumD rfl) (by rfl) T.b_sum bt_sum (pa_cons (pv 0) pa_nil)) (pe_globI T.c_MOST_THINGS_plans rfl) (nomark _)) (pw_or1 (pt_cmpR (or_gt) (pe_callB (cr_len rfl) (by rfl) T.b_len PySem.boot_len (pa_cons (pv 0) pa_nil)) pe_int (nomark _))))) (pss_one (ps_raiseE rfl tk rfl T.e_counts rfl)) pss_nil)))
abbrev s_unevenness : Stmt := topS 28
abbrev N_unevenness : List Str := ["counts", "part", "k"]
theorem sc_unevenness : FnScope N_unevenness ["counts", "part"] (defScope s_unevenness) := ⟨rfl, rfl, rfl, by decide +kernel, rfl, by decide +kernel, by decide +kernel⟩
theorem fk_unevenness {P : Program} {mg : Str → Option Value} {base : Heap} {G : Ctx} (T : Tx G mg) (F : DefAt G mg "unevenness" "unevenness" s_unevenness ["counts", "part"]) : FnF P G mg base 1 "unevenness" ["counts", "part"] S_unevenness := by
    refine fnF_mk (k := 0) F sc_unevenness len_unevenness (sem_unevenness G) (fun f cdv A outer s H E hr => ?_)
    have tk := takes_of (X := cxOf (L2.CX P G.w) P G.w G.K mg base N_unevenness "unevenness" (defScope s_unevenness) f cdv A outer s H E) (E := E) rfl rfl rfl rfl
    have po := passes_of (X := cxOf (L2.CX P G.w) P G.w G.K mg base N_unevenness "unevenness" (defScope s_unevenness) f cdv A outer s H E) rfl
    exact (pss_one (ps_ret (pe_callB (cr_sumD rfl) (by rfl) T.b_sum bt_sum (pa_cons (pe_lc (own := [("k", 2)]) (by rfl) sc_unevenness.nd (pi_range1 rfl T.b_range (pa_cons (pe_callB (cr_len rfl) (by rfl) T.b_len PySem.boot_len (pa_cons (pv 0) pa_nil)) pa_nil)) (blkOk_by (own := [("k", 2)]) (N := N_unevenness) (sc := defScope s_unevenness) (by decide +kernel)) (fun _ _ _ _ _ => (pg_name (i := 2) sc_unevenness.nd rfl (Or.inl rfl))) (fun _ _ _ _ _ => pts_nil) (fun _ _ _ _ _ => (pe_op (or_mul) (pe_callB (cr_abs) (by rfl) T.b_abs bt_abs (pa_cons (pe_op (or_sub) (pe_ix (ix_D rfl) (pv 0) (pv 2) (fun _ _ => rfl)) (pe_op (or_mul) pe_int (pe_ix (ix_D rfl) (pv 1) (pv 2) (fun _ _ => rfl)))) pa_nil)) (pe_op (or_sub) (pe_callB (cr_len rfl) (by rfl) T.b_len PySem.boot_len (pa_cons (pv 0) pa_nil)) (pv 2))))) pa_nil))))
abbrev s_parts : Stmt := topS 27
abbrev N_parts : List Str := ["counts", "found", "many", "longer", "part", "some", "k", "far"]
theorem sc_parts : FnScope N_parts ["counts"] (defScope s_parts) := ⟨rfl, rfl, rfl, by decide +kernel, rfl, by decide +kernel, by decide +kernel⟩
theorem fk_parts {P : Program} {mg : Str → Option Value} {base : Heap} {G : Ctx} (T : Tx G mg) (F : DefAt G mg "parts" "parts" s_parts ["counts"]) (h_unevenness : FnF P G mg base 1 "unevenness" ["counts", "part"] S_unevenness) : FnF P G mg base 2 "parts" ["counts"] S_parts := by
    refine fnF_mk (k := 1) F sc_parts len_parts (sem_parts G) (fun f cdv A outer s H E hr => ?_)
    have tk := takes_of (X := cxOf (L2.CX P G.w) P G.w G.K mg base N_parts "parts" (defScope s_parts) f cdv A outer s H E) (E := E) rfl rfl rfl rfl
    have po := passes_of (X := cxOf (L2.CX P G.w) P G.w G.K mg base N_parts "parts" (defScope s_parts) f cdv A outer s H E) rfl
    exact (pss_cons (ps_set (i := 1) sc_parts.nd rfl (Or.inl rfl) (pe_lst (pa_cons (pe_tup pa_nil) pa_nil)))
    (pss_cons (ps_for po rfl (pi_tup (pv 0)) (pg_name (i := 2) sc_parts.nd rfl (Or.inl rfl)) (pss_cons (ps_set (i := 3) sc_parts.nd rfl (Or.inl rfl) (pe_lstO pa_nil))
    (pss_cons (ps_for po rfl (pi_list (pv 1)) (pg_name (i := 4) sc_parts.nd rfl (Or.inr rfl)) (pss_one (ps_expr (pe_bm PySem.F.plainAttrs_list PySem.F.slot_list_extend PySem.F.type_list_extend (mt_extendD) (pv 3) (pa_cons (pe_lc (own := [("k", 6)]) (by rfl) sc_parts.nd (pi_range1 rfl T.b_range (pa_cons (pe_op (or_add rfl) (pv 2) pe_int) pa_nil)) (blkOk_by (own := [("k", 6)]) (N := N_parts) (sc := defScope s_parts) (by decide +kernel)) (fun _ _ _ _ _ => (pg_name (i := 6) sc_parts.nd rfl (Or.inl rfl))) (fun _ _ _ _ _ => pts_nil) (fun _ _ _ _ _ => (pe_op (or_add rfl) (pv 4) (pe_tup (pa_cons (pv 6) pa_nil))))) pa_nil)))))
    (pss_one (ps_set (i := 1) sc_parts.nd rfl (Or.inl rfl) (pv 3))))))
    (pss_cons (ps_setLc (i := 5) (own := [("part", 4)]) (by rfl) sc_parts.nd rfl rfl (sw_true rfl rfl rfl (by decide +kernel)) (pi_list (pv 1)) (blkOk_by (own := [("part", 4)]) (N := N_parts) (sc := defScope s_parts) (by decide +kernel)) (fun _ _ _ _ _ => (pg_name (i := 4) sc_parts.nd rfl (Or.inr rfl))) (fun _ _ _ _ _ => (pts_one (pt_cmpR (or_le hr.units0) (pv 4) (pe_callTy (cr_tupleD) (by rfl) T.b_tuple bt_tuple (pa_cons (pe_lc (own := [("k", 6)]) (by rfl) sc_parts.nd (pi_range1 rfl T.b_range (pa_cons (pe_callB (cr_len rfl) (by rfl) T.b_len PySem.boot_len (pa_cons (pv 0) pa_nil)) pa_nil)) (blkOk_re (blkOk_by (own := [("k", 6)]) (N := N_parts) (by decide +kernel))) (fun _ _ _ _ _ => (pg_name (i := 6) sc_parts.nd rfl (Or.inl rfl))) (fun _ _ _ _ _ => pts_nil) (fun _ _ _ _ _ => (pe_op (or_sub) (pe_ix (ix_D rfl) (pv 0) (pv 6) (fun _ _ => rfl)) (pe_ix (ix_D rfl) (pv 4) (pv 6) (fun _ _ => rfl))))) pa_nil)) (nomark _)))) (fun _ _ _ _ _ => (pv 4)))
    (pss_one (ps_ret (pe_lc (own := [("far", 7), ("part", 4)]) (by rfl) sc_parts.nd (pi_list (pe_callB (cr_sortP (Room.u100 hr)) (by rfl) T.b_sorted bt_sorted (pa_cons (pe_lc (own := [("part", 4)]) (by rfl) sc_parts.nd (pi_list (pv 5)) (blkOk_by (own := [("part", 4)]) (N := N_parts) (sc := defScope s_parts) (by decide +kernel)) (fun _ _ _ _ _ => (pg_name (i := 4) sc_parts.nd rfl (Or.inl rfl))) (fun _ _ _ _ _ => pts_nil) (fun _ _ _ _ _ => (pe_tup (pa_cons (pe_callF h_unevenness rfl rfl (hr.mono (by decide)) takes0 (by rfl) (pa_cons (pv 0) (pa_cons (pv 4) pa_nil))) (pa_cons (pv 4) pa_nil))))) pa_nil))) (blkOk_by (own := [("far", 7), ("part", 4)]) (N := N_parts) (sc := defScope s_parts) (by decide +kernel)) (fun _ _ _ _ _ => (pg_tup rfl (pgs_cons (pg_name (i := 7) sc_parts.nd rfl (Or.inl rfl)) (pgs_cons (pg_name (i := 4) sc_parts.nd rfl (Or.inl rfl)) pgs_nil)))) (fun _ _ _ _ _ => pts_nil) (fun _ _ _ _ _ => (pv 4))))))))
abbrev s_Worker___init__ : Stmt := inClass (topS 29) 0
abbrev N_Worker___init__ : List Str := ["self"]
theorem sc_Worker___init__ : FnScope N_Worker___init__ ["self"] (defScope s_Worker___init__) := ⟨rfl, rfl, rfl, by decide +kernel, rfl, by decide +kernel, by decide +kernel⟩
theorem fk_Worker___init__ {P : Program} {mg : Str → Option Value} {base : Heap} {G : Ctx} (T : Tx G mg) (F : MethAt G .worker "__init__" "Worker.__init__" s_Worker___init__ ["self"]) : FnM P G mg base 1 .worker "__init__" ["self"] S_Worker___init__ := by
    refine fnM_mk (k := 0) F sc_Worker___init__ len_Worker___init__ (sem_Worker___init__ G) (fun f cdv A outer s H E hr => ?_)
    have tk := takes_of (X := cxOf (L2.CX P G.w) P G.w G.K mg base N_Worker___init__ "Worker.__init__" (defScope s_Worker___init__) f cdv A outer s H E) (E := E) rfl rfl rfl rfl
    have po := passes_of (X := cxOf (L2.CX P G.w) P G.w G.K mg base N_Worker___init__ "Worker.__init__" (defScope s_Worker___init__) f cdv A outer s H E) rfl
    exact (pss_one (ps_fldD rfl T.cl_worker T.n_worker_known (pv 0) (pe_dnew rfl)))
abbrev s_Worker_found : Stmt := inClass (topS 29) 2
abbrev N_Worker_found : List Str := ["self", "counts", "many", "part", "yes", "no"]
theorem sc_Worker_found : FnScope N_Worker_found ["self", "counts", "many"] (defScope s_Worker_found) := ⟨rfl, rfl, rfl, by decide +kernel, rfl, by decide +kernel, by decide +kernel⟩
abbrev s_Worker_can : Stmt := inClass (topS 29) 1
abbrev N_Worker_can : List Str := ["self", "counts", "many", "key"]
theorem sc_Worker_can : FnScope N_Worker_can ["self", "counts", "many"] (defScope s_Worker_can) := ⟨rfl, rfl, rfl, by decide +kernel, rfl, by decide +kernel, by decide +kernel⟩
theorem fa_Worker_can {P : Program} {mg : Str → Option Value} {base : Heap} {G : Ctx} (T : Tx G mg) (F : MethAt G .worker "can" "Worker.can" s_Worker_can ["self", "counts", "many"]) (F2 : MethAt G .worker "found" "Worker.found" s_Worker_found ["self", "counts", "many"]) (h_bound : FnF P G mg base 3 "bound" ["counts"] S_bound) (h_parts : FnF P G mg base 2 "parts" ["counts"] S_parts) (h_behind : FnF P G mg base 2 "behind" ["counts", "part"] S_behind) : ∀ n : Nat, FnM P G mg base (3 + 2 * n) .worker "can" ["self", "counts", "many"] (S_Worker_canAt n)
  | 0 => fnM_none F (fun es m R XR h => no_Worker_can h)
  | n + 1 => by
    have h_Worker_can := fa_Worker_can (P := P) (base := base) T F F2 h_bound h_parts h_behind n
    have h_Worker_found : FnM P G mg base (3 + 2 * n + 1) .worker "found" ["self", "counts", "many"] (S_Worker_foundAt (n + 1)) := by
      refine fnM_mk (k := 3 + 2 * n) F2 sc_Worker_found (len_Worker_found (n + 1)) (sem_Worker_found G n) (fun f cdv A outer s H E hr => ?_)
      have tk := takes_of (X := cxOf (L2.CX P G.w) P G.w G.K mg base N_Worker_found "Worker.found" (defScope s_Worker_found) f cdv A outer s H E) (E := E) rfl rfl rfl rfl
      have po := passes_of (X := cxOf (L2.CX P G.w) P G.w G.K mg base N_Worker_found "Worker.found" (defScope s_Worker_found) f cdv A outer s H E) rfl
      exact (pss_cons (ps_for po rfl (pi_list (pe_callF h_parts rfl rfl (hr.mono (by omega)) tk (by rfl) (pa_cons (pv 1) pa_nil))) (pg_name (i := 3) sc_Worker_found.nd rfl (Or.inl rfl)) (pss_cons (ps_asg (pe_callF h_behind rfl rfl (hr.mono (by omega)) tk (by rfl) (pa_cons (pv 1) (pa_cons (pv 3) pa_nil))) (pg_tup rfl (pgs_cons (pg_name (i := 4) sc_Worker_found.nd rfl (Or.inl rfl)) (pgs_cons (pg_name (i := 5) sc_Worker_found.nd rfl (Or.inl rfl)) pgs_nil))))
    (pss_one (ps_if (PW.pt (pw_and (pt_cmpR (or_isnot) (pe_methD h_Worker_can rfl rfl T.cl_worker (hr.mono (by omega)) tk (pv 0) (pa_cons (pv 4) (pa_cons (pe_op (or_sub) (pv 2) pe_int) pa_nil))) pe_non (nomark _)) (pw_and1 (pt_cmpR (or_isnot) (pe_methD h_Worker_can rfl rfl T.cl_worker (hr.mono (by omega)) tk (pv 0) (pa_cons (pv 5) (pa_cons (pe_op (or_sub) (pv 2) pe_int) pa_nil))) pe_non (nomark _))))) (pss_one (ps_ret (pv 3))) pss_nil))))
    (pss_one (ps_ret pe_non)))
    rw [show 3 + 2 * (n + 1) = 3 + 2 * n + 1 + 1 by omega]
    refine fnM_mk (k := 3 + 2 * n + 1) F sc_Worker_can (len_Worker_can (n + 1)) (sem_Worker_can G (n + 1)) (fun f cdv A outer s H E hr => ?_)
    have tk := takes_of (X := cxOf (L2.CX P G.w) P G.w G.K mg base N_Worker_can "Worker.can" (defScope s_Worker_can) f cdv A outer s H E) (E := E) rfl rfl rfl rfl
    have po := passes_of (X := cxOf (L2.CX P G.w) P G.w G.K mg base N_Worker_can "Worker.can" (defScope s_Worker_can) f cdv A outer s H E) rfl
    exact (pss_cons (ps_if (pt_cmpR (or_le hr.units0) (pe_callB (cr_sumD rfl) (by rfl) T.b_sum bt_sum (pa_cons (pv 1) pa_nil)) pe_int (nomark _)) (pss_one (ps_ret (pe_tup pa_nil))) pss_nil)
    (pss_cons (ps_if (pt_cmpR (or_lt hr.units0) (pv 2) (pe_callF h_bound rfl rfl (hr.mono (by omega)) tk (by rfl) (pa_cons (pv 1) pa_nil)) (nomark _)) (pss_one (ps_ret pe_non)) pss_nil)
    (pss_cons (ps_set (i := 3) sc_Worker_can.nd rfl (Or.inl rfl) (pe_tup (pa_cons (pv 1) (pa_cons (pv 2) pa_nil))))
    (pss_cons (ps_if (pt_cmpR (or_notinD rfl (Room.u65 hr)) (pv 3) (pe_fldD rfl T.cl_worker T.n_worker_known (pv 0)) (by rfl)) (pss_one (ps_dset rfl (Room.u65 hr) (pe_fldD rfl T.cl_worker T.n_worker_known (pv 0)) (pv 3) (pe_methD h_Worker_found rfl rfl T.cl_worker (hr.mono (by omega)) tk (pv 0) (pa_cons (pv 1) (pa_cons (pv 2) pa_nil))))) pss_nil)
    (pss_one (ps_ret (pe_ix (ix_DD rfl (Room.u65 hr)) (pe_fldD rfl T.cl_worker T.n_worker_known (pv 0)) (pv 3) (fun _ _ => rfl))))))))
theorem fk_Worker_can {P : Program} {mg : Str → Option Value} {base : Heap} {G : Ctx} (T : Tx G mg) (F : MethAt G .worker "can" "Worker.can" s_Worker_can ["self", "counts", "many"]) (F2 : MethAt G .worker "found" "Worker.found" s_Worker_found ["self", "counts", "many"]) (h_bound : FnF P G mg base 3 "bound" ["counts"] S_bound) (h_parts : FnF P G mg base 2 "parts" ["counts"] S_parts) (h_behind : FnF P G mg base 2 "behind" ["counts", "part"] S_behind) : FnM P G mg base 127 .worker "can" ["self", "counts", "many"] S_Worker_can := fa_Worker_can T F F2 h_bound h_parts h_behind 62
abbrev s_least : Stmt := topS 30
abbrev N_least : List Str := ["counts", "worker", "many"]
theorem sc_least : FnScope N_least ["counts"] (defScope s_least) := ⟨rfl, rfl, rfl, by decide +kernel, rfl, by decide +kernel, by decide +kernel⟩
theorem fk_least {P : Program} {mg : Str → Option Value} {base : Heap} {G : Ctx} (T : Tx G mg) (F : DefAt G mg "least" "least" s_least ["counts"]) (h_look_small : FnF P G mg base 2 "look_small" ["counts"] S_look_small) (h_Worker___init__ : FnM P G mg base 1 .worker "__init__" ["self"] S_Worker___init__) (h_bound : FnF P G mg base 3 "bound" ["counts"] S_bound) (h_Worker_can : FnM P G mg base 127 .worker "can" ["self", "counts", "many"] S_Worker_can) : FnF P G mg base 128 "least" ["counts"] S_least := by
    refine fnF_mk (k := 127) F sc_least len_least (sem_least G) (fun f cdv A outer s H E hr => ?_)
    have tk := takes_of (X := cxOf (L2.CX P G.w) P G.w G.K mg base N_least "least" (defScope s_least) f cdv A outer s H E) (E := E) rfl rfl rfl rfl
    have po := passes_of (X := cxOf (L2.CX P G.w) P G.w G.K mg base N_least "least" (defScope s_least) f cdv A outer s H E) rfl
    exact (pss_cons (ps_expr (pe_callF h_look_small rfl rfl (hr.mono (by decide)) tk (by rfl) (pa_cons (pv 0) pa_nil)))
    (pss_cons (ps_set (i := 1) sc_least.nd rfl (Or.inl rfl) (pe_makeS0 h_Worker___init__ rfl rfl T.mk_worker (hr.mono (by decide)) tk (by rfl)))
    (pss_cons (ps_set (i := 2) sc_least.nd rfl (Or.inl rfl) (pe_callF h_bound rfl rfl (hr.mono (by decide)) tk (by rfl) (pa_cons (pv 0) pa_nil)))
    (pss_cons (ps_while po (pt_cmpR (or_is) (pe_methD h_Worker_can rfl rfl T.cl_worker (hr.mono (by decide)) tk (pv 1) (pa_cons (pe_callTy (cr_tupleD) (by rfl) T.b_tuple bt_tuple (pa_cons (pv 0) pa_nil)) (pa_cons (pv 2) pa_nil))) pe_non (nomark _)) (pss_one (ps_set (i := 2) sc_least.nd rfl (Or.inl rfl) (pe_op (or_add rfl) (pv 2) pe_int))))
    (pss_one (ps_ret (pv 2)))))))
abbrev s_Asker___init__ : Stmt := inClass (topS 32) 0
abbrev N_Asker___init__ : List Str := ["self", "things", "lies"]
theorem sc_Asker___init__ : FnScope N_Asker___init__ ["self", "things", "lies"] (defScope s_Asker___init__) := ⟨rfl, rfl, rfl, by decide +kernel, rfl, by decide +kernel, by decide +kernel⟩
theorem fk_Asker___init__ {P : Program} {mg : Str → Option Value} {base : Heap} {G : Ctx} (T : Tx G mg) (F : MethAt G .asker "__init__" "Asker.__init__" s_Asker___init__ ["self", "things", "lies"]) (h_Game___init__ : FnM P G mg base 2 .game "__init__" ["self", "things", "lies"] S_Game___init__) (h_Game_counts : FnM P G mg base 1 .game "counts" ["self"] S_Game_counts) (h_look_small : FnF P G mg base 2 "look_small" ["counts"] S_look_small) (h_Worker___init__ : FnM P G mg base 1 .worker "__init__" ["self"] S_Worker___init__) : FnM P G mg base 4 .asker "__init__" ["self", "things", "lies"] S_Asker___init__ := by
    refine fnM_mk (k := 3) F sc_Asker___init__ len_Asker___init__ (sem_Asker___init__ G) (fun f cdv A outer s H E hr => ?_)
    have tk := takes_of (X := cxOf (L2.CX P G.w) P G.w G.K mg base N_Asker___init__ "Asker.__init__" (defScope s_Asker___init__) f cdv A outer s H E) (E := E) rfl rfl rfl rfl
    have po := passes_of (X := cxOf (L2.CX P G.w) P G.w G.K mg base N_Asker___init__ "Asker.__init__" (defScope s_Asker___init__) f cdv A outer s H E) rfl
    exact (pss_cons (ps_fldD rfl T.cl_asker T.n_asker_game (pv 0) (pe_makeS h_Game___init__ rfl rfl T.mk_game (hr.mono (by decide)) tk (by rfl) (pa_cons (pv 1) (pa_cons (pv 2) pa_nil))))
    (pss_cons (ps_expr (pe_callF h_look_small rfl rfl (hr.mono (by decide)) tk (by rfl) (pa_cons (pe_methD0 h_Game_counts rfl rfl T.cl_game (hr.mono (by decide)) tk (pe_fldD rfl T.cl_asker T.n_asker_game (pv 0))) pa_nil)))
    (pss_one (ps_fldD rfl T.cl_asker T.n_asker_worker (pv 0) (pe_makeS0 h_Worker___init__ rfl rfl T.mk_worker (hr.mono (by decide)) tk (by rfl))))))
abbrev s_Asker_question : Stmt := inClass (topS 32) 1
abbrev N_Asker_question : List Str := ["self", "counts", "many", "part", "found", "some", "k", "thing"]
theorem sc_Asker_question : FnScope N_Asker_question ["self"] (defScope s_Asker_question) := ⟨rfl, rfl, rfl, by decide +kernel, rfl, by decide +kernel, by decide +kernel⟩
theorem fk_Asker_question {P : Program} {mg : Str → Option Value} {base : Heap} {G : Ctx} (T : Tx G mg) (F : MethAt G .asker "question" "Asker.question" s_Asker_question ["self"]) (h_Game_counts : FnM P G mg base 1 .game "counts" ["self"] S_Game_counts) (h_bound : FnF P G mg base 3 "bound" ["counts"] S_bound) (h_Worker_can : FnM P G mg base 127 .worker "can" ["self", "counts", "many"] S_Worker_can) (h_Game_lies : FnM P G mg base 1 .game "lies" ["self"] S_Game_lies) (h_Game_left : FnM P G mg base 1 .game "left" ["self"] S_Game_left) : FnM P G mg base 128 .asker "question" ["self"] S_Asker_question := by
    refine fnM_mk (k := 127) F sc_Asker_question len_Asker_question (sem_Asker_question G) (fun f cdv A outer s H E hr => ?_)
    have tk := takes_of (X := cxOf (L2.CX P G.w) P G.w G.K mg base N_Asker_question "Asker.question" (defScope s_Asker_question) f cdv A outer s H E) (E := E) rfl rfl rfl rfl
    have po := passes_of (X := cxOf (L2.CX P G.w) P G.w G.K mg base N_Asker_question "Asker.question" (defScope s_Asker_question) f cdv A outer s H E) rfl
    exact (pss_cons (ps_set (i := 1) sc_Asker_question.nd rfl (Or.inl rfl) (pe_methD0 h_Game_counts rfl rfl T.cl_game (hr.mono (by decide)) tk (pe_fldD rfl T.cl_asker T.n_asker_game (pv 0))))
    (pss_cons (ps_if (pt_cmpR (or_le hr.units0) (pe_callB (cr_sumD rfl) (by rfl) T.b_sum bt_sum (pa_cons (pv 1) pa_nil)) pe_int (nomark _)) (pss_one (ps_ret pe_non)) pss_nil)
    (pss_cons (ps_set (i := 2) sc_Asker_question.nd rfl (Or.inl rfl) (pe_callF h_bound rfl rfl (hr.mono (by decide)) tk (by rfl) (pa_cons (pv 1) pa_nil)))
    (pss_cons (ps_while po (pt_cmpR (or_is) (pe_methD h_Worker_can rfl rfl T.cl_worker (hr.mono (by decide)) tk (pe_fldD rfl T.cl_asker T.n_asker_worker (pv 0)) (pa_cons (pv 1) (pa_cons (pv 2) pa_nil))) pe_non (nomark _)) (pss_one (ps_set (i := 2) sc_Asker_question.nd rfl (Or.inl rfl) (pe_op (or_add rfl) (pv 2) pe_int))))
    (pss_cons (ps_set (i := 3) sc_Asker_question.nd rfl (Or.inl rfl) (pe_methD h_Worker_can rfl rfl T.cl_worker (hr.mono (by decide)) tk (pe_fldD rfl T.cl_asker T.n_asker_worker (pv 0)) (pa_cons (pv 1) (pa_cons (pv 2) pa_nil))))
    (pss_cons (ps_set (i := 4) sc_Asker_question.nd rfl (Or.inl rfl) (pe_lstO pa_nil))
    (pss_cons (ps_set (i := 5) sc_Asker_question.nd rfl (Or.inr rfl) (pe_methD0 h_Game_lies rfl rfl T.cl_game (hr.mono (by decide)) tk (pe_fldD rfl T.cl_asker T.n_asker_game (pv 0))))
    (pss_cons (ps_for po rfl (pi_range1 rfl T.b_range (pa_cons (pe_callB (cr_len rfl) (by rfl) T.b_len PySem.boot_len (pa_cons (pv 3) pa_nil)) pa_nil)) (pg_name (i := 6) sc_Asker_question.nd rfl (Or.inr rfl)) (pss_one (ps_expr (pe_bm PySem.F.plainAttrs_list PySem.F.slot_list_extend PySem.F.type_list_extend (mt_extendD) (pv 4) (pa_cons (pe_slice sl_D (pe_lc (own := [("thing", 7)]) (by rfl) sc_Asker_question.nd (pi_list (pe_methD0 h_Game_left rfl rfl T.cl_game (hr.mono (by decide)) tk (pe_fldD rfl T.cl_asker T.n_asker_game (pv 0)))) (blkOk_by (own := [("thing", 7)]) (N := N_Asker_question) (sc := defScope s_Asker_question) (by decide +kernel)) (fun _ _ _ _ _ => (pg_name (i := 7) sc_Asker_question.nd rfl (Or.inl rfl))) (fun _ _ _ _ _ => (pts_one (pt_cmpR (or_eq hr.units) (pe_ix (ix_D rfl) (pv 5) (pv 7) (fun _ _ => rfl)) (pv 6) (nomark _)))) (fun _ _ _ _ _ => (pv 7))) po_none (po_some (pe_ix (ix_D rfl) (pv 3) (pv 6) (fun _ _ => rfl)))) pa_nil)))))
    (pss_one (ps_ret (pe_callB (cr_sortI rfl) (by rfl) T.b_sorted bt_sorted (pa_cons (pv 4) pa_nil))))))))))))
abbrev s_number_in : Stmt := topS 35
abbrev N_number_in : List Str := ["word", "sign"]
theorem sc_number_in : FnScope N_number_in ["word"] (defScope s_number_in) := ⟨rfl, rfl, rfl, by decide +kernel, rfl, by decide +kernel, by decide +kernel⟩
theorem fk_number_in {P : Program} {mg : Str → Option Value} {base : Heap} {G : Ctx} (T : Tx G mg) (F : DefAt G mg "number_in" "number_in" s_number_in ["word"]) : FnF P G mg base 1 "number_in" ["word"] S_number_in := by
    refine fnF_mk (k := 0) F sc_number_in len_number_in (sem_number_in G) (fun f cdv A outer s H E hr => ?_)
    have tk := takes_of (X := cxOf (L2.CX P G.w) P G.w G.K mg base N_number_in "number_in" (defScope s_number_in) f cdv A outer s H E) (E := E) rfl rfl rfl rfl
    have po := passes_of (X := cxOf (L2.CX P G.w) P G.w G.K mg base N_number_in "number_in" (defScope s_number_in) f cdv A outer s H E) rfl
    exact (pss_cons (ps_if (PW.pt (pw_or (pt_not (pt_chain (or_le hr.units0) (or_le hr.units0) pe_int (pe_callB (cr_len rfl) (by rfl) T.b_len PySem.boot_len (pa_cons (pv 0) pa_nil)) pe_int)) (pw_or (pt_not (pt_truD (pe_callB (cr_allD rfl) (by rfl) T.b_all bt_all (pa_cons (pe_lc (own := [("sign", 1)]) (by rfl) sc_number_in.nd (pi_str (pv 0)) (blkOk_by (own := [("sign", 1)]) (N := N_number_in) (sc := defScope s_number_in) (by decide +kernel)) (fun _ _ _ _ _ => (pg_name (i := 1) sc_number_in.nd rfl (Or.inl rfl))) (fun _ _ _ _ _ => pts_nil) (fun _ _ _ _ _ => (pe_cmpR (or_in (Room.u65 hr)) (pv 1) (pe_globS T.c_FIGURES rfl) (by rfl)))) pa_nil)))) (pw_or1 (PW.pt (pw_and (pt_cmpR (or_eq hr.units) (pe_ix (ix_D rfl) (pv 0) pe_int (fun _ _ => rfl)) pe_str (nomark _)) (pw_and1 (pt_cmpR (or_ne hr.units) (pv 0) pe_str (nomark _))))))))) (pss_one (ps_raiseE rfl tk rfl T.e_row rfl)) pss_nil)
    (pss_one (ps_ret (pe_callTy (cr_intS) (by rfl) T.b_int bt_int (pa_cons (pv 0) pa_nil)))))
abbrev s_numbers_text : Stmt := topS 36
abbrev N_numbers_text : List Str := ["numbers", "number"]
theorem sc_numbers_text : FnScope N_numbers_text ["numbers"] (defScope s_numbers_text) := ⟨rfl, rfl, rfl, by decide +kernel, rfl, by decide +kernel, by decide +kernel⟩
theorem fk_numbers_text {P : Program} {mg : Str → Option Value} {base : Heap} {G : Ctx} (T : Tx G mg) (F : DefAt G mg "numbers_text" "numbers_text" s_numbers_text ["numbers"]) : FnF P G mg base 1 "numbers_text" ["numbers"] S_numbers_text := by
    refine fnF_mk (k := 0) F sc_numbers_text len_numbers_text (sem_numbers_text G) (fun f cdv A outer s H E hr => ?_)
    have tk := takes_of (X := cxOf (L2.CX P G.w) P G.w G.K mg base N_numbers_text "numbers_text" (defScope s_numbers_text) f cdv A outer s H E) (E := E) rfl rfl rfl rfl
    have po := passes_of (X := cxOf (L2.CX P G.w) P G.w G.K mg base N_numbers_text "numbers_text" (defScope s_numbers_text) f cdv A outer s H E) rfl
    exact (pss_one (ps_ret (pe_orT (pe_m1 PySem.F.slot_str_join PySem.F.type_str_join mt_joinD pe_str (pe_lc (own := [("number", 1)]) (by rfl) sc_numbers_text.nd (pi_list (pv 0)) (blkOk_by (own := [("number", 1)]) (N := N_numbers_text) (sc := defScope s_numbers_text) (by decide +kernel)) (fun _ _ _ _ _ => (pg_name (i := 1) sc_numbers_text.nd rfl (Or.inl rfl))) (fun _ _ _ _ _ => pts_nil) (fun _ _ _ _ _ => (pe_callTy (cr_strD) (by rfl) T.b_str bt_str (pa_cons (pv 1) pa_nil))))) (pe_one pe_str))))
abbrev s_Desk___init__ : Stmt := inClass (topS 37) 0
abbrev N_Desk___init__ : List Str := ["self"]
theorem sc_Desk___init__ : FnScope N_Desk___init__ ["self"] (defScope s_Desk___init__) := ⟨rfl, rfl, rfl, by decide +kernel, rfl, by decide +kernel, by decide +kernel⟩
theorem fk_Desk___init__ {P : Program} {mg : Str → Option Value} {base : Heap} {G : Ctx} (T : Tx G mg) (F : MethAt G .desk "__init__" "Desk.__init__" s_Desk___init__ ["self"]) : FnM P G mg base 1 .desk "__init__" ["self"] S_Desk___init__ := by
    refine fnM_mk (k := 0) F sc_Desk___init__ len_Desk___init__ (sem_Desk___init__ G) (fun f cdv A outer s H E hr => ?_)
    have tk := takes_of (X := cxOf (L2.CX P G.w) P G.w G.K mg base N_Desk___init__ "Desk.__init__" (defScope s_Desk___init__) f cdv A outer s H E) (E := E) rfl rfl rfl rfl
    have po := passes_of (X := cxOf (L2.CX P G.w) P G.w G.K mg base N_Desk___init__ "Desk.__init__" (defScope s_Desk___init__) f cdv A outer s H E) rfl
    exact (pss_one (ps_fldD rfl T.cl_desk T.n_desk_game (pv 0) pe_non))
abbrev s_Desk_need_game : Stmt := inClass (topS 37) 2
abbrev N_Desk_need_game : List Str := ["self"]
theorem sc_Desk_need_game : FnScope N_Desk_need_game ["self"] (defScope s_Desk_need_game) := ⟨rfl, rfl, rfl, by decide +kernel, rfl, by decide +kernel, by decide +kernel⟩
theorem fk_Desk_need_game {P : Program} {mg : Str → Option Value} {base : Heap} {G : Ctx} (T : Tx G mg) (F : MethAt G .desk "need_game" "Desk.need_game" s_Desk_need_game ["self"]) : FnM P G mg base 1 .desk "need_game" ["self"] S_Desk_need_game := by
    refine fnM_mk (k := 0) F sc_Desk_need_game len_Desk_need_game (sem_Desk_need_game G) (fun f cdv A outer s H E hr => ?_)
    have tk := takes_of (X := cxOf (L2.CX P G.w) P G.w G.K mg base N_Desk_need_game "Desk.need_game" (defScope s_Desk_need_game) f cdv A outer s H E) (E := E) rfl rfl rfl rfl
    have po := passes_of (X := cxOf (L2.CX P G.w) P G.w G.K mg base N_Desk_need_game "Desk.need_game" (defScope s_Desk_need_game) f cdv A outer s H E) rfl
    exact (pss_cons (ps_if (pt_cmpR (or_is) (pe_fldD rfl T.cl_desk T.n_desk_game (pv 0)) pe_non (nomark _)) (pss_one (ps_raiseE rfl tk rfl T.e_game rfl)) pss_nil)
    (pss_one (ps_ret (pe_fldD rfl T.cl_desk T.n_desk_game (pv 0)))))
abbrev s_Desk_best : Stmt := inClass (topS 37) 5
abbrev N_Desk_best : List Str := ["self", "game", "asker", "question", "answer"]
theorem sc_Desk_best : FnScope N_Desk_best ["self", "game"] (defScope s_Desk_best) := ⟨rfl, rfl, rfl, by decide +kernel, rfl, by decide +kernel, by decide +kernel⟩
theorem fk_Desk_best {P : Program} {mg : Str → Option Value} {base : Heap} {G : Ctx} (T : Tx G mg) (F : MethAt G .desk "best" "Desk.best" s_Desk_best ["self", "game"]) (h_Asker___init__ : FnM P G mg base 4 .asker "__init__" ["self", "things", "lies"] S_Asker___init__) (h_Game_asked : FnM P G mg base 1 .game "asked" ["self"] S_Game_asked) (h_Game_ask : FnM P G mg base 2 .game "ask" ["self", "question", "answer"] S_Game_ask) (h_Asker_question : FnM P G mg base 128 .asker "question" ["self"] S_Asker_question) : FnM P G mg base 129 .desk "best" ["self", "game"] S_Desk_best := by
    refine fnM_mk (k := 128) F sc_Desk_best len_Desk_best (sem_Desk_best G) (fun f cdv A outer s H E hr => ?_)
    have tk := takes_of (X := cxOf (L2.CX P G.w) P G.w G.K mg base N_Desk_best "Desk.best" (defScope s_Desk_best) f cdv A outer s H E) (E := E) rfl rfl rfl rfl
    have po := passes_of (X := cxOf (L2.CX P G.w) P G.w G.K mg base N_Desk_best "Desk.best" (defScope s_Desk_best) f cdv A outer s H E) rfl
    exact (pss_cons (ps_set (i := 2) sc_Desk_best.nd rfl (Or.inl rfl) (pe_makeS h_Asker___init__ rfl rfl T.mk_asker (hr.mono (by decide)) tk (by rfl) (pa_cons (pe_fldD rfl T.cl_game T.n_game_things (pv 1)) (pa_cons (pe_fldD rfl T.cl_game T.n_game_most (pv 1)) pa_nil))))
    (pss_cons (ps_for po rfl (pi_list (pe_methD0 h_Game_asked rfl rfl T.cl_game (hr.mono (by decide)) tk (pv 1))) (pg_tup rfl (pgs_cons (pg_name (i := 3) sc_Desk_best.nd rfl (Or.inl rfl)) (pgs_cons (pg_name (i := 4) sc_Desk_best.nd rfl (Or.inl rfl)) pgs_nil))) (pss_one (ps_expr (pe_methD h_Game_ask rfl rfl T.cl_game (hr.mono (by decide)) tk (pe_fldD rfl T.cl_asker T.n_asker_game (pv 2)) (pa_cons (pv 3) (pa_cons (pv 4) pa_nil))))))
    (pss_one (ps_ret (pe_methD0 h_Asker_question rfl rfl T.cl_asker (hr.mono (by decide)) tk (pv 2))))))
abbrev s_Desk_one_word : Stmt := inClass (topS 37) 4
abbrev N_Desk_one_word : List Str := ["self", "word", "game", "question", "many"]
theorem sc_Desk_one_word : FnScope N_Desk_one_word ["self", "word", "game"] (defScope s_Desk_one_word) := ⟨rfl, rfl, rfl, by decide +kernel, rfl, by decide +kernel, by decide +kernel⟩
theorem fk_Desk_one_word {P : Program} {mg : Str → Option Value} {base : Heap} {G : Ctx} (T : Tx G mg) (F : MethAt G .desk "one_word" "Desk.one_word" s_Desk_one_word ["self", "word", "game"]) (h_Game_left : FnM P G mg base 1 .game "left" ["self"] S_Game_left) (h_numbers_text : FnF P G mg base 1 "numbers_text" ["numbers"] S_numbers_text) (h_Game_lies : FnM P G mg base 1 .game "lies" ["self"] S_Game_lies) (h_Game_back : FnM P G mg base 1 .game "back" ["self"] S_Game_back) (h_Game_counts : FnM P G mg base 1 .game "counts" ["self"] S_Game_counts) (h_look_small : FnF P G mg base 2 "look_small" ["counts"] S_look_small) (h_least : FnF P G mg base 128 "least" ["counts"] S_least) (h_Desk_best : FnM P G mg base 129 .desk "best" ["self", "game"] S_Desk_best) : FnM P G mg base 130 .desk "one_word" ["self", "word", "game"] S_Desk_one_word := by
    refine fnM_mk (k := 129) F sc_Desk_one_word len_Desk_one_word (sem_Desk_one_word G) (fun f cdv A outer s H E hr => ?_)
    have tk := takes_of (X := cxOf (L2.CX P G.w) P G.w G.K mg base N_Desk_one_word "Desk.one_word" (defScope s_Desk_one_word) f cdv A outer s H E) (E := E) rfl rfl rfl rfl
    have po := passes_of (X := cxOf (L2.CX P G.w) P G.w G.K mg base N_Desk_one_word "Desk.one_word" (defScope s_Desk_one_word) f cdv A outer s H E) rfl
    exact (pss_cons (ps_if (pt_cmpR (or_eq hr.units) (pv 1) pe_str (nomark _)) (pss_one (ps_ret (pe_callF h_numbers_text rfl rfl (hr.mono (by decide)) tk (by rfl) (pa_cons (pe_methD0 h_Game_left rfl rfl T.cl_game (hr.mono (by decide)) tk (pv 2)) pa_nil)))) pss_nil)
    (pss_cons (ps_if (pt_cmpR (or_eq hr.units) (pv 1) pe_str (nomark _)) (pss_one (ps_ret (pe_m1 PySem.F.slot_str_join PySem.F.type_str_join mt_joinD pe_str (pe_lc (own := [("many", 4)]) (by rfl) sc_Desk_one_word.nd (pi_list (pe_methD0 h_Game_lies rfl rfl T.cl_game (hr.mono (by decide)) tk (pv 2))) (blkOk_by (own := [("many", 4)]) (N := N_Desk_one_word) (sc := defScope s_Desk_one_word) (by decide +kernel)) (fun _ _ _ _ _ => (pg_name (i := 4) sc_Desk_one_word.nd rfl (Or.inl rfl))) (fun _ _ _ _ _ => pts_nil) (fun _ _ _ _ _ => (pe_ifExp (pt_cmpR (or_is) (pv 4) pe_non (nomark _)) pe_str (pe_callTy (cr_strD) (by rfl) T.b_str bt_str (pa_cons (pv 4) pa_nil)))))))) pss_nil)
    (pss_cons (ps_if (pt_cmpR (or_eq hr.units) (pv 1) pe_str (nomark _)) (pss_one (ps_ret (pe_ifExp (pt_truD (pe_methD0 h_Game_back rfl rfl T.cl_game (hr.mono (by decide)) tk (pv 2))) pe_str pe_str))) pss_nil)
    (pss_cons (ps_expr (pe_callF h_look_small rfl rfl (hr.mono (by decide)) tk (by rfl) (pa_cons (pe_methD0 h_Game_counts rfl rfl T.cl_game (hr.mono (by decide)) tk (pv 2)) pa_nil)))
    (pss_cons (ps_if (pt_cmpR (or_eq hr.units) (pv 1) pe_str (nomark _)) (pss_one (ps_ret (pe_callTy (cr_strD) (by rfl) T.b_str bt_str (pa_cons (pe_callF h_least rfl rfl (hr.mono (by decide)) tk (by rfl) (pa_cons (pe_methD0 h_Game_counts rfl rfl T.cl_game (hr.mono (by decide)) tk (pv 2)) pa_nil)) pa_nil)))) pss_nil)
    (pss_cons (ps_set (i := 3) sc_Desk_one_word.nd rfl (Or.inl rfl) (pe_methD h_Desk_best rfl rfl T.cl_desk (hr.mono (by decide)) tk (pv 0) (pa_cons (pv 2) pa_nil)))
    (pss_one (ps_ret (pe_ifExp (pt_cmpR (or_is) (pv 3) pe_non (nomark _)) pe_str (pe_callF h_numbers_text rfl rfl (hr.mono (by decide)) tk (by rfl) (pa_cons (pv 3) pa_nil)))))))))))
abbrev s_Desk_answered : Stmt := inClass (topS 37) 3
abbrev N_Desk_answered : List Str := ["self", "words", "word", "things", "lies", "question", "one"]
theorem sc_Desk_answered : FnScope N_Desk_answered ["self", "words"] (defScope s_Desk_answered) := ⟨rfl, rfl, rfl, by decide +kernel, rfl, by decide +kernel, by decide +kernel⟩
theorem fk_Desk_answered {P : Program} {mg : Str → Option Value} {base : Heap} {G : Ctx} (T : Tx G mg) (F : MethAt G .desk "answered" "Desk.answered" s_Desk_answered ["self", "words"]) (h_number_in : FnF P G mg base 1 "number_in" ["word"] S_number_in) (h_look_game : FnF P G mg base 1 "look_game" ["things", "lies"] S_look_game) (h_Game___init__ : FnM P G mg base 2 .game "__init__" ["self", "things", "lies"] S_Game___init__) (h_Game_ask : FnM P G mg base 2 .game "ask" ["self", "question", "answer"] S_Game_ask) (h_Desk_need_game : FnM P G mg base 1 .desk "need_game" ["self"] S_Desk_need_game) (h_Game_left : FnM P G mg base 1 .game "left" ["self"] S_Game_left) (h_numbers_text : FnF P G mg base 1 "numbers_text" ["numbers"] S_numbers_text) (h_Desk_one_word : FnM P G mg base 130 .desk "one_word" ["self", "word", "game"] S_Desk_one_word) : FnM P G mg base 131 .desk "answered" ["self", "words"] S_Desk_answered := by
    refine fnM_mk (k := 130) F sc_Desk_answered len_Desk_answered (sem_Desk_answered G) (fun f cdv A outer s H E hr => ?_)
    have tk := takes_of (X := cxOf (L2.CX P G.w) P G.w G.K mg base N_Desk_answered "Desk.answered" (defScope s_Desk_answered) f cdv A outer s H E) (E := E) rfl rfl rfl rfl
    have po := passes_of (X := cxOf (L2.CX P G.w) P G.w G.K mg base N_Desk_answered "Desk.answered" (defScope s_Desk_answered) f cdv A outer s H E) rfl
    exact (pss_cons (ps_set (i := 2) sc_Desk_answered.nd rfl (Or.inl rfl) (pe_ix (ix_D rfl) (pv 1) pe_int (fun _ _ => rfl)))
    (pss_cons (ps_if (PW.pt (pw_and (pt_cmpR (or_eq hr.units) (pv 2) pe_str (nomark _)) (pw_and1 (pt_cmpR (or_eq hr.units) (pe_callB (cr_len rfl) (by rfl) T.b_len PySem.boot_len (pa_cons (pv 1) pa_nil)) pe_int (nomark _))))) (pss_cons (ps_set (i := 3) sc_Desk_answered.nd rfl (Or.inl rfl) (pe_callF h_number_in rfl rfl (hr.mono (by decide)) tk (by rfl) (pa_cons (pe_ix (ix_D rfl) (pv 1) pe_int (fun _ _ => rfl)) pa_nil)))
    (pss_cons (ps_set (i := 4) sc_Desk_answered.nd rfl (Or.inl rfl) (pe_callF h_number_in rfl rfl (hr.mono (by decide)) tk (by rfl) (pa_cons (pe_ix (ix_D rfl) (pv 1) pe_int (fun _ _ => rfl)) pa_nil)))
    (pss_cons (ps_expr (pe_callF h_look_game rfl rfl (hr.mono (by decide)) tk (by rfl) (pa_cons (pv 3) (pa_cons (pv 4) pa_nil))))
    (pss_cons (ps_fldD rfl T.cl_desk T.n_desk_game (pv 0) (pe_makeS h_Game___init__ rfl rfl T.mk_game (hr.mono (by decide)) tk (by rfl) (pa_cons (pv 3) (pa_cons (pv 4) pa_nil))))
    (pss_one (ps_ret pe_str)))))) pss_nil)
    (pss_cons (ps_if (pt_cmpR (or_in (Room.u65 hr)) (pv 2) (pe_tup (pa_cons pe_str (pa_cons pe_str pa_nil))) (by rfl)) (pss_cons (ps_setLcX (i := 5) (own := [("one", 6)]) rfl rfl tk (by rfl) sc_Desk_answered.nd rfl rfl (sw_true rfl rfl rfl (by decide +kernel)) (pi_list (pe_slice sl_D (pv 1) (po_some pe_int) po_none)) (blkOk_by (own := [("one", 6)]) (N := N_Desk_answered) (sc := defScope s_Desk_answered) (by decide +kernel)) (fun _ _ _ _ _ => (pg_name (i := 6) sc_Desk_answered.nd rfl (Or.inl rfl))) (fun _ _ _ _ _ => pts_nil) (fun _ _ _ _ _ _ W1 px1 => (pe_callFX h_number_in rfl rfl (hr.mono (by decide)) px1 (by rfl) (pa_cons (pv 6) pa_nil))))
    (pss_cons (ps_expr (pe_methD h_Game_ask rfl rfl T.cl_game (hr.mono (by decide)) tk (pe_methD0 h_Desk_need_game rfl rfl T.cl_desk (hr.mono (by decide)) tk (pv 0)) (pa_cons (pv 5) (pa_cons (pe_cmpR (or_eq hr.units) (pv 2) pe_str (nomark _)) pa_nil))))
    (pss_one (ps_ret (pe_op (or_add rfl) pe_str (pe_callF h_numbers_text rfl rfl (hr.mono (by decide)) tk (by rfl) (pa_cons (pe_methD0 h_Game_left rfl rfl T.cl_game (hr.mono (by decide)) tk (pe_fldD rfl T.cl_desk T.n_desk_game (pv 0))) pa_nil))))))) pss_nil)
    (pss_cons (ps_if (PW.pt (pw_or (pt_cmpR (or_ne hr.units) (pe_callB (cr_len rfl) (by rfl) T.b_len PySem.boot_len (pa_cons (pv 1) pa_nil)) pe_int (nomark _)) (pw_or1 (pt_cmpR (or_notin (Room.u65 hr)) (pv 2) (pe_tup (pa_cons pe_str (pa_cons pe_str (pa_cons pe_str (pa_cons pe_str (pa_cons pe_str pa_nil)))))) (by rfl))))) (pss_one (ps_raiseE rfl tk rfl T.e_row rfl)) pss_nil)
    (pss_one (ps_ret (pe_methD h_Desk_one_word rfl rfl T.cl_desk (hr.mono (by decide)) tk (pv 0) (pa_cons (pv 2) (pa_cons (pe_methD0 h_Desk_need_game rfl rfl T.cl_desk (hr.mono (by decide)) tk (pv 0)) pa_nil)))))))))
abbrev s_Desk_say : Stmt := inClass (topS 37) 1
abbrev N_Desk_say : List Str := ["self", "row"]
theorem sc_Desk_say : FnScope N_Desk_say ["self", "row"] (defScope s_Desk_say) := ⟨rfl, rfl, rfl, by decide +kernel, rfl, by decide +kernel, by decide +kernel⟩
theorem fk_Desk_say {P : Program} {mg : Str → Option Value} {base : Heap} {G : Ctx} (T : Tx G mg) (F : MethAt G .desk "say" "Desk.say" s_Desk_say ["self", "row"]) (h_Desk_answered : FnM P G mg base 131 .desk "answered" ["self", "words"] S_Desk_answered) : FnM P G mg base 132 .desk "say" ["self", "row"] S_Desk_say := by
    refine fnM_mk (k := 131) F sc_Desk_say len_Desk_say (sem_Desk_say G T.xp ⟨T.e_row.h, T.e_game.h, T.e_question.h, T.e_counts.h, T.e_liar.h⟩) (fun f cdv A outer s H E hr => ?_)
    have tk := takes_of (X := cxOf (L2.CX P G.w) P G.w G.K mg base N_Desk_say "Desk.say" (defScope s_Desk_say) f cdv A outer s H E) (E := E) rfl rfl rfl rfl
    have po := passes_of (X := cxOf (L2.CX P G.w) P G.w G.K mg base N_Desk_say "Desk.say" (defScope s_Desk_say) f cdv A outer s H E) rfl
    exact (pss_one (ps_try_many rfl rfl tk (fun W1 pn1 xe1 tk1 po1 => (pss_one (ps_ret (pe_methD h_Desk_answered rfl rfl T.cl_desk (hr.mono (by decide)) tk1 (pv 0) (pa_cons (pe_m1 PySem.F.slot_str_split PySem.F.type_str_split mt_splitD (pv 1) pe_str) pa_nil))))) (.cons ⟨by rfl, by decide, .inl T.e_row.g⟩ (fun _ _ _ _ _ _ _ => pss_one (ps_ret pe_str)) (.cons ⟨by rfl, by decide, .inl T.e_game.g⟩ (fun _ _ _ _ _ _ _ => pss_one (ps_ret pe_str)) (.cons ⟨by rfl, by decide, .inl T.e_question.g⟩ (fun _ _ _ _ _ _ _ => pss_one (ps_ret pe_str)) (.cons ⟨by rfl, by decide, .inl T.e_counts.g⟩ (fun _ _ _ _ _ _ _ => pss_one (ps_ret pe_str)) (.cons ⟨by rfl, by decide, .inl T.e_liar.g⟩ (fun _ _ _ _ _ _ _ => pss_one (ps_ret pe_str)) .nil)))))))
abbrev s_play : Stmt := topS 38
abbrev N_play : List Str := ["text", "desk", "row"]
theorem sc_play : FnScope N_play ["text"] (defScope s_play) := ⟨rfl, rfl, rfl, by decide +kernel, rfl, by decide +kernel, by decide +kernel⟩
theorem fk_play {P : Program} {mg : Str → Option Value} {base : Heap} {G : Ctx} (T : Tx G mg) (F : DefAt G mg "play" "play" s_play ["text"]) (h_Desk___init__ : FnM P G mg base 1 .desk "__init__" ["self"] S_Desk___init__) (h_Desk_say : FnM P G mg base 132 .desk "say" ["self", "row"] S_Desk_say) : FnF P G mg base 133 "play" ["text"] S_play := by
    refine fnF_mk (k := 132) F sc_play len_play (sem_play G) (fun f cdv A outer s H E hr => ?_)
    have tk := takes_of (X := cxOf (L2.CX P G.w) P G.w G.K mg base N_play "play" (defScope s_play) f cdv A outer s H E) (E := E) rfl rfl rfl rfl
    have po := passes_of (X := cxOf (L2.CX P G.w) P G.w G.K mg base N_play "play" (defScope s_play) f cdv A outer s H E) rfl
    exact (pss_cons (ps_set (i := 1) sc_play.nd rfl (Or.inr rfl) (pe_makeS0 h_Desk___init__ rfl rfl T.mk_desk (hr.mono (by decide)) tk (by rfl)))
    (pss_one (ps_ret (pe_lc (own := [("row", 2)]) (by rfl) sc_play.nd (pi_list (pe_m1 PySem.F.slot_str_split PySem.F.type_str_split mt_splitD (pv 0) pe_str)) (blkOk_by (own := [("row", 2)]) (N := N_play) (sc := defScope s_play) (by decide +kernel)) (fun _ _ _ _ _ => (pg_name (i := 2) sc_play.nd rfl (Or.inl rfl))) (fun _ _ _ _ _ => (pts_one (pt_cmpR (or_ne hr.units) (pv 2) pe_str (nomark _)))) (fun _ _ _ _ _ => (pe_methD h_Desk_say rfl rfl T.cl_desk (hr.mono (by decide)) takes0 (pv 1) (pa_cons (pv 2) pa_nil)))))))
abbrev s_law_cell : Stmt := topS 40
abbrev N_law_cell : List Str := ["script", "k"]
theorem sc_law_cell : FnScope N_law_cell ["script", "k"] (defScope s_law_cell) := ⟨rfl, rfl, rfl, by decide +kernel, rfl, by decide +kernel, by decide +kernel⟩
theorem fk_law_cell {P : Program} {mg : Str → Option Value} {base : Heap} {G : Ctx} (T : Tx G mg) (F : DefAt G mg "_law_cell" "_law_cell" s_law_cell ["script", "k"]) : FnF P G mg base 1 "_law_cell" ["script", "k"] S_law_cell := by
    refine fnF_mk (k := 0) F sc_law_cell len_law_cell (sem_law_cell G) (fun f cdv A outer s H E hr => ?_)
    have tk := takes_of (X := cxOf (L2.CX P G.w) P G.w G.K mg base N_law_cell "_law_cell" (defScope s_law_cell) f cdv A outer s H E) (E := E) rfl rfl rfl rfl
    have po := passes_of (X := cxOf (L2.CX P G.w) P G.w G.K mg base N_law_cell "_law_cell" (defScope s_law_cell) f cdv A outer s H E) rfl
    exact (pss_cons (ps_if (pt_truD (pv 0)) (pss_one (ps_ret (pe_ix (ix_D rfl) (pv 0) (pe_op (or_mod) (pv 1) (pe_callB (cr_len rfl) (by rfl) T.b_len PySem.boot_len (pa_cons (pv 0) pa_nil))) (fun _ _ => rfl)))) pss_nil)
    (pss_one (ps_ret pe_int)))
abbrev s_law_mix : Stmt := topS 41
abbrev N_law_mix : List Str := ["script", "k", "number"]
theorem sc_law_mix : FnScope N_law_mix ["script", "k"] (defScope s_law_mix) := ⟨rfl, rfl, rfl, by decide +kernel, rfl, by decide +kernel, by decide +kernel⟩
theorem fk_law_mix {P : Program} {mg : Str → Option Value} {base : Heap} {G : Ctx} (T : Tx G mg) (F : DefAt G mg "_law_mix" "_law_mix" s_law_mix ["script", "k"]) (h_law_cell : FnF P G mg base 1 "_law_cell" ["script", "k"] S_law_cell) : FnF P G mg base 2 "_law_mix" ["script", "k"] S_law_mix := by
    refine fnF_mk (k := 1) F sc_law_mix len_law_mix (sem_law_mix G) (fun f cdv A outer s H E hr => ?_)
    have tk := takes_of (X := cxOf (L2.CX P G.w) P G.w G.K mg base N_law_mix "_law_mix" (defScope s_law_mix) f cdv A outer s H E) (E := E) rfl rfl rfl rfl
    have po := passes_of (X := cxOf (L2.CX P G.w) P G.w G.K mg base N_law_mix "_law_mix" (defScope s_law_mix) f cdv A outer s H E) rfl
    exact (pss_cons (ps_set (i := 2) sc_law_mix.nd rfl (Or.inl rfl) (pe_op (or_mod) (pe_op (or_add rfl) (pe_callF h_law_cell rfl rfl (hr.mono (by decide)) tk (by rfl) (pa_cons (pv 0) (pa_cons (pv 1) pa_nil))) (pe_op (or_mul) pe_int (pe_op (or_add rfl) (pv 1) pe_int))) pe_int))
    (pss_cons (ps_set (i := 2) sc_law_mix.nd rfl (Or.inl rfl) (pe_op (or_mod) (pe_op (or_pow) (pv 2) pe_int) pe_int))
    (pss_one (ps_ret (pe_op (or_mod) (pe_op (or_add rfl) (pe_op (or_mul) (pe_op (or_div) (pv 2) pe_int) pe_int) (pv 2)) pe_int)))))
abbrev s_law_lied : Stmt := topS 42
abbrev N_law_lied : List Str := ["row", "thing", "question", "answer"]
theorem sc_law_lied : FnScope N_law_lied ["row", "thing"] (defScope s_law_lied) := ⟨rfl, rfl, rfl, by decide +kernel, rfl, by decide +kernel, by decide +kernel⟩
theorem fk_law_lied {P : Program} {mg : Str → Option Value} {base : Heap} {G : Ctx} (T : Tx G mg) (F : DefAt G mg "_law_lied" "_law_lied" s_law_lied ["row", "thing"]) : FnF P G mg base 1 "_law_lied" ["row", "thing"] S_law_lied := by
    refine fnF_mk (k := 0) F sc_law_lied len_law_lied (sem_law_lied G) (fun f cdv A outer s H E hr => ?_)
    have tk := takes_of (X := cxOf (L2.CX P G.w) P G.w G.K mg base N_law_lied "_law_lied" (defScope s_law_lied) f cdv A outer s H E) (E := E) rfl rfl rfl rfl
    have po := passes_of (X := cxOf (L2.CX P G.w) P G.w G.K mg base N_law_lied "_law_lied" (defScope s_law_lied) f cdv A outer s H E) rfl
    exact (pss_one (ps_ret (pe_callB (cr_len rfl) (by rfl) T.b_len PySem.boot_len (pa_cons (pe_lc (own := [("question", 2), ("answer", 3)]) (by rfl) sc_law_lied.nd (pi_list (pv 0)) (blkOk_by (own := [("question", 2), ("answer", 3)]) (N := N_law_lied) (sc := defScope s_law_lied) (by decide +kernel)) (fun _ _ _ _ _ => (pg_tup rfl (pgs_cons (pg_name (i := 2) sc_law_lied.nd rfl (Or.inl rfl)) (pgs_cons (pg_name (i := 3) sc_law_lied.nd rfl (Or.inl rfl)) pgs_nil)))) (fun _ _ _ _ _ => (pts_one (pt_cmpR (or_ne hr.units) (pe_cmpR (or_in (Room.u65 hr)) (pv 1) (pv 2) (by rfl)) (pv 3) (nomark _)))) (fun _ _ _ _ _ => (pv 3))) pa_nil))))
abbrev s_law_text : Stmt := topS 43
abbrev N_law_text : List Str := ["some", "one"]
theorem sc_law_text : FnScope N_law_text ["some"] (defScope s_law_text) := ⟨rfl, rfl, rfl, by decide +kernel, rfl, by decide +kernel, by decide +kernel⟩
theorem fk_law_text {P : Program} {mg : Str → Option Value} {base : Heap} {G : Ctx} (T : Tx G mg) (F : DefAt G mg "_law_text" "_law_text" s_law_text ["some"]) : FnF P G mg base 1 "_law_text" ["some"] S_law_text := by
    refine fnF_mk (k := 0) F sc_law_text len_law_text (sem_law_text G) (fun f cdv A outer s H E hr => ?_)
    have tk := takes_of (X := cxOf (L2.CX P G.w) P G.w G.K mg base N_law_text "_law_text" (defScope s_law_text) f cdv A outer s H E) (E := E) rfl rfl rfl rfl
    have po := passes_of (X := cxOf (L2.CX P G.w) P G.w G.K mg base N_law_text "_law_text" (defScope s_law_text) f cdv A outer s H E) rfl
    exact (pss_one (ps_ret (pe_ifExp (pt_cmpR (or_eq hr.units) (pv 0) (pe_lst pa_nil) (nomark _)) pe_str (pe_m1 PySem.F.slot_str_join PySem.F.type_str_join mt_joinD pe_str (pe_lc (own := [("one", 1)]) (by rfl) sc_law_text.nd (pi_list (pv 0)) (blkOk_by (own := [("one", 1)]) (N := N_law_text) (sc := defScope s_law_text) (by decide +kernel)) (fun _ _ _ _ _ => (pg_name (i := 1) sc_law_text.nd rfl (Or.inl rfl))) (fun _ _ _ _ _ => pts_nil) (fun _ _ _ _ _ => (pe_callTy (cr_strD) (by rfl) T.b_str bt_str (pa_cons (pv 1) pa_nil))))))))
abbrev s_law_row : Stmt := topS 44
abbrev N_law_row : List Str := ["script", "k", "number", "way", "some", "things", "lies", "thing"]
theorem sc_law_row : FnScope N_law_row ["script", "k"] (defScope s_law_row) := ⟨rfl, rfl, rfl, by decide +kernel, rfl, by decide +kernel, by decide +kernel⟩
theorem fk_law_row {P : Program} {mg : Str → Option Value} {base : Heap} {G : Ctx} (T : Tx G mg) (F : DefAt G mg "_law_row" "_law_row" s_law_row ["script", "k"]) (h_law_mix : FnF P G mg base 2 "_law_mix" ["script", "k"] S_law_mix) : FnF P G mg base 3 "_law_row" ["script", "k"] S_law_row := by
    refine fnF_mk (k := 2) F sc_law_row len_law_row (sem_law_row G) (fun f cdv A outer s H E hr => ?_)
    have tk := takes_of (X := cxOf (L2.CX P G.w) P G.w G.K mg base N_law_row "_law_row" (defScope s_law_row) f cdv A outer s H E) (E := E) rfl rfl rfl rfl
    have po := passes_of (X := cxOf (L2.CX P G.w) P G.w G.K mg base N_law_row "_law_row" (defScope s_law_row) f cdv A outer s H E) rfl
    exact (pss_cons (ps_set (i := 2) sc_law_row.nd rfl (Or.inr rfl) (pe_callF h_law_mix rfl rfl (hr.mono (by decide)) tk (by rfl) (pa_cons (pv 0) (pa_cons (pv 1) pa_nil))))
    (pss_cons (ps_set (i := 3) sc_law_row.nd rfl (Or.inl rfl) (pe_op (or_mod) (pv 2) pe_int))
    (pss_cons (ps_if (PW.pt (pw_or (PW.pt (pw_and (pt_cmpR (or_eq hr.units) (pv 3) pe_int (nomark _)) (pw_and1 (pt_cmpR (or_eq hr.units) (pe_op (or_mod) (pe_op (or_div) (pv 2) pe_int) pe_int) pe_int (nomark _))))) (pw_or1 (pt_cmpR (or_eq hr.units) (pv 1) pe_int (nomark _))))) (pss_cons (ps_set (i := 4) sc_law_row.nd rfl (Or.inl rfl) (pe_op (or_div) (pv 2) pe_int))
    (pss_cons (ps_set (i := 5) sc_law_row.nd rfl (Or.inl rfl) (pe_ix (ix_D rfl) (pe_lst (pa_cons pe_int (pa_cons pe_int (pa_cons pe_int (pa_cons pe_int (pa_cons pe_int (pa_cons pe_int (pa_cons pe_int (pa_cons pe_int pa_nil))))))))) (pe_op (or_mod) (pv 4) pe_int) (fun _ _ => rfl)))
    (pss_cons (ps_set (i := 6) sc_law_row.nd rfl (Or.inl rfl) (pe_ix (ix_D rfl) (pe_lst (pa_cons pe_int (pa_cons pe_int (pa_cons pe_int (pa_cons pe_int (pa_cons pe_int (pa_cons pe_int pa_nil))))))) (pe_op (or_mod) (pe_op (or_div) (pv 4) pe_int) pe_int) (fun _ _ => rfl)))
    (pss_one (ps_ret (pe_op (or_add rfl) (pe_op (or_add rfl) (pe_op (or_add rfl) pe_str (pe_callTy (cr_strD) (by rfl) T.b_str bt_str (pa_cons (pv 5) pa_nil))) pe_str) (pe_callTy (cr_strD) (by rfl) T.b_str bt_str (pa_cons (pe_ifExp (pt_cmpR (or_eq hr.units) (pv 5) pe_int (nomark _)) pe_int (pv 6)) pa_nil)))))))) pss_nil)
    (pss_cons (ps_if (pt_cmpR (or_lt hr.units0) (pv 3) pe_int (nomark _)) (pss_cons (ps_setLc (i := 5) (own := [("thing", 7)]) (by rfl) sc_law_row.nd rfl rfl (sw_true rfl rfl rfl (by decide +kernel)) (pi_range1 rfl T.b_range (pa_cons pe_int pa_nil)) (blkOk_by (own := [("thing", 7)]) (N := N_law_row) (sc := defScope s_law_row) (by decide +kernel)) (fun _ _ _ _ _ => (pg_name (i := 7) sc_law_row.nd rfl (Or.inl rfl))) (fun _ _ _ _ _ => (pts_one (pt_cmpR (or_eq hr.units) (pe_op (or_mod) (pe_op (or_div) (pe_op (or_div) (pv 2) pe_int) (pe_ix (ix_D rfl) (pe_lst (pa_cons pe_int (pa_cons pe_int (pa_cons pe_int (pa_cons pe_int (pa_cons pe_int pa_nil)))))) (pv 7) (fun _ _ => rfl))) pe_int) pe_int (nomark _)))) (fun _ _ _ _ _ => (pv 7)))
    (pss_cons (ps_if (pt_cmpR (or_eq hr.units) (pe_op (or_mod) (pe_op (or_div) (pv 2) pe_int) pe_int) pe_int (nomark _)) (pss_one (ps_set (i := 5) sc_law_row.nd rfl (Or.inl rfl) (pe_op (or_add rfl) (pv 5) (pe_slice sl_D (pv 5) (po_some (pe_un ur_neg pe_int)) po_none)))) pss_nil)
    (pss_one (ps_ret (pe_m1 PySem.F.slot_str_join PySem.F.type_str_join mt_joinD pe_str (pe_op (or_add rfl) (pe_lst (pa_cons (pe_ix (ix_D rfl) (pe_lst (pa_cons pe_str (pa_cons pe_str pa_nil))) (pe_op (or_mod) (pe_op (or_div) (pv 2) pe_int) pe_int) (fun _ _ => rfl)) pa_nil)) (pe_lc (own := [("thing", 7)]) (by rfl) sc_law_row.nd (pi_list (pv 5)) (blkOk_by (own := [("thing", 7)]) (N := N_law_row) (sc := defScope s_law_row) (by decide +kernel)) (fun _ _ _ _ _ => (pg_name (i := 7) sc_law_row.nd rfl (Or.inl rfl))) (fun _ _ _ _ _ => pts_nil) (fun _ _ _ _ _ => (pe_callTy (cr_strD) (by rfl) T.b_str bt_str (pa_cons (pv 7) pa_nil)))))))))) pss_nil)
    (pss_cons (ps_if (pt_cmpR (or_eq hr.units) (pv 3) pe_int (nomark _)) (pss_one (ps_ret (pe_ix (ix_D rfl) (pe_lst (pa_cons pe_str (pa_cons pe_str (pa_cons pe_str (pa_cons pe_str (pa_cons pe_str (pa_cons pe_str (pa_cons pe_str (pa_cons pe_str pa_nil))))))))) (pe_op (or_mod) (pe_op (or_div) (pv 2) pe_int) pe_int) (fun _ _ => rfl)))) pss_nil)
    (pss_one (ps_ret (pe_ix (ix_D rfl) (pe_lst (pa_cons pe_str (pa_cons pe_str (pa_cons pe_str (pa_cons pe_str (pa_cons pe_str pa_nil)))))) (pe_op (or_mod) (pe_op (or_div) (pv 2) pe_int) pe_int) (fun _ _ => rfl)))))))))
abbrev s_law_game : Stmt := topS 45
abbrev N_law_game : List Str := ["words", "town", "things", "lies"]
theorem sc_law_game : FnScope N_law_game ["words", "town"] (defScope s_law_game) := ⟨rfl, rfl, rfl, by decide +kernel, rfl, by decide +kernel, by decide +kernel⟩
theorem fk_law_game {P : Program} {mg : Str → Option Value} {base : Heap} {G : Ctx} (T : Tx G mg) (F : DefAt G mg "_law_game" "_law_game" s_law_game ["words", "town"]) : FnF P G mg base 1 "_law_game" ["words", "town"] S_law_game := by
    refine fnF_mk (k := 0) F sc_law_game len_law_game (sem_law_game G) (fun f cdv A outer s H E hr => ?_)
    have tk := takes_of (X := cxOf (L2.CX P G.w) P G.w G.K mg base N_law_game "_law_game" (defScope s_law_game) f cdv A outer s H E) (E := E) rfl rfl rfl rfl
    have po := passes_of (X := cxOf (L2.CX P G.w) P G.w G.K mg base N_law_game "_law_game" (defScope s_law_game) f cdv A outer s H E) rfl
    exact (pss_cons (ps_if (pt_cmpR (or_ne hr.units) (pe_callB (cr_len rfl) (by rfl) T.b_len PySem.boot_len (pa_cons (pv 0) pa_nil)) pe_int (nomark _)) (pss_one (ps_ret pe_str)) pss_nil)
    (pss_cons (ps_par (i := 2) (j := 3) rfl sc_law_game.nd rfl rfl (by decide) rfl rfl (pa_cons (pe_callTy (cr_intS) (by rfl) T.b_int bt_int (pa_cons (pe_ix (ix_D rfl) (pv 0) pe_int (fun _ _ => rfl)) pa_nil)) (pa_cons (pe_callTy (cr_intS) (by rfl) T.b_int bt_int (pa_cons (pe_ix (ix_D rfl) (pv 0) pe_int (fun _ _ => rfl)) pa_nil)) pa_nil)) (by rfl))
    (pss_cons (ps_if (PW.pt (pw_or (pt_not (pt_chain (or_le hr.units0) (or_le hr.units0) pe_int (pv 2) pe_int)) (pw_or1 (pt_cmpR (or_gt) (pv 3) pe_int (nomark _))))) (pss_one (ps_ret pe_str)) pss_nil)
    (pss_cons (ps_dput (Room.u1 hr) (pv 1) pe_str (pe_tup (pa_cons (pv 2) (pa_cons (pv 3) pa_nil))) (by rfl))
    (pss_cons (ps_dput (Room.u1 hr) (pv 1) pe_str (pe_lst pa_nil) (by rfl))
    (pss_one (ps_ret pe_str)))))))
abbrev s_law_asked : Stmt := topS 46
abbrev N_law_asked : List Str := ["words", "town", "question", "word", "things", "lies", "row", "left", "thing"]
theorem sc_law_asked : FnScope N_law_asked ["words", "town"] (defScope s_law_asked) := ⟨rfl, rfl, rfl, by decide +kernel, rfl, by decide +kernel, by decide +kernel⟩
theorem fk_law_asked {P : Program} {mg : Str → Option Value} {base : Heap} {G : Ctx} (T : Tx G mg) (F : DefAt G mg "_law_asked" "_law_asked" s_law_asked ["words", "town"]) (h_law_lied : FnF P G mg base 1 "_law_lied" ["row", "thing"] S_law_lied) (h_law_text : FnF P G mg base 1 "_law_text" ["some"] S_law_text) : FnF P G mg base 2 "_law_asked" ["words", "town"] S_law_asked := by
    refine fnF_mk (k := 1) F sc_law_asked len_law_asked (sem_law_asked G) (fun f cdv A outer s H E hr => ?_)
    have tk := takes_of (X := cxOf (L2.CX P G.w) P G.w G.K mg base N_law_asked "_law_asked" (defScope s_law_asked) f cdv A outer s H E) (E := E) rfl rfl rfl rfl
    have po := passes_of (X := cxOf (L2.CX P G.w) P G.w G.K mg base N_law_asked "_law_asked" (defScope s_law_asked) f cdv A outer s H E) rfl
    exact (pss_cons (ps_set (i := 2) sc_law_asked.nd rfl (Or.inl rfl) (pe_lstO pa_nil))
    (pss_cons (ps_for po rfl (pi_list (pe_slice sl_D (pv 0) (po_some pe_int) po_none)) (pg_name (i := 3) sc_law_asked.nd rfl (Or.inl rfl)) (pss_cons (ps_if (PW.pt (pw_or (pt_cmpR (or_eq hr.units) (pv 3) pe_str (nomark _)) (pw_or (pt_cmpR (or_gt) (pe_callB (cr_len rfl) (by rfl) T.b_len PySem.boot_len (pa_cons (pv 3) pa_nil)) pe_int (nomark _)) (pw_or1 (pt_cmpR (or_ne hr.units) (pe_callTy (cr_strD) (by rfl) T.b_str bt_str (pa_cons (pe_callTy (cr_intS) (by rfl) T.b_int bt_int (pa_cons (pv 3) pa_nil)) pa_nil)) (pv 3) (nomark _)))))) (pss_one (ps_ret pe_str)) pss_nil)
    (pss_one (ps_expr (pe_bm PySem.F.plainAttrs_list PySem.F.slot_list_append PySem.F.type_list_append (mt_appendD) (pv 2) (pa_cons (pe_callTy (cr_intS) (by rfl) T.b_int bt_int (pa_cons (pv 3) pa_nil)) pa_nil))))))
    (pss_cons (ps_if (pt_cmpR (or_is) (pe_dget (Room.u1 hr) (pv 1) pe_str (fun _ _ => rfl)) pe_non (nomark _)) (pss_one (ps_ret pe_str)) pss_nil)
    (pss_cons (ps_asg (pe_dget (Room.u1 hr) (pv 1) pe_str (fun _ _ => rfl)) (pg_tup rfl (pgs_cons (pg_name (i := 4) sc_law_asked.nd rfl (Or.inl rfl)) (pgs_cons (pg_name (i := 5) sc_law_asked.nd rfl (Or.inr rfl)) pgs_nil))))
    (pss_cons (ps_if (PW.pt (pw_or (pt_cmpR (or_ne hr.units) (pv 2) (pe_sset (by rfl) (by rfl) (by rfl) T.b_sorted T.b_set (pa_cons (pv 2) pa_nil)) (nomark _)) (pw_or1 (PW.pt (pw_and (pt_cmpR (or_ne hr.units) (pv 2) (pe_lst pa_nil) (nomark _)) (pw_and1 (pt_cmpR (or_ge) (pe_ix (ix_D rfl) (pv 2) (pe_un ur_neg pe_int) (fun _ _ => rfl)) (pv 4) (nomark _)))))))) (pss_one (ps_ret pe_str)) pss_nil)
    (pss_cons (ps_set (i := 6) sc_law_asked.nd rfl (Or.inr rfl) (pe_op (or_add rfl) (pe_dget (Room.u1 hr) (pv 1) pe_str (fun _ _ => rfl)) (pe_lst (pa_cons (pe_tup (pa_cons (pv 2) (pa_cons (pe_cmpR (or_eq hr.units) (pe_ix (ix_D rfl) (pv 0) pe_int (fun _ _ => rfl)) pe_str (nomark _)) pa_nil))) pa_nil))))
    (pss_cons (ps_setLc (i := 7) (own := [("thing", 8)]) (by rfl) sc_law_asked.nd rfl rfl (sw_true rfl rfl rfl (by decide +kernel)) (pi_range1 rfl T.b_range (pa_cons (pv 4) pa_nil)) (blkOk_by (own := [("thing", 8)]) (N := N_law_asked) (sc := defScope s_law_asked) (by decide +kernel)) (fun _ _ _ _ _ => (pg_name (i := 8) sc_law_asked.nd rfl (Or.inl rfl))) (fun _ _ _ _ _ => (pts_one (pt_cmpR (or_le hr.units0) (pe_callF h_law_lied rfl rfl (hr.mono (by decide)) takes0 (by rfl) (pa_cons (pv 6) (pa_cons (pv 8) pa_nil))) (pv 5) (nomark _)))) (fun _ _ _ _ _ => (pv 8)))
    (pss_cons (ps_if (pt_cmpR (or_eq hr.units) (pv 7) (pe_lst pa_nil) (nomark _)) (pss_one (ps_ret pe_str)) pss_nil)
    (pss_cons (ps_dput (Room.u1 hr) (pv 1) pe_str (pv 6) (by rfl))
    (pss_one (ps_ret (pe_op (or_add rfl) pe_str (pe_callF h_law_text rfl rfl (hr.mono (by decide)) tk (by rfl) (pa_cons (pv 7) pa_nil))))))))))))))
abbrev s_law_counts : Stmt := topS 47
abbrev N_law_counts : List Str := ["row", "game", "many", "thing", "one"]
theorem sc_law_counts : FnScope N_law_counts ["row", "game"] (defScope s_law_counts) := ⟨rfl, rfl, rfl, by decide +kernel, rfl, by decide +kernel, by decide +kernel⟩
theorem fk_law_counts {P : Program} {mg : Str → Option Value} {base : Heap} {G : Ctx} (T : Tx G mg) (F : DefAt G mg "_law_counts" "_law_counts" s_law_counts ["row", "game"]) (h_law_lied : FnF P G mg base 1 "_law_lied" ["row", "thing"] S_law_lied) : FnF P G mg base 2 "_law_counts" ["row", "game"] S_law_counts := by
    refine fnF_mk (k := 1) F sc_law_counts len_law_counts (sem_law_counts G) (fun f cdv A outer s H E hr => ?_)
    have tk := takes_of (X := cxOf (L2.CX P G.w) P G.w G.K mg base N_law_counts "_law_counts" (defScope s_law_counts) f cdv A outer s H E) (E := E) rfl rfl rfl rfl
    have po := passes_of (X := cxOf (L2.CX P G.w) P G.w G.K mg base N_law_counts "_law_counts" (defScope s_law_counts) f cdv A outer s H E) rfl
    exact (pss_cons (ps_set (i := 2) sc_law_counts.nd rfl (Or.inr rfl) (pe_lc (own := [("thing", 3)]) (by rfl) sc_law_counts.nd (pi_range1 rfl T.b_range (pa_cons (pe_ix (ix_D rfl) (pv 1) pe_int (fun _ _ => rfl)) pa_nil)) (blkOk_by (own := [("thing", 3)]) (N := N_law_counts) (sc := defScope s_law_counts) (by decide +kernel)) (fun _ _ _ _ _ => (pg_name (i := 3) sc_law_counts.nd rfl (Or.inl rfl))) (fun _ _ _ _ _ => pts_nil) (fun _ _ _ _ _ => (pe_callF h_law_lied rfl rfl (hr.mono (by decide)) takes0 (by rfl) (pa_cons (pv 0) (pa_cons (pv 3) pa_nil))))))
    (pss_one (ps_ret (pe_callTy (cr_tupleD) (by rfl) T.b_tuple bt_tuple (pa_cons (pe_lc (own := [("one", 4)]) (by rfl) sc_law_counts.nd (pi_range1 rfl T.b_range (pa_cons (pe_op (or_add rfl) (pe_ix (ix_D rfl) (pv 1) pe_int (fun _ _ => rfl)) pe_int) pa_nil)) (blkOk_by (own := [("one", 4)]) (N := N_law_counts) (sc := defScope s_law_counts) (by decide +kernel)) (fun _ _ _ _ _ => (pg_name (i := 4) sc_law_counts.nd rfl (Or.inl rfl))) (fun _ _ _ _ _ => pts_nil) (fun _ _ _ _ _ => (pe_bm PySem.F.plainAttrs_list PySem.F.slot_list_count PySem.F.type_list_count (mt_countD (Room.u65 hr)) (pv 2) (pa_cons (pv 4) pa_nil)))) pa_nil)))))
abbrev s_law_best : Stmt := topS 48
abbrev N_law_best : List Str := ["said", "town", "row", "things", "lies", "counts", "words", "question", "both", "thing", "answer", "one"]
theorem sc_law_best : FnScope N_law_best ["said", "town"] (defScope s_law_best) := ⟨rfl, rfl, rfl, by decide +kernel, rfl, by decide +kernel, by decide +kernel⟩
theorem fk_law_best {P : Program} {mg : Str → Option Value} {base : Heap} {G : Ctx} (T : Tx G mg) (F : DefAt G mg "_law_best" "_law_best" s_law_best ["said", "town"]) (h_law_counts : FnF P G mg base 2 "_law_counts" ["row", "game"] S_law_counts) (h_law_lied : FnF P G mg base 1 "_law_lied" ["row", "thing"] S_law_lied) (h_law_text : FnF P G mg base 1 "_law_text" ["some"] S_law_text) (h_least : FnF P G mg base 128 "least" ["counts"] S_least) : FnF P G mg base 129 "_law_best" ["said", "town"] S_law_best := by
    refine fnF_mk (k := 128) F sc_law_best len_law_best (sem_law_best G) (fun f cdv A outer s H E hr => ?_)
    have tk := takes_of (X := cxOf (L2.CX P G.w) P G.w G.K mg base N_law_best "_law_best" (defScope s_law_best) f cdv A outer s H E) (E := E) rfl rfl rfl rfl
    have po := passes_of (X := cxOf (L2.CX P G.w) P G.w G.K mg base N_law_best "_law_best" (defScope s_law_best) f cdv A outer s H E) rfl
    exact (pss_cons (ps_set (i := 2) sc_law_best.nd rfl (Or.inr rfl) (pe_dget (Room.u1 hr) (pv 1) pe_str (fun _ _ => rfl)))
    (pss_cons (ps_asg (pe_dget (Room.u1 hr) (pv 1) pe_str (fun _ _ => rfl)) (pg_tup rfl (pgs_cons (pg_name (i := 3) sc_law_best.nd rfl (Or.inl rfl)) (pgs_cons (pg_name (i := 4) sc_law_best.nd rfl (Or.inr rfl)) pgs_nil))))
    (pss_cons (ps_set (i := 5) sc_law_best.nd rfl (Or.inl rfl) (pe_callF h_law_counts rfl rfl (hr.mono (by decide)) tk (by rfl) (pa_cons (pv 2) (pa_cons (pe_dget (Room.u1 hr) (pv 1) pe_str (fun _ _ => rfl)) pa_nil))))
    (pss_cons (ps_if (pt_cmpR (or_lt hr.units0) (pe_callB (cr_sumD rfl) (by rfl) T.b_sum bt_sum (pa_cons (pv 5) pa_nil)) pe_int (nomark _)) (pss_one (ps_ret (pe_cmpR (or_eq hr.units) (pv 0) pe_str (nomark _)))) pss_nil)
    (pss_cons (ps_set (i := 6) sc_law_best.nd rfl (Or.inr rfl) (pe_m1 PySem.F.slot_str_split PySem.F.type_str_split mt_splitD (pv 0) pe_str))
    (pss_cons (ps_set (i := 7) sc_law_best.nd rfl (Or.inr rfl) (pe_lc (own := [("thing", 9)]) (by rfl) sc_law_best.nd (pi_range1 rfl T.b_range (pa_cons (pv 3) pa_nil)) (blkOk_by (own := [("thing", 9)]) (N := N_law_best) (sc := defScope s_law_best) (by decide +kernel)) (fun _ _ _ _ _ => (pg_name (i := 9) sc_law_best.nd rfl (Or.inl rfl))) (fun _ _ _ _ _ => (pts_one (PW.pt (pw_and (pt_cmpR (or_le hr.units0) (pe_callF h_law_lied rfl rfl (hr.mono (by decide)) takes0 (by rfl) (pa_cons (pv 2) (pa_cons (pv 9) pa_nil))) (pv 4) (nomark _)) (pw_and1 (pt_cmpR (or_in (Room.u65 hr)) (pe_callTy (cr_strD) (by rfl) T.b_str bt_str (pa_cons (pv 9) pa_nil)) (pv 6) (by rfl))))))) (fun _ _ _ _ _ => (pv 9))))
    (pss_cons (ps_if (PW.pt (pw_or (pt_cmpR (or_eq hr.units) (pv 7) (pe_lst pa_nil) (nomark _)) (pw_or1 (pt_cmpR (or_ne hr.units) (pv 0) (pe_callF h_law_text rfl rfl (hr.mono (by decide)) tk (by rfl) (pa_cons (pv 7) pa_nil)) (nomark _))))) (pss_one (ps_ret pe_bl)) pss_nil)
    (pss_cons (ps_setLc (i := 8) (own := [("answer", 10)]) (by rfl) sc_law_best.nd rfl rfl (sw_true rfl rfl rfl (by decide +kernel)) (pi_tup (pe_tup (pa_cons pe_bl (pa_cons pe_bl pa_nil)))) (blkOk_by (own := [("answer", 10)]) (N := N_law_best) (sc := defScope s_law_best) (by decide +kernel)) (fun _ _ _ _ _ => (pg_name (i := 10) sc_law_best.nd rfl (Or.inl rfl))) (fun _ _ _ _ _ => pts_nil) (fun _ _ _ _ _ => (pe_callF h_law_counts rfl rfl (hr.mono (by decide)) takes0 (by rfl) (pa_cons (pe_op (or_add rfl) (pv 2) (pe_lst (pa_cons (pe_tup (pa_cons (pv 7) (pa_cons (pv 10) pa_nil))) pa_nil))) (pa_cons (pe_dget (Room.u1 hr) (pv 1) pe_str (fun _ _ => rfl)) pa_nil)))))
    (pss_one (ps_ret (pe_cmpR (or_lt hr.units0) (pe_callB (cr_maxD rfl) (by rfl) T.b_max bt_max (pa_cons (pe_lc (own := [("one", 11)]) (by rfl) sc_law_best.nd (pi_list (pv 8)) (blkOk_by (own := [("one", 11)]) (N := N_law_best) (sc := defScope s_law_best) (by decide +kernel)) (fun _ _ _ _ _ => (pg_name (i := 11) sc_law_best.nd rfl (Or.inl rfl))) (fun _ _ _ _ _ => pts_nil) (fun _ _ _ _ _ => (pe_callF h_least rfl rfl (hr.mono (by decide)) takes0 (by rfl) (pa_cons (pv 11) pa_nil)))) pa_nil)) (pe_callF h_least rfl rfl (hr.mono (by decide)) tk (by rfl) (pa_cons (pv 5) pa_nil)) (nomark _))))))))))))
abbrev s_law_one : Stmt := topS 49
abbrev N_law_one : List Str := ["word", "town", "things", "lies", "many", "found", "counts", "thing", "one"]
theorem sc_law_one : FnScope N_law_one ["word", "town"] (defScope s_law_one) := ⟨rfl, rfl, rfl, by decide +kernel, rfl, by decide +kernel, by decide +kernel⟩
theorem fk_law_one {P : Program} {mg : Str → Option Value} {base : Heap} {G : Ctx} (T : Tx G mg) (F : DefAt G mg "_law_one" "_law_one" s_law_one ["word", "town"]) (h_law_lied : FnF P G mg base 1 "_law_lied" ["row", "thing"] S_law_lied) (h_law_text : FnF P G mg base 1 "_law_text" ["some"] S_law_text) (h_least : FnF P G mg base 128 "least" ["counts"] S_least) : FnF P G mg base 129 "_law_one" ["word", "town"] S_law_one := by
    refine fnF_mk (k := 128) F sc_law_one len_law_one (sem_law_one G) (fun f cdv A outer s H E hr => ?_)
    have tk := takes_of (X := cxOf (L2.CX P G.w) P G.w G.K mg base N_law_one "_law_one" (defScope s_law_one) f cdv A outer s H E) (E := E) rfl rfl rfl rfl
    have po := passes_of (X := cxOf (L2.CX P G.w) P G.w G.K mg base N_law_one "_law_one" (defScope s_law_one) f cdv A outer s H E) rfl
    exact (pss_cons (ps_if (pt_cmpR (or_is) (pe_dget (Room.u1 hr) (pv 1) pe_str (fun _ _ => rfl)) pe_non (nomark _)) (pss_one (ps_ret pe_str)) pss_nil)
    (pss_cons (ps_asg (pe_dget (Room.u1 hr) (pv 1) pe_str (fun _ _ => rfl)) (pg_tup rfl (pgs_cons (pg_name (i := 2) sc_law_one.nd rfl (Or.inl rfl)) (pgs_cons (pg_name (i := 3) sc_law_one.nd rfl (Or.inr rfl)) pgs_nil))))
    (pss_cons (ps_set (i := 4) sc_law_one.nd rfl (Or.inr rfl) (pe_lc (own := [("thing", 7)]) (by rfl) sc_law_one.nd (pi_range1 rfl T.b_range (pa_cons (pv 2) pa_nil)) (blkOk_by (own := [("thing", 7)]) (N := N_law_one) (sc := defScope s_law_one) (by decide +kernel)) (fun _ _ _ _ _ => (pg_name (i := 7) sc_law_one.nd rfl (Or.inl rfl))) (fun _ _ _ _ _ => pts_nil) (fun _ _ _ _ _ => (pe_callF h_law_lied rfl rfl (hr.mono (by decide)) takes0 (by rfl) (pa_cons (pe_dget (Room.u1 hr) (pv 1) pe_str (fun _ _ => rfl)) (pa_cons (pv 7) pa_nil))))))
    (pss_cons (ps_if (pt_cmpR (or_eq hr.units) (pv 0) pe_str (nomark _)) (pss_one (ps_ret (pe_callF h_law_text rfl rfl (hr.mono (by decide)) tk (by rfl) (pa_cons (pe_lc (own := [("thing", 7)]) (by rfl) sc_law_one.nd (pi_range1 rfl T.b_range (pa_cons (pv 2) pa_nil)) (blkOk_by (own := [("thing", 7)]) (N := N_law_one) (sc := defScope s_law_one) (by decide +kernel)) (fun _ _ _ _ _ => (pg_name (i := 7) sc_law_one.nd rfl (Or.inl rfl))) (fun _ _ _ _ _ => (pts_one (pt_cmpR (or_le hr.units0) (pe_ix (ix_D rfl) (pv 4) (pv 7) (fun _ _ => rfl)) (pv 3) (nomark _)))) (fun _ _ _ _ _ => (pv 7))) pa_nil)))) pss_nil)
    (pss_cons (ps_if (pt_cmpR (or_eq hr.units) (pv 0) pe_str (nomark _)) (pss_one (ps_ret (pe_m1 PySem.F.slot_str_join PySem.F.type_str_join mt_joinD pe_str (pe_lc (own := [("one", 8)]) (by rfl) sc_law_one.nd (pi_list (pv 4)) (blkOk_by (own := [("one", 8)]) (N := N_law_one) (sc := defScope s_law_one) (by decide +kernel)) (fun _ _ _ _ _ => (pg_name (i := 8) sc_law_one.nd rfl (Or.inl rfl))) (fun _ _ _ _ _ => pts_nil) (fun _ _ _ _ _ => (pe_ifExp (pt_cmpR (or_le hr.units0) (pv 8) (pv 3) (nomark _)) (pe_callTy (cr_strD) (by rfl) T.b_str bt_str (pa_cons (pv 8) pa_nil)) pe_str)))))) pss_nil)
    (pss_cons (ps_if (pt_cmpR (or_eq hr.units) (pv 0) pe_str (nomark _)) (pss_cons (ps_set (i := 5) sc_law_one.nd rfl (Or.inl rfl) (pe_ix (ix_D rfl) (pe_lst (pa_cons pe_str (pa_cons pe_str pa_nil))) (pe_callTy (cr_intD) (by rfl) T.b_int bt_int (pa_cons (pe_cmpR (or_ne hr.units) (pe_dget (Room.u1 hr) (pv 1) pe_str (fun _ _ => rfl)) (pe_lst pa_nil) (nomark _)) pa_nil)) (fun _ _ => rfl)))
    (pss_cons (ps_dput (Room.u1 hr) (pv 1) pe_str (pe_slice sl_D (pe_dget (Room.u1 hr) (pv 1) pe_str (fun _ _ => rfl)) po_none (po_some (pe_un ur_neg pe_int))) (by rfl))
    (pss_one (ps_ret (pv 5))))) pss_nil)
    (pss_cons (ps_set (i := 6) sc_law_one.nd rfl (Or.inl rfl) (pe_callTy (cr_tupleD) (by rfl) T.b_tuple bt_tuple (pa_cons (pe_lc (own := [("one", 8)]) (by rfl) sc_law_one.nd (pi_range1 rfl T.b_range (pa_cons (pe_op (or_add rfl) (pv 3) pe_int) pa_nil)) (blkOk_by (own := [("one", 8)]) (N := N_law_one) (sc := defScope s_law_one) (by decide +kernel)) (fun _ _ _ _ _ => (pg_name (i := 8) sc_law_one.nd rfl (Or.inl rfl))) (fun _ _ _ _ _ => pts_nil) (fun _ _ _ _ _ => (pe_bm PySem.F.plainAttrs_list PySem.F.slot_list_count PySem.F.type_list_count (mt_countD (Room.u65 hr)) (pv 4) (pa_cons (pv 8) pa_nil)))) pa_nil)))
    (pss_cons (ps_if (PW.pt (pw_or (pt_cmpR (or_gt) (pe_callB (cr_sumD rfl) (by rfl) T.b_sum bt_sum (pa_cons (pv 6) pa_nil)) pe_int (nomark _)) (pw_or (pt_cmpR (or_gt) (pv 3) pe_int (nomark _)) (pw_or1 (PW.pt (pw_and (pt_cmpR (or_eq hr.units) (pv 0) pe_str (nomark _)) (pw_and1 (pt_cmpR (or_gt) (pv 2) pe_int (nomark _))))))))) (pss_one (ps_ret pe_str)) pss_nil)
    (pss_one (ps_ret (pe_ifExp (pt_cmpR (or_eq hr.units) (pv 0) pe_str (nomark _)) (pe_callTy (cr_strD) (by rfl) T.b_str bt_str (pa_cons (pe_callF h_least rfl rfl (hr.mono (by decide)) tk (by rfl) (pa_cons (pv 6) pa_nil)) pa_nil)) pe_non)))))))))))
abbrev s_law_due : Stmt := topS 50
abbrev N_law_due : List Str := ["row", "town", "words"]
theorem sc_law_due : FnScope N_law_due ["row", "town"] (defScope s_law_due) := ⟨rfl, rfl, rfl, by decide +kernel, rfl, by decide +kernel, by decide +kernel⟩
theorem fk_law_due {P : Program} {mg : Str → Option Value} {base : Heap} {G : Ctx} (T : Tx G mg) (F : DefAt G mg "_law_due" "_law_due" s_law_due ["row", "town"]) (h_law_game : FnF P G mg base 1 "_law_game" ["words", "town"] S_law_game) (h_law_asked : FnF P G mg base 2 "_law_asked" ["words", "town"] S_law_asked) (h_law_one : FnF P G mg base 129 "_law_one" ["word", "town"] S_law_one) : FnF P G mg base 130 "_law_due" ["row", "town"] S_law_due := by
    refine fnF_mk (k := 129) F sc_law_due len_law_due (sem_law_due G) (fun f cdv A outer s H E hr => ?_)
    have tk := takes_of (X := cxOf (L2.CX P G.w) P G.w G.K mg base N_law_due "_law_due" (defScope s_law_due) f cdv A outer s H E) (E := E) rfl rfl rfl rfl
    have po := passes_of (X := cxOf (L2.CX P G.w) P G.w G.K mg base N_law_due "_law_due" (defScope s_law_due) f cdv A outer s H E) rfl
    exact (pss_cons (ps_set (i := 2) sc_law_due.nd rfl (Or.inl rfl) (pe_m1 PySem.F.slot_str_split PySem.F.type_str_split mt_splitD (pv 0) pe_str))
    (pss_cons (ps_if (pt_cmpR (or_eq hr.units) (pe_ix (ix_D rfl) (pv 2) pe_int (fun _ _ => rfl)) pe_str (nomark _)) (pss_one (ps_ret (pe_callF h_law_game rfl rfl (hr.mono (by omega)) tk (by rfl) (pa_cons (pv 2) (pa_cons (pv 1) pa_nil))))) pss_nil)
    (pss_cons (ps_if (pt_cmpR (or_in (Room.u65 hr)) (pe_ix (ix_D rfl) (pv 2) pe_int (fun _ _ => rfl)) (pe_tup (pa_cons pe_str (pa_cons pe_str pa_nil))) (by rfl)) (pss_one (ps_ret (pe_callF h_law_asked rfl rfl (hr.mono (by omega)) tk (by rfl) (pa_cons (pv 2) (pa_cons (pv 1) pa_nil))))) pss_nil)
    (pss_cons (ps_if (PW.pt (pw_or (pt_cmpR (or_gt) (pe_callB (cr_len rfl) (by rfl) T.b_len PySem.boot_len (pa_cons (pv 2) pa_nil)) pe_int (nomark _)) (pw_or1 (pt_cmpR (or_notin (Room.u65 hr)) (pe_ix (ix_D rfl) (pv 2) pe_int (fun _ _ => rfl)) (pe_tup (pa_cons pe_str (pa_cons pe_str (pa_cons pe_str (pa_cons pe_str (pa_cons pe_str pa_nil)))))) (by rfl))))) (pss_one (ps_ret pe_str)) pss_nil)
    (pss_one (ps_ret (pe_callF h_law_one rfl rfl (hr.mono (by omega)) tk (by rfl) (pa_cons (pe_ix (ix_D rfl) (pv 2) pe_int (fun _ _ => rfl)) (pa_cons (pv 1) pa_nil)))))))))
abbrev s_law_good : Stmt := topS 51
abbrev N_law_good : List Str := ["rows", "said", "town", "k", "due"]
theorem sc_law_good : FnScope N_law_good ["rows", "said"] (defScope s_law_good) := ⟨rfl, rfl, rfl, by decide +kernel, rfl, by decide +kernel, by decide +kernel⟩
theorem fk_law_good {P : Program} {mg : Str → Option Value} {base : Heap} {G : Ctx} (T : Tx G mg) (F : DefAt G mg "_law_good" "_law_good" s_law_good ["rows", "said"]) (h_law_due : FnF P G mg base 130 "_law_due" ["row", "town"] S_law_due) (h_law_best : FnF P G mg base 129 "_law_best" ["said", "town"] S_law_best) : FnF P G mg base 131 "_law_good" ["rows", "said"] S_law_good := by
    refine fnF_mk (k := 130) F sc_law_good len_law_good (sem_law_good G) (fun f cdv A outer s H E hr => ?_)
    have tk := takes_of (X := cxOf (L2.CX P G.w) P G.w G.K mg base N_law_good "_law_good" (defScope s_law_good) f cdv A outer s H E) (E := E) rfl rfl rfl rfl
    have po := passes_of (X := cxOf (L2.CX P G.w) P G.w G.K mg base N_law_good "_law_good" (defScope s_law_good) f cdv A outer s H E) rfl
    exact (pss_cons (ps_set (i := 2) sc_law_good.nd rfl (Or.inl rfl) (pe_disp (pps_cons pe_str pe_non (pps_cons pe_str (pe_lst pa_nil) pps_nil)) rfl rfl (by simp) (by decide)))
    (pss_cons (ps_if (PW.pt (pw_or (pt_not (pt_truD (pe_callB (cr_isB rfl) (by rfl) T.b_isinstance bt_isinstance (pa_cons (pv 1) (pa_cons (pe_bltn (by rfl) T.b_list bt_list rfl) pa_nil))))) (pw_or1 (pt_cmpR (or_ne hr.units) (pe_callB (cr_len rfl) (by rfl) T.b_len PySem.boot_len (pa_cons (pv 1) pa_nil)) (pe_callB (cr_len rfl) (by rfl) T.b_len PySem.boot_len (pa_cons (pv 0) pa_nil)) (nomark _))))) (pss_one (ps_ret pe_bl)) pss_nil)
    (pss_cons (ps_for po rfl (pi_range1 rfl T.b_range (pa_cons (pe_callB (cr_len rfl) (by rfl) T.b_len PySem.boot_len (pa_cons (pv 0) pa_nil)) pa_nil)) (pg_name (i := 3) sc_law_good.nd rfl (Or.inl rfl)) (pss_cons (ps_set (i := 4) sc_law_good.nd rfl (Or.inl rfl) (pe_callF h_law_due rfl rfl (hr.mono (by decide)) tk (by rfl) (pa_cons (pe_ix (ix_D rfl) (pv 0) (pv 3) (fun _ _ => rfl)) (pa_cons (pv 2) pa_nil))))
    (pss_one (ps_if (PW.pt (pw_or (PW.pt (pw_and (pt_cmpR (or_is) (pv 4) pe_non (nomark _)) (pw_and1 (pt_not (pt_truD (pe_callF h_law_best rfl rfl (hr.mono (by decide)) tk (by rfl) (pa_cons (pe_ix (ix_D rfl) (pv 1) (pv 3) (fun _ _ => rfl)) (pa_cons (pv 2) pa_nil)))))))) (pw_or1 (PW.pt (pw_and (pt_cmpR (or_isnot) (pv 4) pe_non (nomark _)) (pw_and1 (pt_cmpR (or_ne hr.units) (pe_ix (ix_D rfl) (pv 1) (pv 3) (fun _ _ => rfl)) (pv 4) (nomark _)))))))) (pss_one (ps_ret pe_bl)) pss_nil))))
    (pss_one (ps_ret pe_bl)))))
abbrev s_law : Stmt := topS 52
abbrev N_law : List Str := ["script", "rows", "desk", "said", "k", "row"]
theorem sc_law : FnScope N_law ["script"] (defScope s_law) := ⟨rfl, rfl, rfl, by decide +kernel, rfl, by decide +kernel, by decide +kernel⟩
theorem fl_law {P : Program} {mg : Str → Option Value} {base : Heap} {G : Ctx} {f : Addr} {fd : FuncData} (T : Tx G mg) (F : Fun G.K "law" "law" s_law f fd) (h_law_mix : FnF P G mg base 2 "_law_mix" ["script", "k"] S_law_mix) (h_law_row : FnF P G mg base 3 "_law_row" ["script", "k"] S_law_row) (h_Desk___init__ : FnM P G mg base 1 .desk "__init__" ["self"] S_Desk___init__) (h_Desk_say : FnM P G mg base 132 .desk "say" ["self", "row"] S_Desk_say) (h_law_good : FnF P G mg base 131 "_law_good" ["rows", "said"] S_law_good) (h_play : FnF P G mg base 133 "play" ["text"] S_play) : FnOk P G.w G.K mg base (L2.CX P G.w) 134 f fd ["script"] (spL G S_law) := by
    refine fn_D (k := 133) F sc_law len_law (sem_law G) (fun cdv A outer s H E hr => ?_)
    have tk := takes_of (X := cxOf (L2.CX P G.w) P G.w G.K mg base N_law "law" (defScope s_law) f cdv A outer s H E) (E := E) rfl rfl rfl rfl
    have po := passes_of (X := cxOf (L2.CX P G.w) P G.w G.K mg base N_law "law" (defScope s_law) f cdv A outer s H E) rfl
    exact (pss_cons (ps_setLc (i := 1) (own := [("k", 4)]) (by rfl) sc_law.nd rfl rfl (sw_true rfl rfl rfl (by decide +kernel)) (pi_range1 rfl T.b_range (pa_cons (pe_op (or_mod) (pe_callF h_law_mix rfl rfl (hr.mono (by decide)) tk (by rfl) (pa_cons (pv 0) (pa_cons pe_int pa_nil))) pe_int) pa_nil)) (blkOk_by (own := [("k", 4)]) (N := N_law) (sc := defScope s_law) (by decide +kernel)) (fun _ _ _ _ _ => (pg_name (i := 4) sc_law.nd rfl (Or.inl rfl))) (fun _ _ _ _ _ => pts_nil) (fun _ _ _ _ _ => (pe_callF h_law_row rfl rfl (hr.mono (by decide)) takes0 (by rfl) (pa_cons (pv 0) (pa_cons (pe_op (or_add rfl) pe_int (pv 4)) pa_nil)))))
    (pss_cons (ps_set (i := 2) sc_law.nd rfl (Or.inr rfl) (pe_makeS0 h_Desk___init__ rfl rfl T.mk_desk (hr.mono (by decide)) tk (by rfl)))
    (pss_cons (ps_setLc (i := 3) (own := [("row", 5)]) (by rfl) sc_law.nd rfl rfl (sw_true rfl rfl rfl (by decide +kernel)) (pi_list (pv 1)) (blkOk_by (own := [("row", 5)]) (N := N_law) (sc := defScope s_law) (by decide +kernel)) (fun _ _ _ _ _ => (pg_name (i := 5) sc_law.nd rfl (Or.inl rfl))) (fun _ _ _ _ _ => pts_nil) (fun _ _ _ _ _ => (pe_methD h_Desk_say rfl rfl T.cl_desk (hr.mono (by decide)) takes0 (pv 2) (pa_cons (pv 5) pa_nil))))
    (pss_cons (ps_if (PW.pt (pw_or (pt_not (pt_truD (pe_callF h_law_good rfl rfl (hr.mono (by decide)) tk (by rfl) (pa_cons (pv 1) (pa_cons (pv 3) pa_nil))))) (pw_or1 (pt_not (pt_truD (pe_callF h_law_good rfl rfl (hr.mono (by decide)) tk (by rfl) (pa_cons (pv 1) (pa_cons (pe_callF h_play rfl rfl (hr.mono (by decide)) tk (by rfl) (pa_cons (pe_m1 PySem.F.slot_str_join PySem.F.type_str_join mt_joinD pe_str (pv 1)) pa_nil)) pa_nil)))))))) (pss_one (ps_ret pe_bl)) pss_nil)
    (pss_one (ps_ret (pe_callF h_law_good rfl rfl (hr.mono (by decide)) tk (by rfl) (pa_cons (pv 1) (pa_cons (pe_callF h_play rfl rfl (hr.mono (by decide)) tk (by rfl) (pa_cons (pe_op (or_add rfl) (pe_op (or_add rfl) pe_str (pe_m1 PySem.F.slot_str_join PySem.F.type_str_join mt_joinD pe_str (pv 1))) pe_str) pa_nil)) pa_nil)))))))))
def exMap (C_game C_counts C_question C_liar C_row : Addr) : Tag → Addr
  | .game => C_game
  | .counts => C_counts
  | .question => C_question
  | .liar => C_liar
  | .row => C_row
  | _ => C_game
def hasMap : Tag → Bool
  | .game => true
  | .counts => true
  | .question => true
  | .liar => true
  | .row => true
  | _ => false
def clMap (CC_game CC_worker CC_asker CC_desk : Addr) : CT → Addr
  | .game => CC_game
  | .worker => CC_worker
  | .asker => CC_asker
  | .desk => CC_desk
  | _ => CC_game
theorem all_mk {P : Program} {w : World} {K : PySem.W.Frag} {h : Heap} {mg : Str → Option Value} {fa : Addr} {f_look_game f_look_question f_Game___init__ CC_game f_Game_ask f_Game_lies f_Game_left f_Game_counts f_Game_asked f_Game_back f_look_counts f_look_questions f_choices f_two_to f_weight f_behind f_bound f_look_small f_unevenness f_parts f_Worker___init__ CC_worker f_Worker_found f_Worker_can f_least f_Asker___init__ CC_asker f_Asker_question f_number_in f_numbers_text f_Desk___init__ CC_desk f_Desk_need_game f_Desk_best f_Desk_one_word f_Desk_answered f_Desk_say f_play f_law_cell f_law_mix f_law_lied f_law_text f_law_row f_law_game f_law_asked f_law_counts f_law_best f_law_one f_law_due f_law_good f_law CL C_game C_counts C_question C_liar C_row : Addr} {od_look_game an_look_game od_look_question an_look_question od_Game___init__ an_Game___init__ od_Game_ask an_Game_ask od_Game_lies an_Game_lies od_Game_left an_Game_left od_Game_counts an_Game_counts od_Game_asked an_Game_asked od_Game_back an_Game_back od_look_counts an_look_counts od_look_questions an_look_questions od_choices an_choices od_two_to an_two_to od_weight an_weight od_behind an_behind od_bound an_bound od_look_small an_look_small od_unevenness an_unevenness od_parts an_parts od_Worker___init__ an_Worker___init__ od_Worker_found an_Worker_found od_Worker_can an_Worker_can od_least an_least od_Asker___init__ an_Asker___init__ od_Asker_question an_Asker_question od_number_in an_number_in od_numbers_text an_numbers_text od_Desk___init__ an_Desk___init__ od_Desk_need_game an_Desk_need_game od_Desk_best an_Desk_best od_Desk_one_word an_Desk_one_word od_Desk_answered an_Desk_answered od_Desk_say an_Desk_say od_play an_play od_law_cell an_law_cell od_law_mix an_law_mix od_law_lied an_law_lied od_law_text an_law_text od_law_row an_law_row od_law_game an_law_game od_law_asked an_law_asked od_law_counts an_law_counts od_law_best an_law_best od_law_one an_law_one od_law_due an_law_due od_law_good an_law_good od_law an_law : Option Addr} {sl_look_game sl_look_question sl_Game___init__ sl_Game_ask sl_Game_lies sl_Game_left sl_Game_counts sl_Game_asked sl_Game_back sl_look_counts sl_look_questions sl_choices sl_two_to sl_weight sl_behind sl_bound sl_look_small sl_unevenness sl_parts sl_Worker___init__ sl_Worker_found sl_Worker_can sl_least sl_Asker___init__ sl_Asker_question sl_number_in sl_numbers_text sl_Desk___init__ sl_Desk_need_game sl_Desk_best sl_Desk_one_word sl_Desk_answered sl_Desk_say sl_play sl_law_cell sl_law_mix sl_law_lied sl_law_text sl_law_row sl_law_game sl_law_asked sl_law_counts sl_law_best sl_law_one sl_law_due sl_law_good sl_law : Array (Option Value)} {oc_look_game kV_look_game dc_look_game pm_look_game cd_look_game ct_look_game oc_look_question kV_look_question dc_look_question pm_look_question cd_look_question ct_look_question oc_Game___init__ kV_Game___init__ dc_Game___init__ pm_Game___init__ cd_Game___init__ ct_Game___init__ oc_Game_ask kV_Game_ask dc_Game_ask pm_Game_ask cd_Game_ask ct_Game_ask oc_Game_lies kV_Game_lies dc_Game_lies pm_Game_lies cd_Game_lies ct_Game_lies oc_Game_left kV_Game_left dc_Game_left pm_Game_left cd_Game_left ct_Game_left oc_Game_counts kV_Game_counts dc_Game_counts pm_Game_counts cd_Game_counts ct_Game_counts oc_Game_asked kV_Game_asked dc_Game_asked pm_Game_asked cd_Game_asked ct_Game_asked oc_Game_back kV_Game_back dc_Game_back pm_Game_back cd_Game_back ct_Game_back oc_look_counts kV_look_counts dc_look_counts pm_look_counts cd_look_counts ct_look_counts oc_look_questions kV_look_questions dc_look_questions pm_look_questions cd_look_questions ct_look_questions oc_choices kV_choices dc_choices pm_choices cd_choices ct_choices oc_two_to kV_two_to dc_two_to pm_two_to cd_two_to ct_two_to oc_weight kV_weight dc_weight pm_weight cd_weight ct_weight oc_behind kV_behind dc_behind pm_behind cd_behind ct_behind oc_bound kV_bound dc_bound pm_bound cd_bound ct_bound oc_look_small kV_look_small dc_look_small pm_look_small cd_look_small ct_look_small oc_unevenness kV_unevenness dc_unevenness pm_unevenness cd_unevenness ct_unevenness oc_parts kV_parts dc_parts pm_parts cd_parts ct_parts oc_Worker___init__ kV_Worker___init__ dc_Worker___init__ pm_Worker___init__ cd_Worker___init__ ct_Worker___init__ oc_Worker_found kV_Worker_found dc_Worker_found pm_Worker_found cd_Worker_found ct_Worker_found oc_Worker_can kV_Worker_can dc_Worker_can pm_Worker_can cd_Worker_can ct_Worker_can oc_least kV_least dc_least pm_least cd_least ct_least oc_Asker___init__ kV_Asker___init__ dc_Asker___init__ pm_Asker___init__ cd_Asker___init__ ct_Asker___init__ oc_Asker_question kV_Asker_question dc_Asker_question pm_Asker_question cd_Asker_question ct_Asker_question oc_number_in kV_number_in dc_number_in pm_number_in cd_number_in ct_number_in oc_numbers_text kV_numbers_text dc_numbers_text pm_numbers_text cd_numbers_text ct_numbers_text oc_Desk___init__ kV_Desk___init__ dc_Desk___init__ pm_Desk___init__ cd_Desk___init__ ct_Desk___init__ oc_Desk_need_game kV_Desk_need_game dc_Desk_need_game pm_Desk_need_game cd_Desk_need_game ct_Desk_need_game oc_Desk_best kV_Desk_best dc_Desk_best pm_Desk_best cd_Desk_best ct_Desk_best oc_Desk_one_word kV_Desk_one_word dc_Desk_one_word pm_Desk_one_word cd_Desk_one_word ct_Desk_one_word oc_Desk_answered kV_Desk_answered dc_Desk_answered pm_Desk_answered cd_Desk_answered ct_Desk_answered oc_Desk_say kV_Desk_say dc_Desk_say pm_Desk_say cd_Desk_say ct_Desk_say oc_play kV_play dc_play pm_play cd_play ct_play oc_law_cell kV_law_cell dc_law_cell pm_law_cell cd_law_cell ct_law_cell oc_law_mix kV_law_mix dc_law_mix pm_law_mix cd_law_mix ct_law_mix oc_law_lied kV_law_lied dc_law_lied pm_law_lied cd_law_lied ct_law_lied oc_law_text kV_law_text dc_law_text pm_law_text cd_law_text ct_law_text oc_law_row kV_law_row dc_law_row pm_law_row cd_law_row ct_law_row oc_law_game kV_law_game dc_law_game pm_law_game cd_law_game ct_law_game oc_law_asked kV_law_asked dc_law_asked pm_law_asked cd_law_asked ct_law_asked oc_law_counts kV_law_counts dc_law_counts pm_law_counts cd_law_counts ct_law_counts oc_law_best kV_law_best dc_law_best pm_law_best cd_law_best ct_law_best oc_law_one kV_law_one dc_law_one pm_law_one cd_law_one ct_law_one oc_law_due kV_law_due dc_law_due pm_law_due cd_law_due ct_law_due oc_law_good kV_law_good dc_law_good pm_law_good cd_law_good ct_law_good oc_law kV_law dc_law pm_law cd_law ct_law : Value} {tk_FIGURES tk_MOST_COUNT tk_MOST_LIES tk_MOST_QUESTIONS tk_MOST_THINGS_games tk_MOST_THINGS_plans : Tok} (X : K.In h) (Gn : h.Ns mainGlobals mg) (hfa : mg "law" = some (.ref fa))
    (a_look_game : PySem.W.nsIn K mainGlobals "look_game" = some (some (.ref f_look_game)))
    (l_look_game : K.lookup f_look_game = some ⟨oc_look_game, od_look_game, .func (PySem.W.fnOf "look_game" "look_game" (defArgs s_look_game) (defBody s_look_game) (defScope s_look_game) .none kV_look_game dc_look_game pm_look_game an_look_game cd_look_game ct_look_game), sl_look_game⟩)
    (c_look_game : PySem.W.codeIn K cd_look_game "look_game" = true)
    (k_look_game : PySem.W.keepIn K (.ref f_look_game) = true)
    (a_look_question : PySem.W.nsIn K mainGlobals "look_question" = some (some (.ref f_look_question)))
    (l_look_question : K.lookup f_look_question = some ⟨oc_look_question, od_look_question, .func (PySem.W.fnOf "look_question" "look_question" (defArgs s_look_question) (defBody s_look_question) (defScope s_look_question) .none kV_look_question dc_look_question pm_look_question an_look_question cd_look_question ct_look_question), sl_look_question⟩)
    (c_look_question : PySem.W.codeIn K cd_look_question "look_question" = true)
    (k_look_question : PySem.W.keepIn K (.ref f_look_question) = true)
    (cg_game : PySem.W.nsIn K mainGlobals "Game" = some (some (.ref CC_game)))
    (cp_game : PySem.W.plainGet K CC_game Str.empty = true)
    (ch_game : PySem.W.hasDictIn K CC_game = true)
    (co_game : PySem.W.plainOver K CC_game = true)
    (cs_game : PySem.W.findIn K (.ref CC_game) "__setattr__" = some (some (.builtin "object.__setattr__")))
    (cm_game : PySem.W.makesIn K CC_game = true)
    (ck_game : PySem.W.keepIn K (.ref CC_game) = true)
    (cn_game_most : PySem.W.findIn K (.ref CC_game) "most" = some none)
    (cn_game_row : PySem.W.findIn K (.ref CC_game) "row" = some none)
    (cn_game_things : PySem.W.findIn K (.ref CC_game) "things" = some none)
    (cn_game_told : PySem.W.findIn K (.ref CC_game) "told" = some none)
    (a_Game___init__ : PySem.W.findIn K (.ref CC_game) "__init__" = some (some (.ref f_Game___init__)))
    (i_Game___init__ : PySem.W.isFn K (.ref f_Game___init__) = true)
    (l_Game___init__ : K.lookup f_Game___init__ = some ⟨oc_Game___init__, od_Game___init__, .func (PySem.W.fnOf "__init__" "Game.__init__" (defArgs s_Game___init__) (defBody s_Game___init__) (defScope s_Game___init__) .none kV_Game___init__ dc_Game___init__ pm_Game___init__ an_Game___init__ cd_Game___init__ ct_Game___init__), sl_Game___init__⟩)
    (c_Game___init__ : PySem.W.codeIn K cd_Game___init__ "Game.__init__" = true)
    (k_Game___init__ : PySem.W.keepIn K (.ref f_Game___init__) = true)
    (a_Game_ask : PySem.W.findIn K (.ref CC_game) "ask" = some (some (.ref f_Game_ask)))
    (i_Game_ask : PySem.W.isFn K (.ref f_Game_ask) = true)
    (l_Game_ask : K.lookup f_Game_ask = some ⟨oc_Game_ask, od_Game_ask, .func (PySem.W.fnOf "ask" "Game.ask" (defArgs s_Game_ask) (defBody s_Game_ask) (defScope s_Game_ask) .none kV_Game_ask dc_Game_ask pm_Game_ask an_Game_ask cd_Game_ask ct_Game_ask), sl_Game_ask⟩)
    (c_Game_ask : PySem.W.codeIn K cd_Game_ask "Game.ask" = true)
    (k_Game_ask : PySem.W.keepIn K (.ref f_Game_ask) = true)
    (a_Game_lies : PySem.W.findIn K (.ref CC_game) "lies" = some (some (.ref f_Game_lies)))
    (i_Game_lies : PySem.W.isFn K (.ref f_Game_lies) = true)
    (l_Game_lies : K.lookup f_Game_lies = some ⟨oc_Game_lies, od_Game_lies, .func (PySem.W.fnOf "lies" "Game.lies" (defArgs s_Game_lies) (defBody s_Game_lies) (defScope s_Game_lies) .none kV_Game_lies dc_Game_lies pm_Game_lies an_Game_lies cd_Game_lies ct_Game_lies), sl_Game_lies⟩)
    (c_Game_lies : PySem.W.codeIn K cd_Game_lies "Game.lies" = true)
    (k_Game_lies : PySem.W.keepIn K (.ref f_Game_lies) = true)
    (a_Game_left : PySem.W.findIn K (.ref CC_game) "left" = some (some (.ref f_Game_left)))
    (i_Game_left : PySem.W.isFn K (.ref f_Game_left) = true)
    (l_Game_left : K.lookup f_Game_left = some ⟨oc_Game_left, od_Game_left, .func (PySem.W.fnOf "left" "Game.left" (defArgs s_Game_left) (defBody s_Game_left) (defScope s_Game_left) .none kV_Game_left dc_Game_left pm_Game_left an_Game_left cd_Game_left ct_Game_left), sl_Game_left⟩)
    (c_Game_left : PySem.W.codeIn K cd_Game_left "Game.left" = true)
    (k_Game_left : PySem.W.keepIn K (.ref f_Game_left) = true)
    (a_Game_counts : PySem.W.findIn K (.ref CC_game) "counts" = some (some (.ref f_Game_counts)))
    (i_Game_counts : PySem.W.isFn K (.ref f_Game_counts) = true)
    (l_Game_counts : K.lookup f_Game_counts = some ⟨oc_Game_counts, od_Game_counts, .func (PySem.W.fnOf "counts" "Game.counts" (defArgs s_Game_counts) (defBody s_Game_counts) (defScope s_Game_counts) .none kV_Game_counts dc_Game_counts pm_Game_counts an_Game_counts cd_Game_counts ct_Game_counts), sl_Game_counts⟩)
    (c_Game_counts : PySem.W.codeIn K cd_Game_counts "Game.counts" = true)
    (k_Game_counts : PySem.W.keepIn K (.ref f_Game_counts) = true)
    (a_Game_asked : PySem.W.findIn K (.ref CC_game) "asked" = some (some (.ref f_Game_asked)))
    (i_Game_asked : PySem.W.isFn K (.ref f_Game_asked) = true)
    (l_Game_asked : K.lookup f_Game_asked = some ⟨oc_Game_asked, od_Game_asked, .func (PySem.W.fnOf "asked" "Game.asked" (defArgs s_Game_asked) (defBody s_Game_asked) (defScope s_Game_asked) .none kV_Game_asked dc_Game_asked pm_Game_asked an_Game_asked cd_Game_asked ct_Game_asked), sl_Game_asked⟩)
    (c_Game_asked : PySem.W.codeIn K cd_Game_asked "Game.asked" = true)
    (k_Game_asked : PySem.W.keepIn K (.ref f_Game_asked) = true)
    (a_Game_back : PySem.W.findIn K (.ref CC_game) "back" = some (some (.ref f_Game_back)))
    (i_Game_back : PySem.W.isFn K (.ref f_Game_back) = true)
    (l_Game_back : K.lookup f_Game_back = some ⟨oc_Game_back, od_Game_back, .func (PySem.W.fnOf "back" "Game.back" (defArgs s_Game_back) (defBody s_Game_back) (defScope s_Game_back) .none kV_Game_back dc_Game_back pm_Game_back an_Game_back cd_Game_back ct_Game_back), sl_Game_back⟩)
    (c_Game_back : PySem.W.codeIn K cd_Game_back "Game.back" = true)
    (k_Game_back : PySem.W.keepIn K (.ref f_Game_back) = true)
    (a_look_counts : PySem.W.nsIn K mainGlobals "look_counts" = some (some (.ref f_look_counts)))
    (l_look_counts : K.lookup f_look_counts = some ⟨oc_look_counts, od_look_counts, .func (PySem.W.fnOf "look_counts" "look_counts" (defArgs s_look_counts) (defBody s_look_counts) (defScope s_look_counts) .none kV_look_counts dc_look_counts pm_look_counts an_look_counts cd_look_counts ct_look_counts), sl_look_counts⟩)
    (c_look_counts : PySem.W.codeIn K cd_look_counts "look_counts" = true)
    (k_look_counts : PySem.W.keepIn K (.ref f_look_counts) = true)
    (a_look_questions : PySem.W.nsIn K mainGlobals "look_questions" = some (some (.ref f_look_questions)))
    (l_look_questions : K.lookup f_look_questions = some ⟨oc_look_questions, od_look_questions, .func (PySem.W.fnOf "look_questions" "look_questions" (defArgs s_look_questions) (defBody s_look_questions) (defScope s_look_questions) .none kV_look_questions dc_look_questions pm_look_questions an_look_questions cd_look_questions ct_look_questions), sl_look_questions⟩)
    (c_look_questions : PySem.W.codeIn K cd_look_questions "look_questions" = true)
    (k_look_questions : PySem.W.keepIn K (.ref f_look_questions) = true)
    (a_choices : PySem.W.nsIn K mainGlobals "choices" = some (some (.ref f_choices)))
    (l_choices : K.lookup f_choices = some ⟨oc_choices, od_choices, .func (PySem.W.fnOf "choices" "choices" (defArgs s_choices) (defBody s_choices) (defScope s_choices) .none kV_choices dc_choices pm_choices an_choices cd_choices ct_choices), sl_choices⟩)
    (c_choices : PySem.W.codeIn K cd_choices "choices" = true)
    (k_choices : PySem.W.keepIn K (.ref f_choices) = true)
    (a_two_to : PySem.W.nsIn K mainGlobals "two_to" = some (some (.ref f_two_to)))
    (l_two_to : K.lookup f_two_to = some ⟨oc_two_to, od_two_to, .func (PySem.W.fnOf "two_to" "two_to" (defArgs s_two_to) (defBody s_two_to) (defScope s_two_to) .none kV_two_to dc_two_to pm_two_to an_two_to cd_two_to ct_two_to), sl_two_to⟩)
    (c_two_to : PySem.W.codeIn K cd_two_to "two_to" = true)
    (k_two_to : PySem.W.keepIn K (.ref f_two_to) = true)
    (a_weight : PySem.W.nsIn K mainGlobals "weight" = some (some (.ref f_weight)))
    (l_weight : K.lookup f_weight = some ⟨oc_weight, od_weight, .func (PySem.W.fnOf "weight" "weight" (defArgs s_weight) (defBody s_weight) (defScope s_weight) .none kV_weight dc_weight pm_weight an_weight cd_weight ct_weight), sl_weight⟩)
    (c_weight : PySem.W.codeIn K cd_weight "weight" = true)
    (k_weight : PySem.W.keepIn K (.ref f_weight) = true)
    (a_behind : PySem.W.nsIn K mainGlobals "behind" = some (some (.ref f_behind)))
    (l_behind : K.lookup f_behind = some ⟨oc_behind, od_behind, .func (PySem.W.fnOf "behind" "behind" (defArgs s_behind) (defBody s_behind) (defScope s_behind) .none kV_behind dc_behind pm_behind an_behind cd_behind ct_behind), sl_behind⟩)
    (c_behind : PySem.W.codeIn K cd_behind "behind" = true)
    (k_behind : PySem.W.keepIn K (.ref f_behind) = true)
    (a_bound : PySem.W.nsIn K mainGlobals "bound" = some (some (.ref f_bound)))
    (l_bound : K.lookup f_bound = some ⟨oc_bound, od_bound, .func (PySem.W.fnOf "bound" "bound" (defArgs s_bound) (defBody s_bound) (defScope s_bound) .none kV_bound dc_bound pm_bound an_bound cd_bound ct_bound), sl_bound⟩)
    (c_bound : PySem.W.codeIn K cd_bound "bound" = true)
    (k_bound : PySem.W.keepIn K (.ref f_bound) = true)
    (a_look_small : PySem.W.nsIn K mainGlobals "look_small" = some (some (.ref f_look_small)))
    (l_look_small : K.lookup f_look_small = some ⟨oc_look_small, od_look_small, .func (PySem.W.fnOf "look_small" "look_small" (defArgs s_look_small) (defBody s_look_small) (defScope s_look_small) .none kV_look_small dc_look_small pm_look_small an_look_small cd_look_small ct_look_small), sl_look_small⟩)
    (c_look_small : PySem.W.codeIn K cd_look_small "look_small" = true)
    (k_look_small : PySem.W.keepIn K (.ref f_look_small) = true)
    (a_unevenness : PySem.W.nsIn K mainGlobals "unevenness" = some (some (.ref f_unevenness)))
    (l_unevenness : K.lookup f_unevenness = some ⟨oc_unevenness, od_unevenness, .func (PySem.W.fnOf "unevenness" "unevenness" (defArgs s_unevenness) (defBody s_unevenness) (defScope s_unevenness) .none kV_unevenness dc_unevenness pm_unevenness an_unevenness cd_unevenness ct_unevenness), sl_unevenness⟩)
    (c_unevenness : PySem.W.codeIn K cd_unevenness "unevenness" = true)
    (k_unevenness : PySem.W.keepIn K (.ref f_unevenness) = true)
    (a_parts : PySem.W.nsIn K mainGlobals "parts" = some (some (.ref f_parts)))
    (l_parts : K.lookup f_parts = some ⟨oc_parts, od_parts, .func (PySem.W.fnOf "parts" "parts" (defArgs s_parts) (defBody s_parts) (defScope s_parts) .none kV_parts dc_parts pm_parts an_parts cd_parts ct_parts), sl_parts⟩)
    (c_parts : PySem.W.codeIn K cd_parts "parts" = true)
    (k_parts : PySem.W.keepIn K (.ref f_parts) = true)
    (cg_worker : PySem.W.nsIn K mainGlobals "Worker" = some (some (.ref CC_worker)))
    (cp_worker : PySem.W.plainGet K CC_worker Str.empty = true)
    (ch_worker : PySem.W.hasDictIn K CC_worker = true)
    (co_worker : PySem.W.plainOver K CC_worker = true)
    (cs_worker : PySem.W.findIn K (.ref CC_worker) "__setattr__" = some (some (.builtin "object.__setattr__")))
    (cm_worker : PySem.W.makesIn K CC_worker = true)
    (ck_worker : PySem.W.keepIn K (.ref CC_worker) = true)
    (cn_worker_known : PySem.W.findIn K (.ref CC_worker) "known" = some none)
    (a_Worker___init__ : PySem.W.findIn K (.ref CC_worker) "__init__" = some (some (.ref f_Worker___init__)))
    (i_Worker___init__ : PySem.W.isFn K (.ref f_Worker___init__) = true)
    (l_Worker___init__ : K.lookup f_Worker___init__ = some ⟨oc_Worker___init__, od_Worker___init__, .func (PySem.W.fnOf "__init__" "Worker.__init__" (defArgs s_Worker___init__) (defBody s_Worker___init__) (defScope s_Worker___init__) .none kV_Worker___init__ dc_Worker___init__ pm_Worker___init__ an_Worker___init__ cd_Worker___init__ ct_Worker___init__), sl_Worker___init__⟩)
    (c_Worker___init__ : PySem.W.codeIn K cd_Worker___init__ "Worker.__init__" = true)
    (k_Worker___init__ : PySem.W.keepIn K (.ref f_Worker___init__) = true)
    (a_Worker_found : PySem.W.findIn K (.ref CC_worker) "found" = some (some (.ref f_Worker_found)))
    (i_Worker_found : PySem.W.isFn K (.ref f_Worker_found) = true)
    (l_Worker_found : K.lookup f_Worker_found = some ⟨oc_Worker_found, od_Worker_found, .func (PySem.W.fnOf "found" "Worker.found" (defArgs s_Worker_found) (defBody s_Worker_found) (defScope s_Worker_found) .none kV_Worker_found dc_Worker_found pm_Worker_found an_Worker_found cd_Worker_found ct_Worker_found), sl_Worker_found⟩)
    (c_Worker_found : PySem.W.codeIn K cd_Worker_found "Worker.found" = true)
    (k_Worker_found : PySem.W.keepIn K (.ref f_Worker_found) = true)
    (a_Worker_can : PySem.W.findIn K (.ref CC_worker) "can" = some (some (.ref f_Worker_can)))
    (i_Worker_can : PySem.W.isFn K (.ref f_Worker_can) = true)
    (l_Worker_can : K.lookup f_Worker_can = some ⟨oc_Worker_can, od_Worker_can, .func (PySem.W.fnOf "can" "Worker.can" (defArgs s_Worker_can) (defBody s_Worker_can) (defScope s_Worker_can) .none kV_Worker_can dc_Worker_can pm_Worker_can an_Worker_can cd_Worker_can ct_Worker_can), sl_Worker_can⟩)
    (c_Worker_can : PySem.W.codeIn K cd_Worker_can "Worker.can" = true)
    (k_Worker_can : PySem.W.keepIn K (.ref f_Worker_can) = true)
    (a_least : PySem.W.nsIn K mainGlobals "least" = some (some (.ref f_least)))
    (l_least : K.lookup f_least = some ⟨oc_least, od_least, .func (PySem.W.fnOf "least" "least" (defArgs s_least) (defBody s_least) (defScope s_least) .none kV_least dc_least pm_least an_least cd_least ct_least), sl_least⟩)
    (c_least : PySem.W.codeIn K cd_least "least" = true)
    (k_least : PySem.W.keepIn K (.ref f_least) = true)
    (cg_asker : PySem.W.nsIn K mainGlobals "Asker" = some (some (.ref CC_asker)))
    (cp_asker : PySem.W.plainGet K CC_asker Str.empty = true)
    (ch_asker : PySem.W.hasDictIn K CC_asker = true)
    (co_asker : PySem.W.plainOver K CC_asker = true)
    (cs_asker : PySem.W.findIn K (.ref CC_asker) "__setattr__" = some (some (.builtin "object.__setattr__")))
    (cm_asker : PySem.W.makesIn K CC_asker = true)
    (ck_asker : PySem.W.keepIn K (.ref CC_asker) = true)
    (cn_asker_game : PySem.W.findIn K (.ref CC_asker) "game" = some none)
    (cn_asker_worker : PySem.W.findIn K (.ref CC_asker) "worker" = some none)
    (a_Asker___init__ : PySem.W.findIn K (.ref CC_asker) "__init__" = some (some (.ref f_Asker___init__)))
    (i_Asker___init__ : PySem.W.isFn K (.ref f_Asker___init__) = true)
    (l_Asker___init__ : K.lookup f_Asker___init__ = some ⟨oc_Asker___init__, od_Asker___init__, .func (PySem.W.fnOf "__init__" "Asker.__init__" (defArgs s_Asker___init__) (defBody s_Asker___init__) (defScope s_Asker___init__) .none kV_Asker___init__ dc_Asker___init__ pm_Asker___init__ an_Asker___init__ cd_Asker___init__ ct_Asker___init__), sl_Asker___init__⟩)
    (c_Asker___init__ : PySem.W.codeIn K cd_Asker___init__ "Asker.__init__" = true)
    (k_Asker___init__ : PySem.W.keepIn K (.ref f_Asker___init__) = true)
    (a_Asker_question : PySem.W.findIn K (.ref CC_asker) "question" = some (some (.ref f_Asker_question)))
    (i_Asker_question : PySem.W.isFn K (.ref f_Asker_question) = true)
    (l_Asker_question : K.lookup f_Asker_question = some ⟨oc_Asker_question, od_Asker_question, .func (PySem.W.fnOf "question" "Asker.question" (defArgs s_Asker_question) (defBody s_Asker_question) (defScope s_Asker_question) .none kV_Asker_question dc_Asker_question pm_Asker_question an_Asker_question cd_Asker_question ct_Asker_question), sl_Asker_question⟩)
    (c_Asker_question : PySem.W.codeIn K cd_Asker_question "Asker.question" = true)
    (k_Asker_question : PySem.W.keepIn K (.ref f_Asker_question) = true)
    (a_number_in : PySem.W.nsIn K mainGlobals "number_in" = some (some (.ref f_number_in)))
    (l_number_in : K.lookup f_number_in = some ⟨oc_number_in, od_number_in, .func (PySem.W.fnOf "number_in" "number_in" (defArgs s_number_in) (defBody s_number_in) (defScope s_number_in) .none kV_number_in dc_number_in pm_number_in an_number_in cd_number_in ct_number_in), sl_number_in⟩)
    (c_number_in : PySem.W.codeIn K cd_number_in "number_in" = true)
    (k_number_in : PySem.W.keepIn K (.ref f_number_in) = true)
    (a_numbers_text : PySem.W.nsIn K mainGlobals "numbers_text" = some (some (.ref f_numbers_text)))
    (l_numbers_text : K.lookup f_numbers_text = some ⟨oc_numbers_text, od_numbers_text, .func (PySem.W.fnOf "numbers_text" "numbers_text" (defArgs s_numbers_text) (defBody s_numbers_text) (defScope s_numbers_text) .none kV_numbers_text dc_numbers_text pm_numbers_text an_numbers_text cd_numbers_text ct_numbers_text), sl_numbers_text⟩)
    (c_numbers_text : PySem.W.codeIn K cd_numbers_text "numbers_text" = true)
    (k_numbers_text : PySem.W.keepIn K (.ref f_numbers_text) = true)
    (cg_desk : PySem.W.nsIn K mainGlobals "Desk" = some (some (.ref CC_desk)))
    (cp_desk : PySem.W.plainGet K CC_desk Str.empty = true)
    (ch_desk : PySem.W.hasDictIn K CC_desk = true)
    (co_desk : PySem.W.plainOver K CC_desk = true)
    (cs_desk : PySem.W.findIn K (.ref CC_desk) "__setattr__" = some (some (.builtin "object.__setattr__")))
    (cm_desk : PySem.W.makesIn K CC_desk = true)
    (ck_desk : PySem.W.keepIn K (.ref CC_desk) = true)
    (cn_desk_game : PySem.W.findIn K (.ref CC_desk) "game" = some none)
    (a_Desk___init__ : PySem.W.findIn K (.ref CC_desk) "__init__" = some (some (.ref f_Desk___init__)))
    (i_Desk___init__ : PySem.W.isFn K (.ref f_Desk___init__) = true)
    (l_Desk___init__ : K.lookup f_Desk___init__ = some ⟨oc_Desk___init__, od_Desk___init__, .func (PySem.W.fnOf "__init__" "Desk.__init__" (defArgs s_Desk___init__) (defBody s_Desk___init__) (defScope s_Desk___init__) .none kV_Desk___init__ dc_Desk___init__ pm_Desk___init__ an_Desk___init__ cd_Desk___init__ ct_Desk___init__), sl_Desk___init__⟩)
    (c_Desk___init__ : PySem.W.codeIn K cd_Desk___init__ "Desk.__init__" = true)
    (k_Desk___init__ : PySem.W.keepIn K (.ref f_Desk___init__) = true)
    (a_Desk_need_game : PySem.W.findIn K (.ref CC_desk) "need_game" = some (some (.ref f_Desk_need_game)))
    (i_Desk_need_game : PySem.W.isFn K (.ref f_Desk_need_game) = true)
    (l_Desk_need_game : K.lookup f_Desk_need_game = some ⟨oc_Desk_need_game, od_Desk_need_game, .func (PySem.W.fnOf "need_game" "Desk.need_game" (defArgs s_Desk_need_game) (defBody s_Desk_need_game) (defScope s_Desk_need_game) .none kV_Desk_need_game dc_Desk_need_game pm_Desk_need_game an_Desk_need_game cd_Desk_need_game ct_Desk_need_game), sl_Desk_need_game⟩)
    (c_Desk_need_game : PySem.W.codeIn K cd_Desk_need_game "Desk.need_game" = true)
    (k_Desk_need_game : PySem.W.keepIn K (.ref f_Desk_need_game) = true)
    (a_Desk_best : PySem.W.findIn K (.ref CC_desk) "best" = some (some (.ref f_Desk_best)))
    (i_Desk_best : PySem.W.isFn K (.ref f_Desk_best) = true)
    (l_Desk_best : K.lookup f_Desk_best = some ⟨oc_Desk_best, od_Desk_best, .func (PySem.W.fnOf "best" "Desk.best" (defArgs s_Desk_best) (defBody s_Desk_best) (defScope s_Desk_best) .none kV_Desk_best dc_Desk_best pm_Desk_best an_Desk_best cd_Desk_best ct_Desk_best), sl_Desk_best⟩)
    (c_Desk_best : PySem.W.codeIn K cd_Desk_best "Desk.best" = true)
    (k_Desk_best : PySem.W.keepIn K (.ref f_Desk_best) = true)
    (a_Desk_one_word : PySem.W.findIn K (.ref CC_desk) "one_word" = some (some (.ref f_Desk_one_word)))
    (i_Desk_one_word : PySem.W.isFn K (.ref f_Desk_one_word) = true)
    (l_Desk_one_word : K.lookup f_Desk_one_word = some ⟨oc_Desk_one_word, od_Desk_one_word, .func (PySem.W.fnOf "one_word" "Desk.one_word" (defArgs s_Desk_one_word) (defBody s_Desk_one_word) (defScope s_Desk_one_word) .none kV_Desk_one_word dc_Desk_one_word pm_Desk_one_word an_Desk_one_word cd_Desk_one_word ct_Desk_one_word), sl_Desk_one_word⟩)
    (c_Desk_one_word : PySem.W.codeIn K cd_Desk_one_word "Desk.one_word" = true)
    (k_Desk_one_word : PySem.W.keepIn K (.ref f_Desk_one_word) = true)
    (a_Desk_answered : PySem.W.findIn K (.ref CC_desk) "answered" = some (some (.ref f_Desk_answered)))
    (i_Desk_answered : PySem.W.isFn K (.ref f_Desk_answered) = true)
    (l_Desk_answered : K.lookup f_Desk_answered = some ⟨oc_Desk_answered, od_Desk_answered, .func (PySem.W.fnOf "answered" "Desk.answered" (defArgs s_Desk_answered) (defBody s_Desk_answered) (defScope s_Desk_answered) .none kV_Desk_answered dc_Desk_answered pm_Desk_answered an_Desk_answered cd_Desk_answered ct_Desk_answered), sl_Desk_answered⟩)
    (c_Desk_answered : PySem.W.codeIn K cd_Desk_answered "Desk.answered" = true)
    (k_Desk_answered : PySem.W.keepIn K (.ref f_Desk_answered) = true)
    (a_Desk_say : PySem.W.findIn K (.ref CC_desk) "say" = some (some (.ref f_Desk_say)))
    (i_Desk_say : PySem.W.isFn K (.ref f_Desk_say) = true)
    (l_Desk_say : K.lookup f_Desk_say = some ⟨oc_Desk_say, od_Desk_say, .func (PySem.W.fnOf "say" "Desk.say" (defArgs s_Desk_say) (defBody s_Desk_say) (defScope s_Desk_say) .none kV_Desk_say dc_Desk_say pm_Desk_say an_Desk_say cd_Desk_say ct_Desk_say), sl_Desk_say⟩)
    (c_Desk_say : PySem.W.codeIn K cd_Desk_say "Desk.say" = true)
    (k_Desk_say : PySem.W.keepIn K (.ref f_Desk_say) = true)
    (a_play : PySem.W.nsIn K mainGlobals "play" = some (some (.ref f_play)))
    (l_play : K.lookup f_play = some ⟨oc_play, od_play, .func (PySem.W.fnOf "play" "play" (defArgs s_play) (defBody s_play) (defScope s_play) .none kV_play dc_play pm_play an_play cd_play ct_play), sl_play⟩)
    (c_play : PySem.W.codeIn K cd_play "play" = true)
    (k_play : PySem.W.keepIn K (.ref f_play) = true)
    (a_law_cell : PySem.W.nsIn K mainGlobals "_law_cell" = some (some (.ref f_law_cell)))
    (l_law_cell : K.lookup f_law_cell = some ⟨oc_law_cell, od_law_cell, .func (PySem.W.fnOf "_law_cell" "_law_cell" (defArgs s_law_cell) (defBody s_law_cell) (defScope s_law_cell) .none kV_law_cell dc_law_cell pm_law_cell an_law_cell cd_law_cell ct_law_cell), sl_law_cell⟩)
    (c_law_cell : PySem.W.codeIn K cd_law_cell "_law_cell" = true)
    (k_law_cell : PySem.W.keepIn K (.ref f_law_cell) = true)
    (a_law_mix : PySem.W.nsIn K mainGlobals "_law_mix" = some (some (.ref f_law_mix)))
    (l_law_mix : K.lookup f_law_mix = some ⟨oc_law_mix, od_law_mix, .func (PySem.W.fnOf "_law_mix" "_law_mix" (defArgs s_law_mix) (defBody s_law_mix) (defScope s_law_mix) .none kV_law_mix dc_law_mix pm_law_mix an_law_mix cd_law_mix ct_law_mix), sl_law_mix⟩)
    (c_law_mix : PySem.W.codeIn K cd_law_mix "_law_mix" = true)
    (k_law_mix : PySem.W.keepIn K (.ref f_law_mix) = true)
    (a_law_lied : PySem.W.nsIn K mainGlobals "_law_lied" = some (some (.ref f_law_lied)))
    (l_law_lied : K.lookup f_law_lied = some ⟨oc_law_lied, od_law_lied, .func (PySem.W.fnOf "_law_lied" "_law_lied" (defArgs s_law_lied) (defBody s_law_lied) (defScope s_law_lied) .none kV_law_lied dc_law_lied pm_law_lied an_law_lied cd_law_lied ct_law_lied), sl_law_lied⟩)
    (c_law_lied : PySem.W.codeIn K cd_law_lied "_law_lied" = true)
    (k_law_lied : PySem.W.keepIn K (.ref f_law_lied) = true)
    (a_law_text : PySem.W.nsIn K mainGlobals "_law_text" = some (some (.ref f_law_text)))
    (l_law_text : K.lookup f_law_text = some ⟨oc_law_text, od_law_text, .func (PySem.W.fnOf "_law_text" "_law_text" (defArgs s_law_text) (defBody s_law_text) (defScope s_law_text) .none kV_law_text dc_law_text pm_law_text an_law_text cd_law_text ct_law_text), sl_law_text⟩)
    (c_law_text : PySem.W.codeIn K cd_law_text "_law_text" = true)
    (k_law_text : PySem.W.keepIn K (.ref f_law_text) = true)
    (a_law_row : PySem.W.nsIn K mainGlobals "_law_row" = some (some (.ref f_law_row)))
    (l_law_row : K.lookup f_law_row = some ⟨oc_law_row, od_law_row, .func (PySem.W.fnOf "_law_row" "_law_row" (defArgs s_law_row) (defBody s_law_row) (defScope s_law_row) .none kV_law_row dc_law_row pm_law_row an_law_row cd_law_row ct_law_row), sl_law_row⟩)
    (c_law_row : PySem.W.codeIn K cd_law_row "_law_row" = true)
    (k_law_row : PySem.W.keepIn K (.ref f_law_row) = true)
    (a_law_game : PySem.W.nsIn K mainGlobals "_law_game" = some (some (.ref f_law_game)))
    (l_law_game : K.lookup f_law_game = some ⟨oc_law_game, od_law_game, .func (PySem.W.fnOf "_law_game" "_law_game" (defArgs s_law_game) (defBody s_law_game) (defScope s_law_game) .none kV_law_game dc_law_game pm_law_game an_law_game cd_law_game ct_law_game), sl_law_game⟩)
    (c_law_game : PySem.W.codeIn K cd_law_game "_law_game" = true)
    (k_law_game : PySem.W.keepIn K (.ref f_law_game) = true)
    (a_law_asked : PySem.W.nsIn K mainGlobals "_law_asked" = some (some (.ref f_law_asked)))
    (l_law_asked : K.lookup f_law_asked = some ⟨oc_law_asked, od_law_asked, .func (PySem.W.fnOf "_law_asked" "_law_asked" (defArgs s_law_asked) (defBody s_law_asked) (defScope s_law_asked) .none kV_law_asked dc_law_asked pm_law_asked an_law_asked cd_law_asked ct_law_asked), sl_law_asked⟩)
    (c_law_asked : PySem.W.codeIn K cd_law_asked "_law_asked" = true)
    (k_law_asked : PySem.W.keepIn K (.ref f_law_asked) = true)
    (a_law_counts : PySem.W.nsIn K mainGlobals "_law_counts" = some (some (.ref f_law_counts)))
    (l_law_counts : K.lookup f_law_counts = some ⟨oc_law_counts, od_law_counts, .func (PySem.W.fnOf "_law_counts" "_law_counts" (defArgs s_law_counts) (defBody s_law_counts) (defScope s_law_counts) .none kV_law_counts dc_law_counts pm_law_counts an_law_counts cd_law_counts ct_law_counts), sl_law_counts⟩)
    (c_law_counts : PySem.W.codeIn K cd_law_counts "_law_counts" = true)
    (k_law_counts : PySem.W.keepIn K (.ref f_law_counts) = true)
    (a_law_best : PySem.W.nsIn K mainGlobals "_law_best" = some (some (.ref f_law_best)))
    (l_law_best : K.lookup f_law_best = some ⟨oc_law_best, od_law_best, .func (PySem.W.fnOf "_law_best" "_law_best" (defArgs s_law_best) (defBody s_law_best) (defScope s_law_best) .none kV_law_best dc_law_best pm_law_best an_law_best cd_law_best ct_law_best), sl_law_best⟩)
    (c_law_best : PySem.W.codeIn K cd_law_best "_law_best" = true)
    (k_law_best : PySem.W.keepIn K (.ref f_law_best) = true)
    (a_law_one : PySem.W.nsIn K mainGlobals "_law_one" = some (some (.ref f_law_one)))
    (l_law_one : K.lookup f_law_one = some ⟨oc_law_one, od_law_one, .func (PySem.W.fnOf "_law_one" "_law_one" (defArgs s_law_one) (defBody s_law_one) (defScope s_law_one) .none kV_law_one dc_law_one pm_law_one an_law_one cd_law_one ct_law_one), sl_law_one⟩)
    (c_law_one : PySem.W.codeIn K cd_law_one "_law_one" = true)
    (k_law_one : PySem.W.keepIn K (.ref f_law_one) = true)
    (a_law_due : PySem.W.nsIn K mainGlobals "_law_due" = some (some (.ref f_law_due)))
    (l_law_due : K.lookup f_law_due = some ⟨oc_law_due, od_law_due, .func (PySem.W.fnOf "_law_due" "_law_due" (defArgs s_law_due) (defBody s_law_due) (defScope s_law_due) .none kV_law_due dc_law_due pm_law_due an_law_due cd_law_due ct_law_due), sl_law_due⟩)
    (c_law_due : PySem.W.codeIn K cd_law_due "_law_due" = true)
    (k_law_due : PySem.W.keepIn K (.ref f_law_due) = true)
    (a_law_good : PySem.W.nsIn K mainGlobals "_law_good" = some (some (.ref f_law_good)))
    (l_law_good : K.lookup f_law_good = some ⟨oc_law_good, od_law_good, .func (PySem.W.fnOf "_law_good" "_law_good" (defArgs s_law_good) (defBody s_law_good) (defScope s_law_good) .none kV_law_good dc_law_good pm_law_good an_law_good cd_law_good ct_law_good), sl_law_good⟩)
    (c_law_good : PySem.W.codeIn K cd_law_good "_law_good" = true)
    (k_law_good : PySem.W.keepIn K (.ref f_law_good) = true)
    (a_law : PySem.W.nsIn K mainGlobals "law" = some (some (.ref f_law)))
    (l_law : K.lookup f_law = some ⟨oc_law, od_law, .func (PySem.W.fnOf "law" "law" (defArgs s_law) (defBody s_law) (defScope s_law) .none kV_law dc_law pm_law an_law cd_law ct_law), sl_law⟩)
    (c_law : PySem.W.codeIn K cd_law "law" = true)
    (k_law : PySem.W.keepIn K (.ref f_law) = true)
    (aL : PySem.W.nsIn K mainGlobals "LiarError" = some (some (.ref CL)))
    (oN : PySem.W.specialIn K (.builtin "object.__class__") "__get__" = some (some (.builtin "getset_descriptor.__get__")))
    (oT : PySem.W.takesIn K (.builtin "object.__class__") = some true)
    (eg_game : PySem.W.nsIn K mainGlobals "BadGame" = some (some (.ref C_game)))
    (eq_game : PySem.W.excIn K C_game [.type "ValueError", .type "Exception", .type "BaseException", .type "object"] "ValueError.__new__" = true)
    (ek_game : PySem.W.keepIn K (.ref C_game) = true)
    (eb_game : PySem.W.subIn K (.ref C_game) (.type "BaseException") = some true)
    (et_game : PySem.W.typeIn K (.ref C_game) = some (.type "type"))
    (xg_game : PySem.W.findIn K (.ref C_game) "__getattribute__" = some (some (.builtin "BaseException.__getattribute__")))
    (xk_game : PySem.W.findIn K (.ref C_game) "__getattr__" = some none)
    (xd_game : PySem.W.hasDictIn K C_game = true)
    (xa_game : PySem.W.findIn K (.ref C_game) "__class__" = some (some (.builtin "object.__class__")))
    (xm_game : PySem.W.mroIn K C_game (.type "object") = some true)
    (xv_game : PySem.W.kitOne K (.ref C_game) (.type "ValueError") = some true)
    (xl_game : PySem.W.exmOne K (.ref C_game) (.ref CL) = some true)
    (eg_counts : PySem.W.nsIn K mainGlobals "BadCounts" = some (some (.ref C_counts)))
    (eq_counts : PySem.W.excIn K C_counts [.type "ValueError", .type "Exception", .type "BaseException", .type "object"] "ValueError.__new__" = true)
    (ek_counts : PySem.W.keepIn K (.ref C_counts) = true)
    (eb_counts : PySem.W.subIn K (.ref C_counts) (.type "BaseException") = some true)
    (et_counts : PySem.W.typeIn K (.ref C_counts) = some (.type "type"))
    (xg_counts : PySem.W.findIn K (.ref C_counts) "__getattribute__" = some (some (.builtin "BaseException.__getattribute__")))
    (xk_counts : PySem.W.findIn K (.ref C_counts) "__getattr__" = some none)
    (xd_counts : PySem.W.hasDictIn K C_counts = true)
    (xa_counts : PySem.W.findIn K (.ref C_counts) "__class__" = some (some (.builtin "object.__class__")))
    (xm_counts : PySem.W.mroIn K C_counts (.type "object") = some true)
    (xv_counts : PySem.W.kitOne K (.ref C_counts) (.type "ValueError") = some true)
    (xl_counts : PySem.W.exmOne K (.ref C_counts) (.ref CL) = some true)
    (eg_question : PySem.W.nsIn K mainGlobals "BadQuestion" = some (some (.ref C_question)))
    (eq_question : PySem.W.excIn K C_question [.type "ValueError", .type "Exception", .type "BaseException", .type "object"] "ValueError.__new__" = true)
    (ek_question : PySem.W.keepIn K (.ref C_question) = true)
    (eb_question : PySem.W.subIn K (.ref C_question) (.type "BaseException") = some true)
    (et_question : PySem.W.typeIn K (.ref C_question) = some (.type "type"))
    (xg_question : PySem.W.findIn K (.ref C_question) "__getattribute__" = some (some (.builtin "BaseException.__getattribute__")))
    (xk_question : PySem.W.findIn K (.ref C_question) "__getattr__" = some none)
    (xd_question : PySem.W.hasDictIn K C_question = true)
    (xa_question : PySem.W.findIn K (.ref C_question) "__class__" = some (some (.builtin "object.__class__")))
    (xm_question : PySem.W.mroIn K C_question (.type "object") = some true)
    (xv_question : PySem.W.kitOne K (.ref C_question) (.type "ValueError") = some true)
    (xl_question : PySem.W.exmOne K (.ref C_question) (.ref CL) = some true)
    (eg_liar : PySem.W.nsIn K mainGlobals "Liar" = some (some (.ref C_liar)))
    (eq_liar : PySem.W.excIn K C_liar [.type "ValueError", .type "Exception", .type "BaseException", .type "object"] "ValueError.__new__" = true)
    (ek_liar : PySem.W.keepIn K (.ref C_liar) = true)
    (eb_liar : PySem.W.subIn K (.ref C_liar) (.type "BaseException") = some true)
    (et_liar : PySem.W.typeIn K (.ref C_liar) = some (.type "type"))
    (xg_liar : PySem.W.findIn K (.ref C_liar) "__getattribute__" = some (some (.builtin "BaseException.__getattribute__")))
    (xk_liar : PySem.W.findIn K (.ref C_liar) "__getattr__" = some none)
    (xd_liar : PySem.W.hasDictIn K C_liar = true)
    (xa_liar : PySem.W.findIn K (.ref C_liar) "__class__" = some (some (.builtin "object.__class__")))
    (xm_liar : PySem.W.mroIn K C_liar (.type "object") = some true)
    (xv_liar : PySem.W.kitOne K (.ref C_liar) (.type "ValueError") = some true)
    (xl_liar : PySem.W.exmOne K (.ref C_liar) (.ref CL) = some true)
    (eg_row : PySem.W.nsIn K mainGlobals "BadRow" = some (some (.ref C_row)))
    (eq_row : PySem.W.excIn K C_row [.type "ValueError", .type "Exception", .type "BaseException", .type "object"] "ValueError.__new__" = true)
    (ek_row : PySem.W.keepIn K (.ref C_row) = true)
    (eb_row : PySem.W.subIn K (.ref C_row) (.type "BaseException") = some true)
    (et_row : PySem.W.typeIn K (.ref C_row) = some (.type "type"))
    (xg_row : PySem.W.findIn K (.ref C_row) "__getattribute__" = some (some (.builtin "BaseException.__getattribute__")))
    (xk_row : PySem.W.findIn K (.ref C_row) "__getattr__" = some none)
    (xd_row : PySem.W.hasDictIn K C_row = true)
    (xa_row : PySem.W.findIn K (.ref C_row) "__class__" = some (some (.builtin "object.__class__")))
    (xm_row : PySem.W.mroIn K C_row (.type "object") = some true)
    (xv_row : PySem.W.kitOne K (.ref C_row) (.type "ValueError") = some true)
    (xl_row : PySem.W.exmOne K (.ref C_row) (.ref CL) = some true)
    (kt_game_game : PySem.W.kitOne K (.ref C_game) (.ref C_game) = some true)
    (kt_game_counts : PySem.W.kitOne K (.ref C_game) (.ref C_counts) = some false)
    (kt_game_question : PySem.W.kitOne K (.ref C_game) (.ref C_question) = some false)
    (kt_game_liar : PySem.W.kitOne K (.ref C_game) (.ref C_liar) = some false)
    (kt_game_row : PySem.W.kitOne K (.ref C_game) (.ref C_row) = some false)
    (xp_game_game : PySem.W.exmOne K (.ref C_game) (.ref C_game) = some true)
    (xp_game_counts : PySem.W.exmOne K (.ref C_game) (.ref C_counts) = some false)
    (xp_game_question : PySem.W.exmOne K (.ref C_game) (.ref C_question) = some false)
    (xp_game_liar : PySem.W.exmOne K (.ref C_game) (.ref C_liar) = some false)
    (xp_game_row : PySem.W.exmOne K (.ref C_game) (.ref C_row) = some false)
    (kt_counts_game : PySem.W.kitOne K (.ref C_counts) (.ref C_game) = some false)
    (kt_counts_counts : PySem.W.kitOne K (.ref C_counts) (.ref C_counts) = some true)
    (kt_counts_question : PySem.W.kitOne K (.ref C_counts) (.ref C_question) = some false)
    (kt_counts_liar : PySem.W.kitOne K (.ref C_counts) (.ref C_liar) = some false)
    (kt_counts_row : PySem.W.kitOne K (.ref C_counts) (.ref C_row) = some false)
    (xp_counts_game : PySem.W.exmOne K (.ref C_counts) (.ref C_game) = some false)
    (xp_counts_counts : PySem.W.exmOne K (.ref C_counts) (.ref C_counts) = some true)
    (xp_counts_question : PySem.W.exmOne K (.ref C_counts) (.ref C_question) = some false)
    (xp_counts_liar : PySem.W.exmOne K (.ref C_counts) (.ref C_liar) = some false)
    (xp_counts_row : PySem.W.exmOne K (.ref C_counts) (.ref C_row) = some false)
    (kt_question_game : PySem.W.kitOne K (.ref C_question) (.ref C_game) = some false)
    (kt_question_counts : PySem.W.kitOne K (.ref C_question) (.ref C_counts) = some false)
    (kt_question_question : PySem.W.kitOne K (.ref C_question) (.ref C_question) = some true)
    (kt_question_liar : PySem.W.kitOne K (.ref C_question) (.ref C_liar) = some false)
    (kt_question_row : PySem.W.kitOne K (.ref C_question) (.ref C_row) = some false)
    (xp_question_game : PySem.W.exmOne K (.ref C_question) (.ref C_game) = some false)
    (xp_question_counts : PySem.W.exmOne K (.ref C_question) (.ref C_counts) = some false)
    (xp_question_question : PySem.W.exmOne K (.ref C_question) (.ref C_question) = some true)
    (xp_question_liar : PySem.W.exmOne K (.ref C_question) (.ref C_liar) = some false)
    (xp_question_row : PySem.W.exmOne K (.ref C_question) (.ref C_row) = some false)
    (kt_liar_game : PySem.W.kitOne K (.ref C_liar) (.ref C_game) = some false)
    (kt_liar_counts : PySem.W.kitOne K (.ref C_liar) (.ref C_counts) = some false)
    (kt_liar_question : PySem.W.kitOne K (.ref C_liar) (.ref C_question) = some false)
    (kt_liar_liar : PySem.W.kitOne K (.ref C_liar) (.ref C_liar) = some true)
    (kt_liar_row : PySem.W.kitOne K (.ref C_liar) (.ref C_row) = some false)
    (xp_liar_game : PySem.W.exmOne K (.ref C_liar) (.ref C_game) = some false)
    (xp_liar_counts : PySem.W.exmOne K (.ref C_liar) (.ref C_counts) = some false)
    (xp_liar_question : PySem.W.exmOne K (.ref C_liar) (.ref C_question) = some false)
    (xp_liar_liar : PySem.W.exmOne K (.ref C_liar) (.ref C_liar) = some true)
    (xp_liar_row : PySem.W.exmOne K (.ref C_liar) (.ref C_row) = some false)
    (kt_row_game : PySem.W.kitOne K (.ref C_row) (.ref C_game) = some false)
    (kt_row_counts : PySem.W.kitOne K (.ref C_row) (.ref C_counts) = some false)
    (kt_row_question : PySem.W.kitOne K (.ref C_row) (.ref C_question) = some false)
    (kt_row_liar : PySem.W.kitOne K (.ref C_row) (.ref C_liar) = some false)
    (kt_row_row : PySem.W.kitOne K (.ref C_row) (.ref C_row) = some true)
    (xp_row_game : PySem.W.exmOne K (.ref C_row) (.ref C_game) = some false)
    (xp_row_counts : PySem.W.exmOne K (.ref C_row) (.ref C_counts) = some false)
    (xp_row_question : PySem.W.exmOne K (.ref C_row) (.ref C_question) = some false)
    (xp_row_liar : PySem.W.exmOne K (.ref C_row) (.ref C_liar) = some false)
    (xp_row_row : PySem.W.exmOne K (.ref C_row) (.ref C_row) = some true)
    (b_abs : PySem.W.nsIn K mainGlobals "abs" = some none)
    (b_all : PySem.W.nsIn K mainGlobals "all" = some none)
    (b_int : PySem.W.nsIn K mainGlobals "int" = some none)
    (b_isinstance : PySem.W.nsIn K mainGlobals "isinstance" = some none)
    (b_len : PySem.W.nsIn K mainGlobals "len" = some none)
    (b_list : PySem.W.nsIn K mainGlobals "list" = some none)
    (b_max : PySem.W.nsIn K mainGlobals "max" = some none)
    (b_min : PySem.W.nsIn K mainGlobals "min" = some none)
    (b_range : PySem.W.nsIn K mainGlobals "range" = some none)
    (b_set : PySem.W.nsIn K mainGlobals "set" = some none)
    (b_sorted : PySem.W.nsIn K mainGlobals "sorted" = some none)
    (b_str : PySem.W.nsIn K mainGlobals "str" = some none)
    (b_sum : PySem.W.nsIn K mainGlobals "sum" = some none)
    (b_tuple : PySem.W.nsIn K mainGlobals "tuple" = some none)
    (v_FIGURES : PySem.W.nsIn K mainGlobals "FIGURES" = some (some (.str (Str.ofString "0123456789") tk_FIGURES)))
    (v_MOST_COUNT : PySem.W.nsIn K mainGlobals "MOST_COUNT" = some (some (.int 64 tk_MOST_COUNT)))
    (v_MOST_LIES : PySem.W.nsIn K mainGlobals "MOST_LIES" = some (some (.int 4 tk_MOST_LIES)))
    (v_MOST_QUESTIONS : PySem.W.nsIn K mainGlobals "MOST_QUESTIONS" = some (some (.int 60 tk_MOST_QUESTIONS)))
    (v_MOST_THINGS_games : PySem.W.nsIn K mainGlobals "MOST_THINGS_games" = some (some (.int 64 tk_MOST_THINGS_games)))
    (v_MOST_THINGS_plans : PySem.W.nsIn K mainGlobals "MOST_THINGS_plans" = some (some (.int 12 tk_MOST_THINGS_plans))) :
    ∃ fd : FuncData, (∀ (s : Shared) (v : Value), BindsTo s fd ⟨[v], []⟩ [("script", v)]) ∧ ∀ base : Heap, K.In base → base.Ns mainGlobals mg → FnOk P w K mg base (L2.CX P w) 134 fa fd ["script"] (sp_law K) := by
  have e := hfa.symm.trans (PySem.W.mg_of X Gn a_law)
  cases e
  let G : Ctx := { K := K, w := w, le := CL, ex := exMap C_game C_counts C_question C_liar C_row, has := hasMap, cl := clMap CC_game CC_worker CC_asker CC_desk }
  have exc : ExcT G := by
    refine ⟨fun t ht => ?_, fun t u ht hu => ?_, fun t ht => ?_⟩
    · cases t with
      | game => exact ⟨xg_game, xk_game, eb_game, xd_game, xa_game, oN, oT, xm_game⟩
      | counts => exact ⟨xg_counts, xk_counts, eb_counts, xd_counts, xa_counts, oN, oT, xm_counts⟩
      | question => exact ⟨xg_question, xk_question, eb_question, xd_question, xa_question, oN, oT, xm_question⟩
      | liar => exact ⟨xg_liar, xk_liar, eb_liar, xd_liar, xa_liar, oN, oT, xm_liar⟩
      | plan => cases ht
      | text => cases ht
      | row => exact ⟨xg_row, xk_row, eb_row, xd_row, xa_row, oN, oT, xm_row⟩
    · cases t with
      | game =>
        cases u with
        | game => exact kt_game_game
        | counts => exact kt_game_counts
        | question => exact kt_game_question
        | liar => exact kt_game_liar
        | plan => cases hu
        | text => cases hu
        | row => exact kt_game_row
      | counts =>
        cases u with
        | game => exact kt_counts_game
        | counts => exact kt_counts_counts
        | question => exact kt_counts_question
        | liar => exact kt_counts_liar
        | plan => cases hu
        | text => cases hu
        | row => exact kt_counts_row
      | question =>
        cases u with
        | game => exact kt_question_game
        | counts => exact kt_question_counts
        | question => exact kt_question_question
        | liar => exact kt_question_liar
        | plan => cases hu
        | text => cases hu
        | row => exact kt_question_row
      | liar =>
        cases u with
        | game => exact kt_liar_game
        | counts => exact kt_liar_counts
        | question => exact kt_liar_question
        | liar => exact kt_liar_liar
        | plan => cases hu
        | text => cases hu
        | row => exact kt_liar_row
      | plan => cases ht
      | text => cases ht
      | row =>
        cases u with
        | game => exact kt_row_game
        | counts => exact kt_row_counts
        | question => exact kt_row_question
        | liar => exact kt_row_liar
        | plan => cases hu
        | text => cases hu
        | row => exact kt_row_row
    · cases t with
      | game => exact xv_game
      | counts => exact xv_counts
      | question => exact xv_question
      | liar => exact xv_liar
      | plan => cases ht
      | text => cases ht
      | row => exact xv_row
  have xall : XAll G := by
    intro t ht
    cases t with
    | game => exact xl_game
    | counts => exact xl_counts
    | question => exact xl_question
    | liar => exact xl_liar
    | plan => cases ht
    | text => cases ht
    | row => exact xl_row
  have xp : XPair G := by
    intro t u ht hu
    cases t with
    | game =>
      cases u with
      | game => exact xp_game_game
      | counts => exact xp_game_counts
      | question => exact xp_game_question
      | liar => exact xp_game_liar
      | plan => cases hu
      | text => cases hu
      | row => exact xp_game_row
    | counts =>
      cases u with
      | game => exact xp_counts_game
      | counts => exact xp_counts_counts
      | question => exact xp_counts_question
      | liar => exact xp_counts_liar
      | plan => cases hu
      | text => cases hu
      | row => exact xp_counts_row
    | question =>
      cases u with
      | game => exact xp_question_game
      | counts => exact xp_question_counts
      | question => exact xp_question_question
      | liar => exact xp_question_liar
      | plan => cases hu
      | text => cases hu
      | row => exact xp_question_row
    | liar =>
      cases u with
      | game => exact xp_liar_game
      | counts => exact xp_liar_counts
      | question => exact xp_liar_question
      | liar => exact xp_liar_liar
      | plan => cases hu
      | text => cases hu
      | row => exact xp_liar_row
    | plan => cases ht
    | text => cases ht
    | row =>
      cases u with
      | game => exact xp_row_game
      | counts => exact xp_row_counts
      | question => exact xp_row_question
      | liar => exact xp_row_liar
      | plan => cases hu
      | text => cases hu
      | row => exact xp_row_row
  have T : Tx G mg := ⟨PySem.W.mg_none_of X Gn b_abs, PySem.W.mg_none_of X Gn b_all, PySem.W.mg_none_of X Gn b_int, PySem.W.mg_none_of X Gn b_isinstance, PySem.W.mg_none_of X Gn b_len, PySem.W.mg_none_of X Gn b_list, PySem.W.mg_none_of X Gn b_max, PySem.W.mg_none_of X Gn b_min, PySem.W.mg_none_of X Gn b_range, PySem.W.mg_none_of X Gn b_set, PySem.W.mg_none_of X Gn b_sorted, PySem.W.mg_none_of X Gn b_str, PySem.W.mg_none_of X Gn b_sum, PySem.W.mg_none_of X Gn b_tuple, ⟨_, PySem.W.mg_of X Gn v_FIGURES⟩, ⟨_, PySem.W.mg_of X Gn v_MOST_COUNT⟩, ⟨_, PySem.W.mg_of X Gn v_MOST_LIES⟩, ⟨_, PySem.W.mg_of X Gn v_MOST_QUESTIONS⟩, ⟨_, PySem.W.mg_of X Gn v_MOST_THINGS_games⟩, ⟨_, PySem.W.mg_of X Gn v_MOST_THINGS_plans⟩, ⟨rfl, PySem.W.mg_of X Gn eg_game, eq_game, ek_game, eb_game, et_game⟩, ⟨rfl, PySem.W.mg_of X Gn eg_counts, eq_counts, ek_counts, eb_counts, et_counts⟩, ⟨rfl, PySem.W.mg_of X Gn eg_question, eq_question, ek_question, eb_question, et_question⟩, ⟨rfl, PySem.W.mg_of X Gn eg_liar, eq_liar, ek_liar, eb_liar, et_liar⟩, ⟨rfl, PySem.W.mg_of X Gn eg_row, eq_row, ek_row, eb_row, et_row⟩, ⟨⟨cp_game, ch_game, co_game, cs_game⟩⟩, ⟨PySem.W.mg_of X Gn cg_game, cm_game, ck_game⟩, ⟨⟨cp_worker, ch_worker, co_worker, cs_worker⟩⟩, ⟨PySem.W.mg_of X Gn cg_worker, cm_worker, ck_worker⟩, ⟨⟨cp_asker, ch_asker, co_asker, cs_asker⟩⟩, ⟨PySem.W.mg_of X Gn cg_asker, cm_asker, ck_asker⟩, ⟨⟨cp_desk, ch_desk, co_desk, cs_desk⟩⟩, ⟨PySem.W.mg_of X Gn cg_desk, cm_desk, ck_desk⟩, cn_asker_game, cn_asker_worker, cn_desk_game, cn_game_most, cn_game_row, cn_game_things, cn_game_told, cn_worker_known, PySem.W.mg_of X Gn aL, exc, xall, xp⟩
  have F_look_game : DefAt G mg "look_game" "look_game" s_look_game ["things", "lies"] := ⟨_, _, fun_mk l_look_game c_look_game k_look_game, (fun_mk (st := s_look_game) l_look_game c_look_game k_look_game).binds (fun _ _ _ _ _ _ us hl => match us, hl with | [_, _], _ => rfl), PySem.W.mg_of X Gn a_look_game⟩
  have F_look_question : DefAt G mg "look_question" "look_question" s_look_question ["things", "question"] := ⟨_, _, fun_mk l_look_question c_look_question k_look_question, (fun_mk (st := s_look_question) l_look_question c_look_question k_look_question).binds (fun _ _ _ _ _ _ us hl => match us, hl with | [_, _], _ => rfl), PySem.W.mg_of X Gn a_look_question⟩
  have F_Game___init__ : MethAt G .game "__init__" "Game.__init__" s_Game___init__ ["self", "things", "lies"] := ⟨_, _, fun_mk l_Game___init__ c_Game___init__ k_Game___init__, (fun_mk (st := s_Game___init__) l_Game___init__ c_Game___init__ k_Game___init__).binds (fun _ _ _ _ _ _ us hl => match us, hl with | [_, _, _], _ => rfl), ⟨a_Game___init__, i_Game___init__, k_Game___init__⟩⟩
  have F_Game_ask : MethAt G .game "ask" "Game.ask" s_Game_ask ["self", "question", "answer"] := ⟨_, _, fun_mk l_Game_ask c_Game_ask k_Game_ask, (fun_mk (st := s_Game_ask) l_Game_ask c_Game_ask k_Game_ask).binds (fun _ _ _ _ _ _ us hl => match us, hl with | [_, _, _], _ => rfl), ⟨a_Game_ask, i_Game_ask, k_Game_ask⟩⟩
  have F_Game_lies : MethAt G .game "lies" "Game.lies" s_Game_lies ["self"] := ⟨_, _, fun_mk l_Game_lies c_Game_lies k_Game_lies, (fun_mk (st := s_Game_lies) l_Game_lies c_Game_lies k_Game_lies).binds (fun _ _ _ _ _ _ us hl => match us, hl with | [_], _ => rfl), ⟨a_Game_lies, i_Game_lies, k_Game_lies⟩⟩
  have F_Game_left : MethAt G .game "left" "Game.left" s_Game_left ["self"] := ⟨_, _, fun_mk l_Game_left c_Game_left k_Game_left, (fun_mk (st := s_Game_left) l_Game_left c_Game_left k_Game_left).binds (fun _ _ _ _ _ _ us hl => match us, hl with | [_], _ => rfl), ⟨a_Game_left, i_Game_left, k_Game_left⟩⟩
  have F_Game_counts : MethAt G .game "counts" "Game.counts" s_Game_counts ["self"] := ⟨_, _, fun_mk l_Game_counts c_Game_counts k_Game_counts, (fun_mk (st := s_Game_counts) l_Game_counts c_Game_counts k_Game_counts).binds (fun _ _ _ _ _ _ us hl => match us, hl with | [_], _ => rfl), ⟨a_Game_counts, i_Game_counts, k_Game_counts⟩⟩
  have F_Game_asked : MethAt G .game "asked" "Game.asked" s_Game_asked ["self"] := ⟨_, _, fun_mk l_Game_asked c_Game_asked k_Game_asked, (fun_mk (st := s_Game_asked) l_Game_asked c_Game_asked k_Game_asked).binds (fun _ _ _ _ _ _ us hl => match us, hl with | [_], _ => rfl), ⟨a_Game_asked, i_Game_asked, k_Game_asked⟩⟩
  have F_Game_back : MethAt G .game "back" "Game.back" s_Game_back ["self"] := ⟨_, _, fun_mk l_Game_back c_Game_back k_Game_back, (fun_mk (st := s_Game_back) l_Game_back c_Game_back k_Game_back).binds (fun _ _ _ _ _ _ us hl => match us, hl with | [_], _ => rfl), ⟨a_Game_back, i_Game_back, k_Game_back⟩⟩
  have F_look_counts : DefAt G mg "look_counts" "look_counts" s_look_counts ["counts"] := ⟨_, _, fun_mk l_look_counts c_look_counts k_look_counts, (fun_mk (st := s_look_counts) l_look_counts c_look_counts k_look_counts).binds (fun _ _ _ _ _ _ us hl => match us, hl with | [_], _ => rfl), PySem.W.mg_of X Gn a_look_counts⟩
  have F_look_questions : DefAt G mg "look_questions" "look_questions" s_look_questions ["many"] := ⟨_, _, fun_mk l_look_questions c_look_questions k_look_questions, (fun_mk (st := s_look_questions) l_look_questions c_look_questions k_look_questions).binds (fun _ _ _ _ _ _ us hl => match us, hl with | [_], _ => rfl), PySem.W.mg_of X Gn a_look_questions⟩
  have F_choices : DefAt G mg "choices" "choices" s_choices ["many", "most"] := ⟨_, _, fun_mk l_choices c_choices k_choices, (fun_mk (st := s_choices) l_choices c_choices k_choices).binds (fun _ _ _ _ _ _ us hl => match us, hl with | [_, _], _ => rfl), PySem.W.mg_of X Gn a_choices⟩
  have F_two_to : DefAt G mg "two_to" "two_to" s_two_to ["many"] := ⟨_, _, fun_mk l_two_to c_two_to k_two_to, (fun_mk (st := s_two_to) l_two_to c_two_to k_two_to).binds (fun _ _ _ _ _ _ us hl => match us, hl with | [_], _ => rfl), PySem.W.mg_of X Gn a_two_to⟩
  have F_weight : DefAt G mg "weight" "weight" s_weight ["counts", "many"] := ⟨_, _, fun_mk l_weight c_weight k_weight, (fun_mk (st := s_weight) l_weight c_weight k_weight).binds (fun _ _ _ _ _ _ us hl => match us, hl with | [_, _], _ => rfl), PySem.W.mg_of X Gn a_weight⟩
  have F_behind : DefAt G mg "behind" "behind" s_behind ["counts", "part"] := ⟨_, _, fun_mk l_behind c_behind k_behind, (fun_mk (st := s_behind) l_behind c_behind k_behind).binds (fun _ _ _ _ _ _ us hl => match us, hl with | [_, _], _ => rfl), PySem.W.mg_of X Gn a_behind⟩
  have F_bound : DefAt G mg "bound" "bound" s_bound ["counts"] := ⟨_, _, fun_mk l_bound c_bound k_bound, (fun_mk (st := s_bound) l_bound c_bound k_bound).binds (fun _ _ _ _ _ _ us hl => match us, hl with | [_], _ => rfl), PySem.W.mg_of X Gn a_bound⟩
  have F_look_small : DefAt G mg "look_small" "look_small" s_look_small ["counts"] := ⟨_, _, fun_mk l_look_small c_look_small k_look_small, (fun_mk (st := s_look_small) l_look_small c_look_small k_look_small).binds (fun _ _ _ _ _ _ us hl => match us, hl with | [_], _ => rfl), PySem.W.mg_of X Gn a_look_small⟩
  have F_unevenness : DefAt G mg "unevenness" "unevenness" s_unevenness ["counts", "part"] := ⟨_, _, fun_mk l_unevenness c_unevenness k_unevenness, (fun_mk (st := s_unevenness) l_unevenness c_unevenness k_unevenness).binds (fun _ _ _ _ _ _ us hl => match us, hl with | [_, _], _ => rfl), PySem.W.mg_of X Gn a_unevenness⟩
  have F_parts : DefAt G mg "parts" "parts" s_parts ["counts"] := ⟨_, _, fun_mk l_parts c_parts k_parts, (fun_mk (st := s_parts) l_parts c_parts k_parts).binds (fun _ _ _ _ _ _ us hl => match us, hl with | [_], _ => rfl), PySem.W.mg_of X Gn a_parts⟩
  have F_Worker___init__ : MethAt G .worker "__init__" "Worker.__init__" s_Worker___init__ ["self"] := ⟨_, _, fun_mk l_Worker___init__ c_Worker___init__ k_Worker___init__, (fun_mk (st := s_Worker___init__) l_Worker___init__ c_Worker___init__ k_Worker___init__).binds (fun _ _ _ _ _ _ us hl => match us, hl with | [_], _ => rfl), ⟨a_Worker___init__, i_Worker___init__, k_Worker___init__⟩⟩
  have F_Worker_found : MethAt G .worker "found" "Worker.found" s_Worker_found ["self", "counts", "many"] := ⟨_, _, fun_mk l_Worker_found c_Worker_found k_Worker_found, (fun_mk (st := s_Worker_found) l_Worker_found c_Worker_found k_Worker_found).binds (fun _ _ _ _ _ _ us hl => match us, hl with | [_, _, _], _ => rfl), ⟨a_Worker_found, i_Worker_found, k_Worker_found⟩⟩
  have F_Worker_can : MethAt G .worker "can" "Worker.can" s_Worker_can ["self", "counts", "many"] := ⟨_, _, fun_mk l_Worker_can c_Worker_can k_Worker_can, (fun_mk (st := s_Worker_can) l_Worker_can c_Worker_can k_Worker_can).binds (fun _ _ _ _ _ _ us hl => match us, hl with | [_, _, _], _ => rfl), ⟨a_Worker_can, i_Worker_can, k_Worker_can⟩⟩
  have F_least : DefAt G mg "least" "least" s_least ["counts"] := ⟨_, _, fun_mk l_least c_least k_least, (fun_mk (st := s_least) l_least c_least k_least).binds (fun _ _ _ _ _ _ us hl => match us, hl with | [_], _ => rfl), PySem.W.mg_of X Gn a_least⟩
  have F_Asker___init__ : MethAt G .asker "__init__" "Asker.__init__" s_Asker___init__ ["self", "things", "lies"] := ⟨_, _, fun_mk l_Asker___init__ c_Asker___init__ k_Asker___init__, (fun_mk (st := s_Asker___init__) l_Asker___init__ c_Asker___init__ k_Asker___init__).binds (fun _ _ _ _ _ _ us hl => match us, hl with | [_, _, _], _ => rfl), ⟨a_Asker___init__, i_Asker___init__, k_Asker___init__⟩⟩
  have F_Asker_question : MethAt G .asker "question" "Asker.question" s_Asker_question ["self"] := ⟨_, _, fun_mk l_Asker_question c_Asker_question k_Asker_question, (fun_mk (st := s_Asker_question) l_Asker_question c_Asker_question k_Asker_question).binds (fun _ _ _ _ _ _ us hl => match us, hl with | [_], _ => rfl), ⟨a_Asker_question, i_Asker_question, k_Asker_question⟩⟩
  have F_number_in : DefAt G mg "number_in" "number_in" s_number_in ["word"] := ⟨_, _, fun_mk l_number_in c_number_in k_number_in, (fun_mk (st := s_number_in) l_number_in c_number_in k_number_in).binds (fun _ _ _ _ _ _ us hl => match us, hl with | [_], _ => rfl), PySem.W.mg_of X Gn a_number_in⟩
  have F_numbers_text : DefAt G mg "numbers_text" "numbers_text" s_numbers_text ["numbers"] := ⟨_, _, fun_mk l_numbers_text c_numbers_text k_numbers_text, (fun_mk (st := s_numbers_text) l_numbers_text c_numbers_text k_numbers_text).binds (fun _ _ _ _ _ _ us hl => match us, hl with | [_], _ => rfl), PySem.W.mg_of X Gn a_numbers_text⟩
  have F_Desk___init__ : MethAt G .desk "__init__" "Desk.__init__" s_Desk___init__ ["self"] := ⟨_, _, fun_mk l_Desk___init__ c_Desk___init__ k_Desk___init__, (fun_mk (st := s_Desk___init__) l_Desk___init__ c_Desk___init__ k_Desk___init__).binds (fun _ _ _ _ _ _ us hl => match us, hl with | [_], _ => rfl), ⟨a_Desk___init__, i_Desk___init__, k_Desk___init__⟩⟩
  have F_Desk_need_game : MethAt G .desk "need_game" "Desk.need_game" s_Desk_need_game ["self"] := ⟨_, _, fun_mk l_Desk_need_game c_Desk_need_game k_Desk_need_game, (fun_mk (st := s_Desk_need_game) l_Desk_need_game c_Desk_need_game k_Desk_need_game).binds (fun _ _ _ _ _ _ us hl => match us, hl with | [_], _ => rfl), ⟨a_Desk_need_game, i_Desk_need_game, k_Desk_need_game⟩⟩
  have F_Desk_best : MethAt G .desk "best" "Desk.best" s_Desk_best ["self", "game"] := ⟨_, _, fun_mk l_Desk_best c_Desk_best k_Desk_best, (fun_mk (st := s_Desk_best) l_Desk_best c_Desk_best k_Desk_best).binds (fun _ _ _ _ _ _ us hl => match us, hl with | [_, _], _ => rfl), ⟨a_Desk_best, i_Desk_best, k_Desk_best⟩⟩
  have F_Desk_one_word : MethAt G .desk "one_word" "Desk.one_word" s_Desk_one_word ["self", "word", "game"] := ⟨_, _, fun_mk l_Desk_one_word c_Desk_one_word k_Desk_one_word, (fun_mk (st := s_Desk_one_word) l_Desk_one_word c_Desk_one_word k_Desk_one_word).binds (fun _ _ _ _ _ _ us hl => match us, hl with | [_, _, _], _ => rfl), ⟨a_Desk_one_word, i_Desk_one_word, k_Desk_one_word⟩⟩
  have F_Desk_answered : MethAt G .desk "answered" "Desk.answered" s_Desk_answered ["self", "words"] := ⟨_, _, fun_mk l_Desk_answered c_Desk_answered k_Desk_answered, (fun_mk (st := s_Desk_answered) l_Desk_answered c_Desk_answered k_Desk_answered).binds (fun _ _ _ _ _ _ us hl => match us, hl with | [_, _], _ => rfl), ⟨a_Desk_answered, i_Desk_answered, k_Desk_answered⟩⟩
  have F_Desk_say : MethAt G .desk "say" "Desk.say" s_Desk_say ["self", "row"] := ⟨_, _, fun_mk l_Desk_say c_Desk_say k_Desk_say, (fun_mk (st := s_Desk_say) l_Desk_say c_Desk_say k_Desk_say).binds (fun _ _ _ _ _ _ us hl => match us, hl with | [_, _], _ => rfl), ⟨a_Desk_say, i_Desk_say, k_Desk_say⟩⟩
  have F_play : DefAt G mg "play" "play" s_play ["text"] := ⟨_, _, fun_mk l_play c_play k_play, (fun_mk (st := s_play) l_play c_play k_play).binds (fun _ _ _ _ _ _ us hl => match us, hl with | [_], _ => rfl), PySem.W.mg_of X Gn a_play⟩
  have F_law_cell : DefAt G mg "_law_cell" "_law_cell" s_law_cell ["script", "k"] := ⟨_, _, fun_mk l_law_cell c_law_cell k_law_cell, (fun_mk (st := s_law_cell) l_law_cell c_law_cell k_law_cell).binds (fun _ _ _ _ _ _ us hl => match us, hl with | [_, _], _ => rfl), PySem.W.mg_of X Gn a_law_cell⟩
  have F_law_mix : DefAt G mg "_law_mix" "_law_mix" s_law_mix ["script", "k"] := ⟨_, _, fun_mk l_law_mix c_law_mix k_law_mix, (fun_mk (st := s_law_mix) l_law_mix c_law_mix k_law_mix).binds (fun _ _ _ _ _ _ us hl => match us, hl with | [_, _], _ => rfl), PySem.W.mg_of X Gn a_law_mix⟩
  have F_law_lied : DefAt G mg "_law_lied" "_law_lied" s_law_lied ["row", "thing"] := ⟨_, _, fun_mk l_law_lied c_law_lied k_law_lied, (fun_mk (st := s_law_lied) l_law_lied c_law_lied k_law_lied).binds (fun _ _ _ _ _ _ us hl => match us, hl with | [_, _], _ => rfl), PySem.W.mg_of X Gn a_law_lied⟩
  have F_law_text : DefAt G mg "_law_text" "_law_text" s_law_text ["some"] := ⟨_, _, fun_mk l_law_text c_law_text k_law_text, (fun_mk (st := s_law_text) l_law_text c_law_text k_law_text).binds (fun _ _ _ _ _ _ us hl => match us, hl with | [_], _ => rfl), PySem.W.mg_of X Gn a_law_text⟩
  have F_law_row : DefAt G mg "_law_row" "_law_row" s_law_row ["script", "k"] := ⟨_, _, fun_mk l_law_row c_law_row k_law_row, (fun_mk (st := s_law_row) l_law_row c_law_row k_law_row).binds (fun _ _ _ _ _ _ us hl => match us, hl with | [_, _], _ => rfl), PySem.W.mg_of X Gn a_law_row⟩
  have F_law_game : DefAt G mg "_law_game" "_law_game" s_law_game ["words", "town"] := ⟨_, _, fun_mk l_law_game c_law_game k_law_game, (fun_mk (st := s_law_game) l_law_game c_law_game k_law_game).binds (fun _ _ _ _ _ _ us hl => match us, hl with | [_, _], _ => rfl), PySem.W.mg_of X Gn a_law_game⟩
  have F_law_asked : DefAt G mg "_law_asked" "_law_asked" s_law_asked ["words", "town"] := ⟨_, _, fun_mk l_law_asked c_law_asked k_law_asked, (fun_mk (st := s_law_asked) l_law_asked c_law_asked k_law_asked).binds (fun _ _ _ _ _ _ us hl => match us, hl with | [_, _], _ => rfl), PySem.W.mg_of X Gn a_law_asked⟩
  have F_law_counts : DefAt G mg "_law_counts" "_law_counts" s_law_counts ["row", "game"] := ⟨_, _, fun_mk l_law_counts c_law_counts k_law_counts, (fun_mk (st := s_law_counts) l_law_counts c_law_counts k_law_counts).binds (fun _ _ _ _ _ _ us hl => match us, hl with | [_, _], _ => rfl), PySem.W.mg_of X Gn a_law_counts⟩
  have F_law_best : DefAt G mg "_law_best" "_law_best" s_law_best ["said", "town"] := ⟨_, _, fun_mk l_law_best c_law_best k_law_best, (fun_mk (st := s_law_best) l_law_best c_law_best k_law_best).binds (fun _ _ _ _ _ _ us hl => match us, hl with | [_, _], _ => rfl), PySem.W.mg_of X Gn a_law_best⟩
  have F_law_one : DefAt G mg "_law_one" "_law_one" s_law_one ["word", "town"] := ⟨_, _, fun_mk l_law_one c_law_one k_law_one, (fun_mk (st := s_law_one) l_law_one c_law_one k_law_one).binds (fun _ _ _ _ _ _ us hl => match us, hl with | [_, _], _ => rfl), PySem.W.mg_of X Gn a_law_one⟩
  have F_law_due : DefAt G mg "_law_due" "_law_due" s_law_due ["row", "town"] := ⟨_, _, fun_mk l_law_due c_law_due k_law_due, (fun_mk (st := s_law_due) l_law_due c_law_due k_law_due).binds (fun _ _ _ _ _ _ us hl => match us, hl with | [_, _], _ => rfl), PySem.W.mg_of X Gn a_law_due⟩
  have F_law_good : DefAt G mg "_law_good" "_law_good" s_law_good ["rows", "said"] := ⟨_, _, fun_mk l_law_good c_law_good k_law_good, (fun_mk (st := s_law_good) l_law_good c_law_good k_law_good).binds (fun _ _ _ _ _ _ us hl => match us, hl with | [_, _], _ => rfl), PySem.W.mg_of X Gn a_law_good⟩
  refine ⟨PySem.W.fnOf "law" "law" (defArgs s_law) (defBody s_law) (defScope s_law) .none kV_law dc_law pm_law an_law cd_law ct_law, fun s v => .of_eq rfl, fun base _ _ => ?_⟩
  have h_look_game := fk_look_game (P := P) (base := base) T F_look_game
  have h_look_question := fk_look_question (P := P) (base := base) T F_look_question
  have h_Game___init__ := fk_Game___init__ (P := P) (base := base) T F_Game___init__ h_look_game
  have h_Game_ask := fk_Game_ask (P := P) (base := base) T F_Game_ask h_look_question
  have h_Game_lies := fk_Game_lies (P := P) (base := base) T F_Game_lies
  have h_Game_left := fk_Game_left (P := P) (base := base) T F_Game_left
  have h_Game_counts := fk_Game_counts (P := P) (base := base) T F_Game_counts
  have h_Game_asked := fk_Game_asked (P := P) (base := base) T F_Game_asked
  have h_Game_back := fk_Game_back (P := P) (base := base) T F_Game_back
  have h_look_counts := fk_look_counts (P := P) (base := base) T F_look_counts
  have h_look_questions := fk_look_questions (P := P) (base := base) T F_look_questions
  have h_choices := fk_choices (P := P) (base := base) T F_choices
  have h_two_to := fk_two_to (P := P) (base := base) T F_two_to
  have h_weight := fk_weight (P := P) (base := base) T F_weight h_look_counts h_look_questions h_choices
  have h_behind := fk_behind (P := P) (base := base) T F_behind h_look_counts
  have h_bound := fk_bound (P := P) (base := base) T F_bound h_look_counts h_weight h_two_to
  have h_look_small := fk_look_small (P := P) (base := base) T F_look_small h_look_counts
  have h_unevenness := fk_unevenness (P := P) (base := base) T F_unevenness
  have h_parts := fk_parts (P := P) (base := base) T F_parts h_unevenness
  have h_Worker___init__ := fk_Worker___init__ (P := P) (base := base) T F_Worker___init__
  have h_Worker_can := fk_Worker_can (P := P) (base := base) T F_Worker_can F_Worker_found h_bound h_parts h_behind
  have h_least := fk_least (P := P) (base := base) T F_least h_look_small h_Worker___init__ h_bound h_Worker_can
  have h_Asker___init__ := fk_Asker___init__ (P := P) (base := base) T F_Asker___init__ h_Game___init__ h_Game_counts h_look_small h_Worker___init__
  have h_Asker_question := fk_Asker_question (P := P) (base := base) T F_Asker_question h_Game_counts h_bound h_Worker_can h_Game_lies h_Game_left
  have h_number_in := fk_number_in (P := P) (base := base) T F_number_in
  have h_numbers_text := fk_numbers_text (P := P) (base := base) T F_numbers_text
  have h_Desk___init__ := fk_Desk___init__ (P := P) (base := base) T F_Desk___init__
  have h_Desk_need_game := fk_Desk_need_game (P := P) (base := base) T F_Desk_need_game
  have h_Desk_best := fk_Desk_best (P := P) (base := base) T F_Desk_best h_Asker___init__ h_Game_asked h_Game_ask h_Asker_question
  have h_Desk_one_word := fk_Desk_one_word (P := P) (base := base) T F_Desk_one_word h_Game_left h_numbers_text h_Game_lies h_Game_back h_Game_counts h_look_small h_least h_Desk_best
  have h_Desk_answered := fk_Desk_answered (P := P) (base := base) T F_Desk_answered h_number_in h_look_game h_Game___init__ h_Game_ask h_Desk_need_game h_Game_left h_numbers_text h_Desk_one_word
  have h_Desk_say := fk_Desk_say (P := P) (base := base) T F_Desk_say h_Desk_answered
  have h_play := fk_play (P := P) (base := base) T F_play h_Desk___init__ h_Desk_say
  have h_law_cell := fk_law_cell (P := P) (base := base) T F_law_cell
  have h_law_mix := fk_law_mix (P := P) (base := base) T F_law_mix h_law_cell
  have h_law_lied := fk_law_lied (P := P) (base := base) T F_law_lied
  have h_law_text := fk_law_text (P := P) (base := base) T F_law_text
  have h_law_row := fk_law_row (P := P) (base := base) T F_law_row h_law_mix
  have h_law_game := fk_law_game (P := P) (base := base) T F_law_game
  have h_law_asked := fk_law_asked (P := P) (base := base) T F_law_asked h_law_lied h_law_text
  have h_law_counts := fk_law_counts (P := P) (base := base) T F_law_counts h_law_lied
  have h_law_best := fk_law_best (P := P) (base := base) T F_law_best h_law_counts h_law_lied h_law_text h_least
  have h_law_one := fk_law_one (P := P) (base := base) T F_law_one h_law_lied h_law_text h_least
  have h_law_due := fk_law_due (P := P) (base := base) T F_law_due h_law_game h_law_asked h_law_one
  have h_law_good := fk_law_good (P := P) (base := base) T F_law_good h_law_due h_law_best
  exact law_end (G := G) (S := S_law) (fun ns hl => ask_law ns hl) (fl_law T (fun_mk (st := s_law) l_law c_law k_law) h_law_mix h_law_row h_Desk___init__ h_Desk_say h_law_good h_play)
end Lb

open PySem PySem.W PyProof.Rows
set_option maxRecDepth 100000 in
set_option maxHeartbeats 0 in
theorem PySem.Challenge.cw_liarbook_k80_whole_desk_holds : PySem.Challenge.rw_liarbook_k80_whole_desk.Holds := by
  w_on; o_law; k_head; (case hw => w_witness2)
  k_fill
  refine L2.walk_of (l := PySem.Challenge.rw_liarbook_k80_whole_desk) (n := 63) (k := 134) (x := "script") (CX := fun w => L2.CX PySem.Challenge.rw_liarbook_k80_whole_desk.prog w) (sp := fun w => Lb.sp_law _) rfl (by decide) rfl ⟨rfl, by decide, by decide⟩ (fun w h Y => PySem.W.kIn_of Y) ?F (fun _ _ a ns hl _ hS => ⟨a, ns, rfl, hS, hl, fun _ => rfl⟩) (fun _ _ _ _ _ z => Lb.no_cx z)
  case F =>
    intro w mg fa h KX G hmg
    refine' Lb.all_mk KX G hmg ?a_look_game ?l_look_game ?c_look_game ?k_look_game ?a_look_question ?l_look_question ?c_look_question ?k_look_question ?cg_game ?cp_game ?ch_game ?co_game ?cs_game ?cm_game ?ck_game ?cn_game_most ?cn_game_row ?cn_game_things ?cn_game_told ?a_Game___init__ ?i_Game___init__ ?l_Game___init__ ?c_Game___init__ ?k_Game___init__ ?a_Game_ask ?i_Game_ask ?l_Game_ask ?c_Game_ask ?k_Game_ask ?a_Game_lies ?i_Game_lies ?l_Game_lies ?c_Game_lies ?k_Game_lies ?a_Game_left ?i_Game_left ?l_Game_left ?c_Game_left ?k_Game_left ?a_Game_counts ?i_Game_counts ?l_Game_counts ?c_Game_counts ?k_Game_counts ?a_Game_asked ?i_Game_asked ?l_Game_asked ?c_Game_asked ?k_Game_asked ?a_Game_back ?i_Game_back ?l_Game_back ?c_Game_back ?k_Game_back ?a_look_counts ?l_look_counts ?c_look_counts ?k_look_counts ?a_look_questions ?l_look_questions ?c_look_questions ?k_look_questions ?a_choices ?l_choices ?c_choices ?k_choices ?a_two_to ?l_two_to ?c_two_to ?k_two_to ?a_weight ?l_weight ?c_weight ?k_weight ?a_behind ?l_behind ?c_behind ?k_behind ?a_bound ?l_bound ?c_bound ?k_bound ?a_look_small ?l_look_small ?c_look_small ?k_look_small ?a_unevenness ?l_unevenness ?c_unevenness ?k_unevenness ?a_parts ?l_parts ?c_parts ?k_parts ?cg_worker ?cp_worker ?ch_worker ?co_worker ?cs_worker ?cm_worker ?ck_worker ?cn_worker_known ?a_Worker___init__ ?i_Worker___init__ ?l_Worker___init__ ?c_Worker___init__ ?k_Worker___init__ ?a_Worker_found ?i_Worker_found ?l_Worker_found ?c_Worker_found ?k_Worker_found ?a_Worker_can ?i_Worker_can ?l_Worker_can ?c_Worker_can ?k_Worker_can ?a_least ?l_least ?c_least ?k_least ?cg_asker ?cp_asker ?ch_asker ?co_asker ?cs_asker ?cm_asker ?ck_asker ?cn_asker_game ?cn_asker_worker ?a_Asker___init__ ?i_Asker___init__ ?l_Asker___init__ ?c_Asker___init__ ?k_Asker___init__ ?a_Asker_question ?i_Asker_question ?l_Asker_question ?c_Asker_question ?k_Asker_question ?a_number_in ?l_number_in ?c_number_in ?k_number_in ?a_numbers_text ?l_numbers_text ?c_numbers_text ?k_numbers_text ?cg_desk ?cp_desk ?ch_desk ?co_desk ?cs_desk ?cm_desk ?ck_desk ?cn_desk_game ?a_Desk___init__ ?i_Desk___init__ ?l_Desk___init__ ?c_Desk___init__ ?k_Desk___init__ ?a_Desk_need_game ?i_Desk_need_game ?l_Desk_need_game ?c_Desk_need_game ?k_Desk_need_game ?a_Desk_best ?i_Desk_best ?l_Desk_best ?c_Desk_best ?k_Desk_best ?a_Desk_one_word ?i_Desk_one_word ?l_Desk_one_word ?c_Desk_one_word ?k_Desk_one_word ?a_Desk_answered ?i_Desk_answered ?l_Desk_answered ?c_Desk_answered ?k_Desk_answered ?a_Desk_say ?i_Desk_say ?l_Desk_say ?c_Desk_say ?k_Desk_say ?a_play ?l_play ?c_play ?k_play ?a_law_cell ?l_law_cell ?c_law_cell ?k_law_cell ?a_law_mix ?l_law_mix ?c_law_mix ?k_law_mix ?a_law_lied ?l_law_lied ?c_law_lied ?k_law_lied ?a_law_text ?l_law_text ?c_law_text ?k_law_text ?a_law_row ?l_law_row ?c_law_row ?k_law_row ?a_law_game ?l_law_game ?c_law_game ?k_law_game ?a_law_asked ?l_law_asked ?c_law_asked ?k_law_asked ?a_law_counts ?l_law_counts ?c_law_counts ?k_law_counts ?a_law_best ?l_law_best ?c_law_best ?k_law_best ?a_law_one ?l_law_one ?c_law_one ?k_law_one ?a_law_due ?l_law_due ?c_law_due ?k_law_due ?a_law_good ?l_law_good ?c_law_good ?k_law_good ?a_law ?l_law ?c_law ?k_law ?aL ?oN ?oT ?eg_game ?eq_game ?ek_game ?eb_game ?et_game ?xg_game ?xk_game ?xd_game ?xa_game ?xm_game ?xv_game ?xl_game ?eg_counts ?eq_counts ?ek_counts ?eb_counts ?et_counts ?xg_counts ?xk_counts ?xd_counts ?xa_counts ?xm_counts ?xv_counts ?xl_counts ?eg_question ?eq_question ?ek_question ?eb_question ?et_question ?xg_question ?xk_question ?xd_question ?xa_question ?xm_question ?xv_question ?xl_question ?eg_liar ?eq_liar ?ek_liar ?eb_liar ?et_liar ?xg_liar ?xk_liar ?xd_liar ?xa_liar ?xm_liar ?xv_liar ?xl_liar ?eg_row ?eq_row ?ek_row ?eb_row ?et_row ?xg_row ?xk_row ?xd_row ?xa_row ?xm_row ?xv_row ?xl_row ?kt_game_game ?kt_game_counts ?kt_game_question ?kt_game_liar ?kt_game_row ?xp_game_game ?xp_game_counts ?xp_game_question ?xp_game_liar ?xp_game_row ?kt_counts_game ?kt_counts_counts ?kt_counts_question ?kt_counts_liar ?kt_counts_row ?xp_counts_game ?xp_counts_counts ?xp_counts_question ?xp_counts_liar ?xp_counts_row ?kt_question_game ?kt_question_counts ?kt_question_question ?kt_question_liar ?kt_question_row ?xp_question_game ?xp_question_counts ?xp_question_question ?xp_question_liar ?xp_question_row ?kt_liar_game ?kt_liar_counts ?kt_liar_question ?kt_liar_liar ?kt_liar_row ?xp_liar_game ?xp_liar_counts ?xp_liar_question ?xp_liar_liar ?xp_liar_row ?kt_row_game ?kt_row_counts ?kt_row_question ?kt_row_liar ?kt_row_row ?xp_row_game ?xp_row_counts ?xp_row_question ?xp_row_liar ?xp_row_row ?b_abs ?b_all ?b_int ?b_isinstance ?b_len ?b_list ?b_max ?b_min ?b_range ?b_set ?b_sorted ?b_str ?b_sum ?b_tuple ?v_FIGURES ?v_MOST_COUNT ?v_MOST_LIES ?v_MOST_QUESTIONS ?v_MOST_THINGS_games ?v_MOST_THINGS_plans
    (case a_look_game => k_is)
    (case l_look_game => k_is)
    (case c_look_game => k_is)
    (case k_look_game => k_is)
    (case a_look_question => k_is)
    (case l_look_question => k_is)
    (case c_look_question => k_is)
    (case k_look_question => k_is)
    (case cg_game => k_is)
    (case cp_game => k_is)
    (case ch_game => k_is)
    (case co_game => k_is)
    (case cs_game => k_is)
    (case cm_game => k_is)
    (case ck_game => k_is)
    (case cn_game_most => k_is)
    (case cn_game_row => k_is)
    (case cn_game_things => k_is)
    (case cn_game_told => k_is)
    (case a_Game___init__ => k_is)
    (case i_Game___init__ => k_is)
    (case l_Game___init__ => k_is)
    (case c_Game___init__ => k_is)
    (case k_Game___init__ => k_is)
    (case a_Game_ask => k_is)
    (case i_Game_ask => k_is)
    (case l_Game_ask => k_is)
    (case c_Game_ask => k_is)
    (case k_Game_ask => k_is)
    (case a_Game_lies => k_is)
    (case i_Game_lies => k_is)
    (case l_Game_lies => k_is)
    (case c_Game_lies => k_is)
    (case k_Game_lies => k_is)
    (case a_Game_left => k_is)
    (case i_Game_left => k_is)
    (case l_Game_left => k_is)
    (case c_Game_left => k_is)
    (case k_Game_left => k_is)
    (case a_Game_counts => k_is)
    (case i_Game_counts => k_is)
    (case l_Game_counts => k_is)
    (case c_Game_counts => k_is)
    (case k_Game_counts => k_is)
    (case a_Game_asked => k_is)
    (case i_Game_asked => k_is)
    (case l_Game_asked => k_is)
    (case c_Game_asked => k_is)
    (case k_Game_asked => k_is)
    (case a_Game_back => k_is)
    (case i_Game_back => k_is)
    (case l_Game_back => k_is)
    (case c_Game_back => k_is)
    (case k_Game_back => k_is)
    (case a_look_counts => k_is)
    (case l_look_counts => k_is)
    (case c_look_counts => k_is)
    (case k_look_counts => k_is)
    (case a_look_questions => k_is)
    (case l_look_questions => k_is)
    (case c_look_questions => k_is)
    (case k_look_questions => k_is)
    (case a_choices => k_is)
    (case l_choices => k_is)
    (case c_choices => k_is)
    (case k_choices => k_is)
    (case a_two_to => k_is)
    (case l_two_to => k_is)
    (case c_two_to => k_is)
    (case k_two_to => k_is)
    (case a_weight => k_is)
    (case l_weight => k_is)
    (case c_weight => k_is)
    (case k_weight => k_is)
    (case a_behind => k_is)
    (case l_behind => k_is)
    (case c_behind => k_is)
    (case k_behind => k_is)
    (case a_bound => k_is)
    (case l_bound => k_is)
    (case c_bound => k_is)
    (case k_bound => k_is)
    (case a_look_small => k_is)
    (case l_look_small => k_is)
    (case c_look_small => k_is)
    (case k_look_small => k_is)
    (case a_unevenness => k_is)
    (case l_unevenness => k_is)
    (case c_unevenness => k_is)
    (case k_unevenness => k_is)
    (case a_parts => k_is)
    (case l_parts => k_is)
    (case c_parts => k_is)
    (case k_parts => k_is)
    (case cg_worker => k_is)
    (case cp_worker => k_is)
    (case ch_worker => k_is)
    (case co_worker => k_is)
    (case cs_worker => k_is)
    (case cm_worker => k_is)
    (case ck_worker => k_is)
    (case cn_worker_known => k_is)
    (case a_Worker___init__ => k_is)
    (case i_Worker___init__ => k_is)
    (case l_Worker___init__ => k_is)
    (case c_Worker___init__ => k_is)
    (case k_Worker___init__ => k_is)
    (case a_Worker_found => k_is)
    (case i_Worker_found => k_is)
    (case l_Worker_found => k_is)
    (case c_Worker_found => k_is)
    (case k_Worker_found => k_is)
    (case a_Worker_can => k_is)
    (case i_Worker_can => k_is)
    (case l_Worker_can => k_is)
    (case c_Worker_can => k_is)
    (case k_Worker_can => k_is)
    (case a_least => k_is)
    (case l_least => k_is)
    (case c_least => k_is)
    (case k_least => k_is)
    (case cg_asker => k_is)
    (case cp_asker => k_is)
    (case ch_asker => k_is)
    (case co_asker => k_is)
    (case cs_asker => k_is)
    (case cm_asker => k_is)
    (case ck_asker => k_is)
    (case cn_asker_game => k_is)
    (case cn_asker_worker => k_is)
    (case a_Asker___init__ => k_is)
    (case i_Asker___init__ => k_is)
    (case l_Asker___init__ => k_is)
    (case c_Asker___init__ => k_is)
    (case k_Asker___init__ => k_is)
    (case a_Asker_question => k_is)
    (case i_Asker_question => k_is)
    (case l_Asker_question => k_is)
    (case c_Asker_question => k_is)
    (case k_Asker_question => k_is)
    (case a_number_in => k_is)
    (case l_number_in => k_is)
    (case c_number_in => k_is)
    (case k_number_in => k_is)
    (case a_numbers_text => k_is)
    (case l_numbers_text => k_is)
    (case c_numbers_text => k_is)
    (case k_numbers_text => k_is)
    (case cg_desk => k_is)
    (case cp_desk => k_is)
    (case ch_desk => k_is)
    (case co_desk => k_is)
    (case cs_desk => k_is)
    (case cm_desk => k_is)
    (case ck_desk => k_is)
    (case cn_desk_game => k_is)
    (case a_Desk___init__ => k_is)
    (case i_Desk___init__ => k_is)
    (case l_Desk___init__ => k_is)
    (case c_Desk___init__ => k_is)
    (case k_Desk___init__ => k_is)
    (case a_Desk_need_game => k_is)
    (case i_Desk_need_game => k_is)
    (case l_Desk_need_game => k_is)
    (case c_Desk_need_game => k_is)
    (case k_Desk_need_game => k_is)
    (case a_Desk_best => k_is)
    (case i_Desk_best => k_is)
    (case l_Desk_best => k_is)
    (case c_Desk_best => k_is)
    (case k_Desk_best => k_is)
    (case a_Desk_one_word => k_is)
    (case i_Desk_one_word => k_is)
    (case l_Desk_one_word => k_is)
    (case c_Desk_one_word => k_is)
    (case k_Desk_one_word => k_is)
    (case a_Desk_answered => k_is)
    (case i_Desk_answered => k_is)
    (case l_Desk_answered => k_is)
    (case c_Desk_answered => k_is)
    (case k_Desk_answered => k_is)
    (case a_Desk_say => k_is)
    (case i_Desk_say => k_is)
    (case l_Desk_say => k_is)
    (case c_Desk_say => k_is)
    (case k_Desk_say => k_is)
    (case a_play => k_is)
    (case l_play => k_is)
    (case c_play => k_is)
    (case k_play => k_is)
    (case a_law_cell => k_is)
    (case l_law_cell => k_is)
    (case c_law_cell => k_is)
    (case k_law_cell => k_is)
    (case a_law_mix => k_is)
    (case l_law_mix => k_is)
    (case c_law_mix => k_is)
    (case k_law_mix => k_is)
    (case a_law_lied => k_is)
    (case l_law_lied => k_is)
    (case c_law_lied => k_is)
    (case k_law_lied => k_is)
    (case a_law_text => k_is)
    (case l_law_text => k_is)
    (case c_law_text => k_is)
    (case k_law_text => k_is)
    (case a_law_row => k_is)
    (case l_law_row => k_is)
    (case c_law_row => k_is)
    (case k_law_row => k_is)
    (case a_law_game => k_is)
    (case l_law_game => k_is)
    (case c_law_game => k_is)
    (case k_law_game => k_is)
    (case a_law_asked => k_is)
    (case l_law_asked => k_is)
    (case c_law_asked => k_is)
    (case k_law_asked => k_is)
    (case a_law_counts => k_is)
    (case l_law_counts => k_is)
    (case c_law_counts => k_is)
    (case k_law_counts => k_is)
    (case a_law_best => k_is)
    (case l_law_best => k_is)
    (case c_law_best => k_is)
    (case k_law_best => k_is)
    (case a_law_one => k_is)
    (case l_law_one => k_is)
    (case c_law_one => k_is)
    (case k_law_one => k_is)
    (case a_law_due => k_is)
    (case l_law_due => k_is)
    (case c_law_due => k_is)
    (case k_law_due => k_is)
    (case a_law_good => k_is)
    (case l_law_good => k_is)
    (case c_law_good => k_is)
    (case k_law_good => k_is)
    (case a_law => k_is)
    (case l_law => k_is)
    (case c_law => k_is)
    (case k_law => k_is)
    (case aL => k_is)
    (case oN => k_is)
    (case oT => k_is)
    (case eg_game => k_is)
    (case eq_game => k_exc)
    (case ek_game => k_is)
    (case eb_game => k_is)
    (case et_game => k_is)
    (case xg_game => k_is)
    (case xk_game => k_is)
    (case xd_game => k_is)
    (case xa_game => k_is)
    (case xm_game => k_is)
    (case xv_game => kit_is)
    (case xl_game => kts_exm)
    (case eg_counts => k_is)
    (case eq_counts => k_exc)
    (case ek_counts => k_is)
    (case eb_counts => k_is)
    (case et_counts => k_is)
    (case xg_counts => k_is)
    (case xk_counts => k_is)
    (case xd_counts => k_is)
    (case xa_counts => k_is)
    (case xm_counts => k_is)
    (case xv_counts => kit_is)
    (case xl_counts => kts_exm)
    (case eg_question => k_is)
    (case eq_question => k_exc)
    (case ek_question => k_is)
    (case eb_question => k_is)
    (case et_question => k_is)
    (case xg_question => k_is)
    (case xk_question => k_is)
    (case xd_question => k_is)
    (case xa_question => k_is)
    (case xm_question => k_is)
    (case xv_question => kit_is)
    (case xl_question => kts_exm)
    (case eg_liar => k_is)
    (case eq_liar => k_exc)
    (case ek_liar => k_is)
    (case eb_liar => k_is)
    (case et_liar => k_is)
    (case xg_liar => k_is)
    (case xk_liar => k_is)
    (case xd_liar => k_is)
    (case xa_liar => k_is)
    (case xm_liar => k_is)
    (case xv_liar => kit_is)
    (case xl_liar => kts_exm)
    (case eg_row => k_is)
    (case eq_row => k_exc)
    (case ek_row => k_is)
    (case eb_row => k_is)
    (case et_row => k_is)
    (case xg_row => k_is)
    (case xk_row => k_is)
    (case xd_row => k_is)
    (case xa_row => k_is)
    (case xm_row => k_is)
    (case xv_row => kit_is)
    (case xl_row => kts_exm)
    (case kt_game_game => kit_is)
    (case kt_game_counts => kit_is)
    (case kt_game_question => kit_is)
    (case kt_game_liar => kit_is)
    (case kt_game_row => kit_is)
    (case xp_game_game => kts_exm)
    (case xp_game_counts => kts_exm)
    (case xp_game_question => kts_exm)
    (case xp_game_liar => kts_exm)
    (case xp_game_row => kts_exm)
    (case kt_counts_game => kit_is)
    (case kt_counts_counts => kit_is)
    (case kt_counts_question => kit_is)
    (case kt_counts_liar => kit_is)
    (case kt_counts_row => kit_is)
    (case xp_counts_game => kts_exm)
    (case xp_counts_counts => kts_exm)
    (case xp_counts_question => kts_exm)
    (case xp_counts_liar => kts_exm)
    (case xp_counts_row => kts_exm)
    (case kt_question_game => kit_is)
    (case kt_question_counts => kit_is)
    (case kt_question_question => kit_is)
    (case kt_question_liar => kit_is)
    (case kt_question_row => kit_is)
    (case xp_question_game => kts_exm)
    (case xp_question_counts => kts_exm)
    (case xp_question_question => kts_exm)
    (case xp_question_liar => kts_exm)
    (case xp_question_row => kts_exm)
    (case kt_liar_game => kit_is)
    (case kt_liar_counts => kit_is)
    (case kt_liar_question => kit_is)
    (case kt_liar_liar => kit_is)
    (case kt_liar_row => kit_is)
    (case xp_liar_game => kts_exm)
    (case xp_liar_counts => kts_exm)
    (case xp_liar_question => kts_exm)
    (case xp_liar_liar => kts_exm)
    (case xp_liar_row => kts_exm)
    (case kt_row_game => kit_is)
    (case kt_row_counts => kit_is)
    (case kt_row_question => kit_is)
    (case kt_row_liar => kit_is)
    (case kt_row_row => kit_is)
    (case xp_row_game => kts_exm)
    (case xp_row_counts => kts_exm)
    (case xp_row_question => kts_exm)
    (case xp_row_liar => kts_exm)
    (case xp_row_row => kts_exm)
    (case b_abs => k_is)
    (case b_all => k_is)
    (case b_int => k_is)
    (case b_isinstance => k_is)
    (case b_len => k_is)
    (case b_list => k_is)
    (case b_max => k_is)
    (case b_min => k_is)
    (case b_range => k_is)
    (case b_set => k_is)
    (case b_sorted => k_is)
    (case b_str => k_is)
    (case b_sum => k_is)
    (case b_tuple => k_is)
    (case v_FIGURES => k_is)
    (case v_MOST_COUNT => k_is)
    (case v_MOST_LIES => k_is)
    (case v_MOST_QUESTIONS => k_is)
    (case v_MOST_THINGS_games => k_is)
    (case v_MOST_THINGS_plans => k_is)
