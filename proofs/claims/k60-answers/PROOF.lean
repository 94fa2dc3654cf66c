import PyProof.Rows.All
import Wide.All
import OpenK.AllK
import Wide.FinOn
import HandS.ForMost
import HandS.ForExc
import HandS.Deep
import HandS.TupAny
import HandS.TupMul
import HandS.TupLe
import HandS.IsInst
import HandS.SetFor
import HandS.SortInts
import HandS.Style
import KE.KTupSum
import HandS.ExcIs
import HandS.ExcValue
import HandS.Strs
import PySem.Challenge.RW_liarbook_k60_whole_answers
set_option Elab.async false
set_option linter.all false
set_option autoImplicit false
set_option maxRecDepth 100000
set_option maxHeartbeats 4000000
/-! Lb0: a data layer over HandS. Values are data (D, by value, frozen) or addresses of mutable objects (MO in a store Mu). -/
namespace Lb
open PySem L2

/-! ### data -/
inductive D where
  | non
  | bl (b : Bool)
  | int (i : Int)
  | str (s : Str)
  | lst (xs : List D)
  | tup (xs : List D)

/-- the program's own exceptions -/
inductive Tag where
  | game | counts | question | liar | plan | text | row
  deriving DecidableEq
/-- the program's own classes -/
inductive CT where
  | game | worker | halver | denier | asker | foe | signs | desk
  deriving DecidableEq

inductive DV where
  | d (x : D)
  | r (a : Addr)
  | scr (ns : List Int)

inductive MO where
  | lst (xs : List D)
  | ins (c : CT) (fs : List (Str × DV))
  | exc (t : Tag)
  | tpl (es : List DV)

abbrev Mu := Addr → Option MO
abbrev DS := List (Option DV)

structure Ctx where
  K : PySem.W.Frag
  w : World
  le : Addr
  ex : Tag → Addr
  has : Tag → Bool
  cl : CT → Addr

def mset (m : Mu) (a : Addr) (o : MO) : Mu := fun b => if b = a then some o else m b
def mdel (m : Mu) (a : Addr) : Mu := fun b => if b = a then none else m b
theorem mset_same {m : Mu} {a : Addr} {o : MO} : mset m a o a = some o := if_pos rfl
theorem mset_ne {m : Mu} {a b : Addr} {o : MO} (h : b ≠ a) : mset m a o b = m b := if_neg h
theorem mdel_same {m : Mu} {a : Addr} : mdel m a a = none := if_pos rfl
theorem mdel_ne {m : Mu} {a b : Addr} (h : b ≠ a) : mdel m a b = m b := if_neg h
theorem mdel_mset {m : Mu} {a : Addr} {o : MO} (h : m a = none) : mdel (mset m a o) a = m := by
  funext b
  by_cases e : b = a
  · subst e; rw [mdel_same, h]
  · rw [mdel_ne e, mset_ne e]
theorem mset_mset {m : Mu} {a : Addr} {o u : MO} : mset (mset m a o) a u = mset m a u := by
  funext b; by_cases e : b = a
  · subst e; rw [mset_same, mset_same]
  · rw [mset_ne e, mset_ne e, mset_ne e]
theorem mdel_mset' {m : Mu} {a : Addr} {o : MO} : mdel (mset m a o) a = mdel m a := by
  funext b; by_cases e : b = a
  · subst e; rw [mdel_same, mdel_same]
  · rw [mdel_ne e, mdel_ne e, mset_ne e]

/-! ### heaps -/
def Ex (H H' : Hp) : Prop := ∀ a o, H a = some o → H' a = some o
theorem Ex.refl (H : Hp) : Ex H H := fun _ _ h => h
theorem Ex.trans {H H1 H2 : Hp} (a : Ex H H1) (b : Ex H1 H2) : Ex H H2 := fun x o h => b x o (a x o h)
def fz (H : Hp) (m : Mu) : Hp := fun a => match m a with
  | none => H a
  | some _ => none
theorem fz_none {H : Hp} {m : Mu} {a : Addr} (h : m a = none) : fz H m a = H a := by unfold fz; rw [h]
theorem fz_some {H : Hp} {m : Mu} {a : Addr} {x : MO} (h : m a = some x) : fz H m a = none := by unfold fz; rw [h]
theorem fz_inv {H : Hp} {m : Mu} {a : Addr} {o : HO} (h : fz H m a = some o) : H a = some o ∧ m a = none := by
  cases e : m a with
  | none => rw [fz_none e] at h; exact ⟨h, rfl⟩
  | some x => rw [fz_some e] at h; cases h
theorem fz_ex {H : Hp} {m : Mu} : Ex (fz H m) H := fun _ _ h => (fz_inv h).1

/-! ### what a value is -/
mutual
inductive Rp (F : Hp) : V → D → Prop
  | non : Rp F .non .non
  | bl (b : Bool) : Rp F (.bl b) (.bl b)
  | int (i : Int) : Rp F (.int i) (.int i)
  | str (x : Str) : Rp F (.str x) (.str x)
  | lst {a : Addr} {vs : List V} {xs : List D} : F a = some (.lst vs) → RpL F vs xs → Rp F (.ref a) (.lst xs)
  | tup {a : Addr} {vs : List V} {xs : List D} : F a = some (.tup vs) → RpL F vs xs → Rp F (.ref a) (.tup xs)
inductive RpL (F : Hp) : List V → List D → Prop
  | nil : RpL F [] []
  | cons {v : V} {vs : List V} {d : D} {ds : List D} : Rp F v d → RpL F vs ds → RpL F (v :: vs) (d :: ds)
end
mutual
theorem Rp.mono {F F' : Hp} (e : Ex F F') : ∀ (d : D) (v : V), Rp F v d → Rp F' v d
  | .non, _, h => by cases h; exact .non
  | .bl b, _, h => by cases h; exact .bl b
  | .int i, _, h => by cases h; exact .int i
  | .str x, _, h => by cases h; exact .str x
  | .lst xs, _, h => by
    cases h with
    | lst h1 h2 => exact .lst (e _ _ h1) (RpL.mono e xs _ h2)
  | .tup xs, _, h => by
    cases h with
    | tup h1 h2 => exact .tup (e _ _ h1) (RpL.mono e xs _ h2)
theorem RpL.mono {F F' : Hp} (e : Ex F F') : ∀ (ds : List D) (vs : List V), RpL F vs ds → RpL F' vs ds
  | [], _, h => by cases h; exact .nil
  | d :: ds, _, h => by
    cases h with
    | cons h1 h2 => exact .cons (Rp.mono e d _ h1) (RpL.mono e ds _ h2)
end
theorem RpL.length {F : Hp} : ∀ {vs : List V} {ds : List D}, RpL F vs ds → vs.length = ds.length
  | _, _, .nil => rfl
  | _, _, .cons _ t => by rw [List.length_cons, List.length_cons, RpL.length t]
theorem RpL.get {F : Hp} : ∀ {vs : List V} {ds : List D} {i : Nat} {d : D}, RpL F vs ds → ds[i]? = some d → ∃ v, vs[i]? = some v ∧ Rp F v d
  | _, _, _, _, .nil, e => by simp at e
  | _, _, 0, _, .cons r _, e => by simp at e; subst e; exact ⟨_, rfl, r⟩
  | _, _, i + 1, d, .cons _ t, e => by
    obtain ⟨u, h1, h2⟩ := RpL.get (i := i) (d := d) t (by simpa using e)
    exact ⟨u, by simpa using h1, h2⟩
theorem RpL.getV {F : Hp} : ∀ {vs : List V} {ds : List D} {i : Nat} {v : V}, RpL F vs ds → vs[i]? = some v → ∃ d, ds[i]? = some d ∧ Rp F v d
  | _, _, _, _, .nil, e => by simp at e
  | _, _, 0, _, .cons r _, e => by simp at e; subst e; exact ⟨_, rfl, r⟩
  | _, _, i + 1, d, .cons _ t, e => by
    obtain ⟨u, h1, h2⟩ := RpL.getV (i := i) (v := d) t (by simpa using e)
    exact ⟨u, by simpa using h1, h2⟩
theorem RpL.app {F : Hp} : ∀ {vs ws : List V} {ds es : List D}, RpL F vs ds → RpL F ws es → RpL F (vs ++ ws) (ds ++ es)
  | _, _, _, _, .nil, s => s
  | _, _, _, _, .cons r t, s => .cons r (RpL.app t s)
theorem RpL.one {F : Hp} {v : V} {d : D} (h : Rp F v d) : RpL F [v] [d] := .cons h .nil
theorem RpL.set {F : Hp} {v : V} {d : D} (r : Rp F v d) : ∀ {vs : List V} {ds : List D} (i : Nat), RpL F vs ds → RpL F (vs.set i v) (ds.set i d)
  | _, _, _, .nil => .nil
  | _, _, 0, .cons _ t => .cons r t
  | _, _, i + 1, .cons q t => .cons q (RpL.set r i t)
theorem RpL.take {F : Hp} : ∀ {vs : List V} {ds : List D} (n : Nat), RpL F vs ds → RpL F (vs.take n) (ds.take n)
  | _, _, 0, _ => .nil
  | _, _, _ + 1, .nil => .nil
  | _, _, n + 1, .cons r t => .cons r (RpL.take n t)
theorem RpL.drop {F : Hp} : ∀ {vs : List V} {ds : List D} (n : Nat), RpL F vs ds → RpL F (vs.drop n) (ds.drop n)
  | _, _, 0, r => r
  | _, _, _ + 1, .nil => .nil
  | _, _, n + 1, .cons _ t => RpL.drop n t
theorem RpL.rev {F : Hp} : ∀ {vs : List V} {ds : List D}, RpL F vs ds → RpL F vs.reverse ds.reverse
  | _, _, .nil => .nil
  | _, _, .cons r t => by rw [List.reverse_cons, List.reverse_cons]; exact RpL.app (RpL.rev t) (RpL.one r)
theorem RpL.rep {F : Hp} {vs : List V} {ds : List D} (h : RpL F vs ds) : ∀ k : Nat, RpL F (List.replicate k vs).flatten (List.replicate k ds).flatten
  | 0 => .nil
  | k + 1 => by rw [List.replicate_succ, List.replicate_succ, List.flatten_cons, List.flatten_cons]; exact RpL.app h (RpL.rep h k)

def RV (G : Ctx) (F : Hp) (v : V) : DV → Prop
  | .d x => Rp F v x
  | .r a => v = .ref a
  | .scr ns => ∃ a, v = .ref a ∧ SqL G.K F a (ns.map V.int)
theorem RV.mono {G : Ctx} {F F' : Hp} (e : Ex F F') {v : V} {d : DV} (h : RV G F v d) : RV G F' v d := by
  cases d with
  | d x => exact Rp.mono e x v h
  | r a => exact h
  | scr ns =>
    obtain ⟨a, h1, h2⟩ := h
    refine ⟨a, h1, ?_⟩
    rcases h2 with (h2 | ⟨o, h2⟩) | h2
    · exact .inl (.inl (e _ _ h2))
    · exact .inl (.inr ⟨o, e _ _ h2⟩)
    · exact .inr h2
theorem RV.dat {G : Ctx} {F : Hp} {v : V} {x : D} (h : Rp F v x) : RV G F v (.d x) := h
abbrev RVs (G : Ctx) (F : Hp) : List V → List DV → Prop := PySem.Paired (RV G F)
theorem RVs.mono {G : Ctx} {F F' : Hp} (e : Ex F F') : ∀ {vs : List V} {ds : List DV}, RVs G F vs ds → RVs G F' vs ds
  | _, _, .nil => .nil
  | _, _, .cons h t => .cons (h.mono e) (RVs.mono e t)
/-- the frame -/
structure REnv (G : Ctx) (F : Hp) (σ : L2.St) (ds : DS) : Prop where
  len : σ.length = ds.length
  at_ : ∀ (i : Nat) (d : DV), ds[i]? = some (some d) → ∃ v, σ[i]? = some (some v) ∧ RV G F v d
theorem REnv.mono {G : Ctx} {F F' : Hp} {σ : L2.St} {ds : DS} (e : Ex F F') (h : REnv G F σ ds) : REnv G F' σ ds :=
  ⟨h.len, fun i d q => let ⟨v, h1, h2⟩ := h.at_ i d q; ⟨v, h1, h2.mono e⟩⟩
theorem REnv.set {G : Ctx} {F : Hp} {σ : L2.St} {ds : DS} {v : V} {d : DV} (i : Nat) (h : REnv G F σ ds) (r : RV G F v d) : REnv G F (σ.set i (some v)) (ds.set i (some d)) := by
  refine ⟨by rw [List.length_set, List.length_set]; exact h.len, fun j e q => ?_⟩
  by_cases hj : i = j
  · subst hj
    have hi : i < ds.length := by
      cases Nat.lt_or_ge i ds.length with
      | inl z => exact z
      | inr z => rw [List.getElem?_eq_none (by rw [List.length_set]; exact z)] at q; cases q
    rw [List.getElem?_set_self hi] at q
    cases q
    exact ⟨v, List.getElem?_set_self (by rw [h.len]; exact hi), r⟩
  · rw [List.getElem?_set_ne hj] at q ⊢
    exact h.at_ j e q
theorem REnv.unset {G : Ctx} {F : Hp} {σ : L2.St} {ds : DS} (i : Nat) (h : REnv G F σ ds) : REnv G F (σ.set i none) (ds.set i none) := by
  refine ⟨by rw [List.length_set, List.length_set]; exact h.len, fun j e q => ?_⟩
  by_cases hj : i = j
  · subst hj
    have hi : i < ds.length := by
      cases Nat.lt_or_ge i ds.length with
      | inl z => exact z
      | inr z => rw [List.getElem?_eq_none (by rw [List.length_set]; exact z)] at q; cases q
    rw [List.getElem?_set_self hi] at q
    cases q
  · rw [List.getElem?_set_ne hj] at q ⊢
    exact h.at_ j e q

/-! ### mutable objects, the state -/
def RF (G : Ctx) (F : Hp) (p : Str × V) (q : Str × DV) : Prop := p.1 = q.1 ∧ RV G F p.2 q.2
/-- an exception of the class at C stands at a -/
def ExA (C a : Addr) : HO := .ext fun h => ∃ oe : Obj, h.get? a = some oe ∧ Zc (.ref C) none oe ∧ ∃ vs, oe.data = .fields vs
def RO (G : Ctx) (F H : Hp) (a : Addr) : MO → Prop
  | .lst xs => ∃ vs, H a = some (.lst vs) ∧ RpL F vs xs
  | .ins c fs => ∃ dx vs, H a = some (.ins (G.cl c) dx vs) ∧ PySem.Paired (RF G F) vs fs
  | .exc t => H a = some (ExA (G.ex t) a) ∧ G.has t = true
  | .tpl es => ∃ vs, H a = some (.tup vs) ∧ RVs G F vs es
theorem RF.mono {G : Ctx} {F F' : Hp} (e : Ex F F') : ∀ {vs : List (Str × V)} {fs : List (Str × DV)}, PySem.Paired (RF G F) vs fs → PySem.Paired (RF G F') vs fs
  | _, _, .nil => .nil
  | _, _, .cons h t => .cons ⟨h.1, h.2.mono e⟩ (RF.mono e t)
theorem RO.mono {G : Ctx} {F F' H H' : Hp} {a : Addr} (e : Ex F F') (q : H' a = H a) {o : MO} (h : RO G F H a o) : RO G F' H' a o := by
  cases o with
  | lst xs => obtain ⟨vs, h1, h2⟩ := h; exact ⟨vs, q.trans h1, RpL.mono e xs vs h2⟩
  | ins c fs => obtain ⟨dx, vs, h1, h2⟩ := h; exact ⟨dx, vs, q.trans h1, RF.mono e h2⟩
  | exc t => exact ⟨q.trans h.1, h.2⟩
  | tpl es => obtain ⟨vs, h1, h2⟩ := h; exact ⟨vs, q.trans h1, RVs.mono e h2⟩
theorem RO.there {G : Ctx} {F H : Hp} {a : Addr} {o : MO} (h : RO G F H a o) : H a ≠ none := by
  cases o with
  | lst xs => obtain ⟨vs, h1, h2⟩ := h; rw [h1]; exact fun z => nomatch z
  | ins c fs => obtain ⟨dx, vs, h1, h2⟩ := h; rw [h1]; exact fun z => nomatch z
  | exc t => rw [show H a = _ from h.1]; exact fun z => nomatch z
  | tpl es => obtain ⟨vs, h1, h2⟩ := h; rw [h1]; exact fun z => nomatch z

def S0 (G : Ctx) (H : Hp) (m : Mu) : Prop := ∀ a o, m a = some o → RO G (fz H m) H a o
abbrev Tr (H : Hp) (m : Mu) (H' : Hp) (m' : Mu) : Prop := Ex (fz H m) (fz H' m')
section
variable {G : Ctx} {H H' H1 : Hp} {m m' m1 : Mu} {a p : Addr} {o : HO}
theorem S0.free (s : S0 G H m) (h : H p = none) : m p = none := by
  cases e : m p with
  | none => rfl
  | some x => exact absurd h (s p x e).there
theorem fz_upd (h : m p = none) : fz (upd H p o) m = upd (fz H m) p o := by
  funext b
  by_cases e : b = p
  · subst e; rw [fz_none h, upd_same, upd_same]
  · rw [upd_ne e]
    cases q : m b with
    | none => rw [fz_none q, fz_none q, upd_ne e]
    | some x => rw [fz_some q, fz_some q]
theorem Ex.new {F : Hp} (h : F p = none) : Ex F (upd F p o) := fun b u e => by
  rw [upd_ne (ne_of_none e h)]
  exact e
/-- a new thing, frozen -/
theorem S0.lay (s : S0 G H m) (h : H p = none) : S0 G (upd H p o) m ∧ Tr H m (upd H p o) m ∧ fz (upd H p o) m p = some o := by
  have n := s.free h
  have t : Tr H m (upd H p o) m := by
    show Ex (fz H m) (fz (upd H p o) m)
    rw [fz_upd n]
    exact Ex.new (by rw [fz_none n]; exact h)
  refine ⟨fun b x e => (s b x e).mono t (upd_ne fun z => ?_), t, by rw [fz_none n, upd_same]⟩
  rw [z, n] at e
  cases e
theorem fz_mset (h : fz H m p = none) {x : MO} : fz (upd H p o) (mset m p x) = fz H m := by
  funext b
  by_cases e : b = p
  · subst e; rw [fz_some mset_same, h]
  · cases q : m b with
    | none => rw [fz_none (by rw [mset_ne e]; exact q), fz_none q, upd_ne e]
    | some y => rw [fz_some (x := y) (by rw [mset_ne e]; exact q), fz_some q]
/-- a mutable thing is written (or laid) -/
theorem S0.put (s : S0 G H m) (h : fz H m p = none) {x : MO} (r : RO G (fz H m) (upd H p o) p x) : S0 G (upd H p o) (mset m p x) ∧ Tr H m (upd H p o) (mset m p x) := by
  have e := fz_mset (o := o) (x := x) h
  refine ⟨fun b y q => ?_, by show Ex _ _; rw [e]; exact Ex.refl _⟩
  rw [e]
  by_cases z : b = p
  · subst z
    rw [mset_same] at q
    cases q
    exact r
  · rw [mset_ne z] at q
    exact (s b y q).mono (Ex.refl _) (upd_ne z)
/-- what is no longer changed is frozen (or forgotten) -/
theorem fz_mdel : Ex (fz H m) (fz H (mdel m p)) := fun b u e => by
  obtain ⟨h1, h2⟩ := fz_inv e
  by_cases z : b = p
  · subst z; rw [fz_none mdel_same]; exact h1
  · rw [fz_none (by rw [mdel_ne z]; exact h2)]; exact h1
theorem S0.del (s : S0 G H m) : S0 G H (mdel m p) ∧ Tr H m H (mdel m p) := by
  refine ⟨fun b x e => ?_, fz_mdel⟩
  by_cases z : b = p
  · subst z; rw [mdel_same] at e; cases e
  · rw [mdel_ne z] at e
    exact (s b x e).mono fz_mdel rfl
/-- a store that holds less -/
def Sub (m' m : Mu) : Prop := ∀ a, m' a = none ∨ m' a = m a
theorem fz_sub (h : Sub m' m) : Ex (fz H m) (fz H m') := fun b u e => by
  obtain ⟨h1, h2⟩ := fz_inv e
  have z : m' b = none := by
    rcases h b with z | z
    · exact z
    · rw [z]; exact h2
  rw [fz_none z]
  exact h1
theorem S0.sub (s : S0 G H m) (h : Sub m' m) : S0 G H m' ∧ Tr H m H m' := by
  refine ⟨fun b x e => ?_, fz_sub h⟩
  rcases h b with z | z
  · rw [z] at e; cases e
  · rw [z] at e
    exact (s b x e).mono (fz_sub h) rfl
end

/-! ### what is wanted behind -/
def Post (G : Ctx) (H : Hp) (m : Mu) (R : DV → Mu → Prop) (Q : VK) : Prop := ∀ v H' d m', Tr H m H' m' → S0 G H' m' → RV G (fz H' m') v d → R d m' → Q v H'
def XPost (G : Ctx) (H : Hp) (m : Mu) (XR : Tag → Mu → Prop) (E : XK) : Prop := ∀ t, G.has t = true → ∀ H' m', Tr H m H' m' → S0 G H' m' → XR t m' → E (.ref (G.ex t)) none H'
theorem Post.tr {G : Ctx} {H H' : Hp} {m m' : Mu} {R : DV → Mu → Prop} {Q : VK} (p : Post G H m R Q) (t : Tr H m H' m') : Post G H' m' R Q := fun v H2 d m2 t2 s r q => p v H2 d m2 (t.trans t2) s r q
theorem XPost.tr {G : Ctx} {H H' : Hp} {m m' : Mu} {R : Tag → Mu → Prop} {Q : XK} (p : XPost G H m R Q) (t : Tr H m H' m') : XPost G H' m' R Q := fun c hc H2 m2 t2 s q => p c hc H2 m2 (t.trans t2) s q

/-- an expression -/
def EvD (G : Ctx) (W : WX) (te : TE) (ds : DS) (m : Mu) (R : DV → Mu → Prop) (XR : Tag → Mu → Prop) : Prop :=
  ∀ (σ : L2.St) (H : Hp) (Q : VK), S0 G H m → REnv G (fz H m) σ ds → Post G H m R Q → XPost G H m XR (fun c d H' => W c d σ H') → te σ H Q
def PostT (G : Ctx) (H : Hp) (m : Mu) (R : Bool → Mu → Prop) (Q : Bool → Hp → Prop) : Prop := ∀ b H' m', Tr H m H' m' → S0 G H' m' → R b m' → Q b H'
def EvT (G : Ctx) (W : WX) (te : TT) (ds : DS) (m : Mu) (R : Bool → Mu → Prop) (XR : Tag → Mu → Prop) : Prop :=
  ∀ (σ : L2.St) (H : Hp) (Q : Bool → Hp → Prop), S0 G H m → REnv G (fz H m) σ ds → PostT G H m R Q → XPost G H m XR (fun c d H' => W c d σ H') → te σ H Q
def PostA (G : Ctx) (H : Hp) (m : Mu) (R : List DV → Mu → Prop) (Q : List V → Hp → Prop) : Prop := ∀ vs H' ds m', Tr H m H' m' → S0 G H' m' → RVs G (fz H' m') vs ds → R ds m' → Q vs H'
def EvA (G : Ctx) (W : WX) (te : TA) (ds : DS) (m : Mu) (R : List DV → Mu → Prop) (XR : Tag → Mu → Prop) : Prop :=
  ∀ (σ : L2.St) (H : Hp) (Q : List V → Hp → Prop), S0 G H m → REnv G (fz H m) σ ds → PostA G H m R Q → XPost G H m XR (fun c d H' => W c d σ H') → te σ H Q

/-- statements -/
structure EndsD where
  nx : DS → Mu → Prop
  rt : DV → Mu → Prop
  bk : DS → Mu → Prop := fun _ _ => False
  ct : DS → Mu → Prop := fun _ _ => False
def PostS (G : Ctx) (H : Hp) (m : Mu) (R : DS → Mu → Prop) (Q : L2.St → Hp → Prop) : Prop := ∀ σ H' ds m', Tr H m H' m' → S0 G H' m' → REnv G (fz H' m') σ ds → R ds m' → Q σ H'
structure SPost (G : Ctx) (W : WX) (H : Hp) (m : Mu) (N : EndsD) (XR : Tag → DS → Mu → Prop) (E : Ends) : Prop where
  nx : PostS G H m N.nx E.nx
  rt : Post G H m N.rt E.rt
  bk : PostS G H m N.bk E.bk
  ct : PostS G H m N.ct E.ct
  xe : ∀ t, G.has t = true → ∀ σ H' ds m', Tr H m H' m' → S0 G H' m' → REnv G (fz H' m') σ ds → XR t ds m' → W (.ref (G.ex t)) none σ H'
def StD (G : Ctx) (W : WX) (t : TS) (ds : DS) (m : Mu) (N : EndsD) (XR : Tag → DS → Mu → Prop) : Prop :=
  ∀ (σ : L2.St) (H : Hp) (E : Ends), S0 G H m → REnv G (fz H m) σ ds → SPost G W H m N XR E → t E σ H
theorem PostS.tr {G : Ctx} {H H' : Hp} {m m' : Mu} {R : DS → Mu → Prop} {Q : L2.St → Hp → Prop} (p : PostS G H m R Q) (t : Tr H m H' m') : PostS G H' m' R Q := fun v H2 d m2 t2 s r q => p v H2 d m2 (t.trans t2) s r q
theorem SPost.tr {G : Ctx} {W : WX} {H H' : Hp} {m m' : Mu} {N : EndsD} {XR : Tag → DS → Mu → Prop} {E : Ends} (p : SPost G W H m N XR E) (t : Tr H m H' m') : SPost G W H' m' N XR E :=
  ⟨p.nx.tr t, p.rt.tr t, p.bk.tr t, p.ct.tr t, fun c hc σ H2 ds m2 t2 => p.xe c hc σ H2 ds m2 (t.trans t2)⟩
theorem SPost.x {G : Ctx} {W : WX} {H : Hp} {m : Mu} {N : EndsD} {XR : Tag → DS → Mu → Prop} {E : Ends} (p : SPost G W H m N XR E) {σ : L2.St} {ds : DS} (r : REnv G (fz H m) σ ds) : XPost G H m (fun t m' => XR t ds m') (fun c d H' => W c d σ H') :=
  fun t ht H' m' tr s q => p.xe t ht σ H' ds m' tr s (r.mono tr) q

/-! ### rules: expressions -/
section
variable {G : Ctx} {W : WX} {ds : DS} {m : Mu} {R : DV → Mu → Prop} {XR : Tag → Mu → Prop} {ta tb tc te : TE}
theorem ev_var {i : Nat} {d : DV} (h : ds[i]? = some (some d)) (k : R d m) : EvD G W (tVar i) ds m R XR := fun σ H Q s r p x => by
  obtain ⟨v, h1, h2⟩ := r.at_ i d h
  exact ⟨v, h1, p v H d m (Ex.refl _) s h2 k⟩
/-- a mutable list, read as a value: from now on it is data -/
theorem ev_varF {i : Nat} {a : Addr} {xs : List D} (h : ds[i]? = some (some (.r a))) (hm : m a = some (.lst xs)) (k : R (.d (.lst xs)) (mdel m a)) : EvD G W (tVar i) ds m R XR := fun σ H Q s r p x => by
  obtain ⟨v, h1, h2⟩ := r.at_ i _ h
  cases h2
  obtain ⟨vs, e1, e2⟩ := s a _ hm
  obtain ⟨s', t⟩ := s.del (p := a)
  exact ⟨_, h1, p _ H _ _ t s' (RV.dat (Rp.lst (by rw [fz_none mdel_same]; exact e1) (RpL.mono t _ _ e2))) k⟩
theorem ev_int {i : Int} (k : R (.d (.int i)) m) : EvD G W (tC (.int i)) ds m R XR := fun σ H Q s r p x => p _ H _ m (Ex.refl _) s (RV.dat (Rp.int i)) k
theorem ev_bl {b : Bool} (k : R (.d (.bl b)) m) : EvD G W (tC (.bl b)) ds m R XR := fun σ H Q s r p x => p _ H _ m (Ex.refl _) s (RV.dat (Rp.bl b)) k
theorem ev_non (k : R (.d .non) m) : EvD G W (tC .non) ds m R XR := fun σ H Q s r p x => p _ H _ m (Ex.refl _) s (RV.dat Rp.non) k
theorem ev_str {z : Str} (k : R (.d (.str z)) m) : EvD G W (tC (.str z)) ds m R XR := fun σ H Q s r p x => p _ H _ m (Ex.refl _) s (RV.dat (Rp.str z)) k
theorem EvD.imp {R' : DV → Mu → Prop} {XR' : Tag → Mu → Prop} (h : EvD G W te ds m R XR) (hR : ∀ d m', R d m' → R' d m') (hX : ∀ t m', XR t m' → XR' t m') : EvD G W te ds m R' XR' := fun σ H Q s r p x =>
  h σ H Q s r (fun v H' d m' t s' r' q => p v H' d m' t s' r' (hR d m' q)) (fun c hc H' m' t s' q => x c hc H' m' t s' (hX c m' q))

/-- an operation on two values, by data -/
abbrev F2 := DV → DV → Mu → (DV → Mu → Prop) → Prop
def rD2 (G : Ctx) (f : F2) : R2 := fun x y H Q => ∃ dx dy m R, S0 G H m ∧ RV G (fz H m) x dx ∧ RV G (fz H m) y dy ∧ f dx dy m R ∧ Post G H m R Q
theorem ev_op {f : F2} (h : EvD G W ta ds m (fun x m1 => EvD G W tb ds m1 (fun y m2 => f x y m2 R) XR) XR) : EvD G W (tOp (rD2 G f) ta tb) ds m R XR := fun σ H Q s r p x =>
  h σ H _ s r (fun v H1 d m1 t1 s1 r1 q1 => q1 σ H1 _ s1 (r.mono t1) (fun u H2 e m2 t2 s2 r2 q2 => ⟨d, e, m2, R, s2, r1.mono t2, r2, q2, p.tr (t1.trans t2)⟩) (x.tr t1)) x
abbrev F1 := DV → Mu → (DV → Mu → Prop) → Prop
def rD1 (G : Ctx) (f : F1) : V → Hp → VK → Prop := fun x H Q => ∃ dx m R, S0 G H m ∧ RV G (fz H m) x dx ∧ f dx m R ∧ Post G H m R Q
theorem ev_un {f : F1} (h : EvD G W ta ds m (fun x m1 => f x m1 R) XR) : EvD G W (tUn (rD1 G f) ta) ds m R XR := fun σ H Q s r p x =>
  h σ H _ s r (fun v H1 d m1 t1 s1 r1 q1 => ⟨d, m1, R, s1, r1, q1, p.tr t1⟩) x
abbrev FN := List DV → Mu → (DV → Mu → Prop) → Prop
def rDn (G : Ctx) (f : FN) : List V → Hp → VK → Prop := fun xs H Q => ∃ dx m R, S0 G H m ∧ RVs G (fz H m) xs dx ∧ f dx m R ∧ Post G H m R Q
theorem ev_cb {f : FN} {t : TA} (h : EvA G W t ds m (fun xs m1 => f xs m1 R) XR) : EvD G W (tCB (rDn G f) t) ds m R XR := fun σ H Q s r p x =>
  h σ H _ s r (fun vs H1 xs m1 t1 s1 r1 q1 => ⟨xs, m1, R, s1, r1, q1, p.tr t1⟩) x
theorem ea_nil {RA : List DV → Mu → Prop} (k : RA [] m) : EvA G W tNil ds m RA XR := fun σ H Q s r p x => p [] H [] m (Ex.refl _) s .nil k
theorem ea_cons {RA : List DV → Mu → Prop} {t : TA} (h : EvD G W te ds m (fun x m1 => EvA G W t ds m1 (fun xs m2 => RA (x :: xs) m2) XR) XR) : EvA G W (tCons te t) ds m RA XR := fun σ H Q s r p x =>
  h σ H _ s r (fun v H1 d m1 t1 s1 r1 q1 => q1 σ H1 _ s1 (r.mono t1) (fun vs H2 es m2 t2 s2 r2 q2 => p (v :: vs) H2 (d :: es) m2 (t1.trans t2) s2 (.cons (r1.mono t2) r2) q2) (x.tr t1)) x
theorem ev_if {t : TT} (h : EvT G W t ds m (fun b m1 => if b = true then EvD G W ta ds m1 R XR else EvD G W tb ds m1 R XR) XR) : EvD G W (tIf t ta tb) ds m R XR := fun σ H Q s r p x =>
  h σ H _ s r (fun b H1 m1 t1 s1 q1 => by
    cases b with
    | true => exact q1 σ H1 Q s1 (r.mono t1) (p.tr t1) (x.tr t1)
    | false => exact q1 σ H1 Q s1 (r.mono t1) (p.tr t1) (x.tr t1)) x
/-- a tuple, a list display -/
theorem RVs.data {F : Hp} : ∀ {vs : List V} {xs : List D}, RVs G F vs (xs.map DV.d) → RpL F vs xs
  | _, [], .nil => .nil
  | _, _ :: _, .cons h t => .cons h (RVs.data t)
theorem RVs.undata {F : Hp} : ∀ {vs : List V} {xs : List D}, RpL F vs xs → RVs G F vs (xs.map DV.d)
  | _, [], .nil => .nil
  | _, _ :: _, .cons h t => .cons h (RVs.undata t)
theorem sz_of {n : Nat} (h : n ≤ 100000) : n ≤ sizeLine := Nat.le_trans h (by decide)
theorem sz_lt {n : Nat} (h : n < 100000) : n < sizeLine := Nat.lt_of_lt_of_le h (by decide)
theorem ev_tup {t : TA} (h : EvA G W t ds m (fun es m1 => ∃ xs : List D, es = xs.map DV.d ∧ xs.length ≤ 100000 ∧ R (.d (.tup xs)) m1) XR) : EvD G W (tTup t) ds m R XR := fun σ H Q s r p x =>
  h σ H _ s r (fun vs H1 es m1 t1 s1 r1 ⟨xs, e, l, q⟩ => by
    subst e
    have r2 := RVs.data r1
    refine ⟨sz_of (by rw [r2.length]; exact l), fun a ha => ?_⟩
    obtain ⟨s2, t2, e2⟩ := s1.lay (o := .tup vs) ha
    exact p _ _ _ _ (t1.trans t2) s2 (RV.dat (Rp.tup e2 (RpL.mono t2 _ _ r2))) q) x
theorem ev_lst {t : TA} (h : EvA G W t ds m (fun es m1 => ∃ xs : List D, es = xs.map DV.d ∧ xs.length ≤ 100000 ∧ R (.d (.lst xs)) m1) XR) : EvD G W (tLst t) ds m R XR := fun σ H Q s r p x =>
  h σ H _ s r (fun vs H1 es m1 t1 s1 r1 ⟨xs, e, l, q⟩ => by
    subst e
    have r2 := RVs.data r1
    refine ⟨sz_of (by rw [r2.length]; exact l), fun a ha => ?_⟩
    obtain ⟨s2, t2, e2⟩ := s1.lay (o := .lst vs) ha
    exact p _ _ _ _ (t1.trans t2) s2 (RV.dat (Rp.lst e2 (RpL.mono t2 _ _ r2))) q) x
end

/-! ### rules: tests -/
section
variable {G : Ctx} {W : WX} {ds : DS} {m : Mu} {R : Bool → Mu → Prop} {XR : Tag → Mu → Prop} {te : TE} {t u : TT}
theorem et_B (h : EvD G W te ds m (fun d m1 => ∃ b, d = .d (.bl b) ∧ R b m1) XR) : EvT G W (tB te) ds m R XR := fun σ H Q s r p x =>
  h σ H _ s r (fun v H1 d m1 t1 s1 r1 ⟨b, e, q⟩ => by
    subst e
    cases r1
    exact ⟨b, rfl, p b H1 m1 t1 s1 q⟩) x
theorem et_test (h : EvD G W te ds m (fun d m1 => ∃ b, d = .d (.bl b) ∧ R b m1) XR) : EvT G W (tTest te) ds m R XR := fun σ H Q s r p x =>
  h σ H _ s r (fun v H1 d m1 t1 s1 r1 ⟨b, e, q⟩ => by
    subst e
    cases r1
    exact ⟨b, rfl, p b H1 m1 t1 s1 q⟩) x
theorem et_and (h : EvT G W t ds m (fun b m1 => if b = true then EvT G W u ds m1 R XR else R false m1) XR) : EvT G W (tAnd t u) ds m R XR := fun σ H Q s r p x =>
  h σ H _ s r (fun b H1 m1 t1 s1 q1 => by
    cases b with
    | true => exact q1 σ H1 Q s1 (r.mono t1) (fun c H2 m2 t2 s2 q2 => p c H2 m2 (t1.trans t2) s2 q2) (x.tr t1)
    | false => exact p false H1 m1 t1 s1 q1) x
theorem et_or (h : EvT G W t ds m (fun b m1 => if b = true then R true m1 else EvT G W u ds m1 R XR) XR) : EvT G W (tOr t u) ds m R XR := fun σ H Q s r p x =>
  h σ H _ s r (fun b H1 m1 t1 s1 q1 => by
    cases b with
    | false => exact q1 σ H1 Q s1 (r.mono t1) (fun c H2 m2 t2 s2 q2 => p c H2 m2 (t1.trans t2) s2 q2) (x.tr t1)
    | true => exact p true H1 m1 t1 s1 q1) x
theorem et_not (h : EvT G W t ds m (fun b m1 => R (!b) m1) XR) : EvT G W (tNot t) ds m R XR := fun σ H Q s r p x =>
  h σ H _ s r (fun b H1 m1 t1 s1 q1 => p (!b) H1 m1 t1 s1 q1) x
theorem et_yes (k : R true m) : EvT G W tYes ds m R XR := fun σ H Q s r p x => p true H m (Ex.refl _) s k
end

/-! ### rules: statements -/
section
variable {G : Ctx} {W : WX} {ds : DS} {m : Mu} {N : EndsD} {XR : Tag → DS → Mu → Prop} {te : TE} {t u : TS} {c : TT}
theorem st_next (k : N.nx ds m) : StD G W tNext ds m N XR := fun σ H E s r p => p.nx σ H ds m (Ex.refl _) s r k
theorem st_seq (h : StD G W t ds m { N with nx := fun ds' m' => StD G W u ds' m' N XR } XR) : StD G W (tSeq t u) ds m N XR := fun σ H E s r p =>
  h σ H { E with nx := u E } s r ⟨fun σ1 H1 ds1 m1 t1 s1 r1 q1 => q1 σ1 H1 E s1 r1 (p.tr t1), p.rt, p.bk, p.ct, p.xe⟩
theorem st_asg {i : Nat} (h : EvD G W te ds m (fun d m1 => N.nx (ds.set i (some d)) m1) (fun t m1 => XR t ds m1)) : StD G W (tAsg te (gName i)) ds m N XR := fun σ H E s r p =>
  h σ H _ s r (fun v H1 d m1 t1 s1 r1 q1 => p.nx _ H1 _ m1 t1 s1 ((r.mono t1).set i r1) q1) (p.x r)
theorem st_drop (h : EvD G W te ds m (fun _ m1 => N.nx ds m1) (fun t m1 => XR t ds m1)) : StD G W (tDrop te) ds m N XR := fun σ H E s r p =>
  h σ H _ s r (fun v H1 d m1 t1 s1 r1 q1 => p.nx _ H1 _ m1 t1 s1 (r.mono t1) q1) (p.x r)
theorem st_ret (h : EvD G W te ds m N.rt (fun t m1 => XR t ds m1)) : StD G W (tRet te) ds m N XR := fun σ H E s r p => h σ H _ s r p.rt (p.x r)
theorem st_if (h : EvT G W c ds m (fun b m1 => if b = true then StD G W t ds m1 N XR else StD G W u ds m1 N XR) (fun t m1 => XR t ds m1)) : StD G W (tIfS c t u) ds m N XR := fun σ H E s r p =>
  h σ H _ s r (fun b H1 m1 t1 s1 q1 => by
    cases b with
    | true => exact q1 σ H1 E s1 (r.mono t1) (p.tr t1)
    | false => exact q1 σ H1 E s1 (r.mono t1) (p.tr t1)) (p.x r)
theorem st_break (k : N.bk ds m) : StD G W tBreak ds m N XR := fun σ H E s r p => p.bk σ H ds m (Ex.refl _) s r k
theorem st_cont (k : N.ct ds m) : StD G W tCont ds m N XR := fun σ H E s r p => p.ct σ H ds m (Ex.refl _) s r k
theorem StD.imp {N' : EndsD} {XR' : Tag → DS → Mu → Prop} (h : StD G W t ds m N XR) (h1 : ∀ d m', N.nx d m' → N'.nx d m') (h2 : ∀ d m', N.rt d m' → N'.rt d m') (h3 : ∀ d m', N.bk d m' → N'.bk d m') (h4 : ∀ d m', N.ct d m' → N'.ct d m') (h5 : ∀ t d m', XR t d m' → XR' t d m') : StD G W t ds m N' XR' := fun σ H E s r p =>
  h σ H E s r ⟨fun a b c d e f g q => p.nx a b c d e f g (h1 _ _ q), fun a b c d e f g q => p.rt a b c d e f g (h2 _ _ q), fun a b c d e f g q => p.bk a b c d e f g (h3 _ _ q), fun a b c d e f g q => p.ct a b c d e f g (h4 _ _ q), fun a ha b c d e f g k q => p.xe a ha b c d e f g k (h5 _ _ _ q)⟩
/-- less in the store -/
theorem StD.sub {m' : Mu} (h : StD G W t ds m' N XR) (b : Sub m' m) : StD G W t ds m N XR := fun σ H E s r p => by
  obtain ⟨s', tr⟩ := s.sub b
  exact h σ H E s' (r.mono tr) (p.tr tr)
theorem EvD.sub {R : DV → Mu → Prop} {YR : Tag → Mu → Prop} {m' : Mu} (h : EvD G W te ds m' R YR) (b : Sub m' m) : EvD G W te ds m R YR := fun σ H E s r p x => by
  obtain ⟨s', tr⟩ := s.sub b
  exact h σ H E s' (r.mono tr) (p.tr tr) (x.tr tr)
end
end Lb

/-! Lb1: operators and built-ins by data. -/
namespace Lb
open PySem L2

/-! ### data as the library reads it -/
mutual
def toPy : D → PyData
  | .non => .none
  | .bl b => .bool b
  | .int i => .int i
  | .str s => .str s
  | .lst xs => .list (toPys xs)
  | .tup xs => .tuple (toPys xs)
def toPys : List D → List PyData
  | [] => []
  | x :: xs => toPy x :: toPys xs
end
theorem toPys_map : ∀ xs : List D, toPys xs = xs.map toPy
  | [] => rfl
  | x :: xs => by rw [toPys, toPys_map xs, List.map_cons]
def eqD (a b : D) : Bool := PyData.eqv (toPy a) (toPy b)
def eqDs (a b : List D) : Bool := PyData.eqvAll (toPys a) (toPys b)
/-- a text whose signs are signs -/
abbrev okS (s : Str) : Prop := PyData.strOk s = true
/-- data of at most so many things within one another -/
def Sh : Nat → D → Prop
  | _, .non => True
  | _, .bl _ => True
  | _, .int _ => True
  | _, .str s => okS s
  | 0, .lst xs => xs = []
  | 0, .tup xs => xs = []
  | n + 1, .lst xs => ∀ x ∈ xs, Sh n x
  | n + 1, .tup xs => ∀ x ∈ xs, Sh n x
theorem Sh.lays {f : D → Prop} : ∀ (xs : List D), (∀ x ∈ xs, PyData.canLay0 (toPy x) = true) → PyData.canLayAll0 (toPys xs) = true
  | [], _ => rfl
  | x :: xs, h => by
    rw [toPys, PyData.canLayAll0, h x List.mem_cons_self, Sh.lays (f := f) xs fun y hy => h y (List.mem_cons_of_mem _ hy)]
    rfl
theorem Sh.deps {n : Nat} : ∀ (xs : List D), (∀ x ∈ xs, PyData.depth (toPy x) ≤ n) → PyData.depthAll (toPys xs) ≤ n
  | [], _ => by rw [toPys, PyData.depthAll]; exact Nat.zero_le _
  | x :: xs, h => by
    rw [toPys, PyData.depthAll]
    exact Nat.max_le.mpr ⟨h x List.mem_cons_self, Sh.deps xs fun y hy => h y (List.mem_cons_of_mem _ hy)⟩
theorem Sh.both : ∀ (n : Nat) (d : D), Sh n d → PyData.canLay0 (toPy d) = true ∧ PyData.depth (toPy d) ≤ n + 1
  | n, .non, _ => ⟨by rw [toPy, PyData.canLay0], by rw [toPy, PyData.depth]; omega⟩
  | n, .bl _, _ => ⟨by rw [toPy, PyData.canLay0], by rw [toPy, PyData.depth]; omega⟩
  | n, .int _, _ => ⟨by rw [toPy, PyData.canLay0], by rw [toPy, PyData.depth]; omega⟩
  | n, .str s, h => ⟨by rw [toPy, PyData.canLay0]; unfold Sh at h; exact h, by rw [toPy, PyData.depth]; omega⟩
  | 0, .lst xs, h => by unfold Sh at h; subst h; exact ⟨by rw [toPy, toPys, PyData.canLay0, PyData.canLayAll0], by rw [toPy, toPys, PyData.depth, PyData.depthAll]; omega⟩
  | 0, .tup xs, h => by unfold Sh at h; subst h; exact ⟨by rw [toPy, toPys, PyData.canLay0, PyData.canLayAll0], by rw [toPy, toPys, PyData.depth, PyData.depthAll]; omega⟩
  | n + 1, .lst xs, h => by
    unfold Sh at h
    refine ⟨?_, ?_⟩
    · rw [toPy, PyData.canLay0]; exact Sh.lays (f := Sh n) xs fun x hx => (Sh.both n x (h x hx)).1
    · rw [toPy, PyData.depth]; have := Sh.deps xs fun x hx => (Sh.both n x (h x hx)).2; omega
  | n + 1, .tup xs, h => by
    unfold Sh at h
    refine ⟨?_, ?_⟩
    · rw [toPy, PyData.canLay0]; exact Sh.lays (f := Sh n) xs fun x hx => (Sh.both n x (h x hx)).1
    · rw [toPy, PyData.depth]; have := Sh.deps xs fun x hx => (Sh.both n x (h x hx)).2; omega
theorem Sh.shaped {d : D} (h : Sh 63 d) : SeqAt.shaped (toPy d) = true := by
  obtain ⟨h1, h2⟩ := Sh.both 63 d h
  unfold SeqAt.shaped
  rw [h1, decide_eq_true h2]
  rfl
theorem Sh.up : ∀ {n k : Nat} {d : D}, Sh n d → n ≤ k → Sh k d
  | _, _, .non, _, _ => by unfold Sh; trivial
  | _, _, .bl _, _, _ => by unfold Sh; trivial
  | _, _, .int _, _, _ => by unfold Sh; trivial
  | _, _, .str _, h, _ => by unfold Sh at h ⊢; exact h
  | 0, k, .lst xs, h, _ => by
    unfold Sh at h; subst h
    cases k with
    | zero => rfl
    | succ k => intro x hx; cases hx
  | 0, k, .tup xs, h, _ => by
    unfold Sh at h; subst h
    cases k with
    | zero => rfl
    | succ k => intro x hx; cases hx
  | n + 1, 0, .lst xs, _, hk => absurd hk (by omega)
  | n + 1, 0, .tup xs, _, hk => absurd hk (by omega)
  | n + 1, k + 1, .lst xs, h, hk => by
    unfold Sh at h ⊢
    exact fun x hx => (h x hx).up (Nat.le_of_succ_le_succ hk)
  | n + 1, k + 1, .tup xs, h, hk => by
    unfold Sh at h ⊢
    exact fun x hx => (h x hx).up (Nat.le_of_succ_le_succ hk)
mutual
theorem Rp.dp {K : PySem.W.Frag} {F : Hp} : ∀ (d : D) (v : V), Rp F v d → Dp K F v (toPy d)
  | .non, _, h => by cases h; rw [toPy]; exact .non
  | .bl b, _, h => by cases h; rw [toPy]; exact .bl b
  | .int i, _, h => by cases h; rw [toPy]; exact .int i
  | .str x, _, h => by cases h; rw [toPy]; exact .str x
  | .lst xs, _, h => by
    cases h with
    | lst h1 h2 => rw [toPy]; exact .lst (SqL.of h1) (RpL.dp xs _ h2)
  | .tup xs, _, h => by
    cases h with
    | tup h1 h2 => rw [toPy]; exact .tup (SqT.of h1) (RpL.dp xs _ h2)
theorem RpL.dp {K : PySem.W.Frag} {F : Hp} : ∀ (ds : List D) (vs : List V), RpL F vs ds → DpAll K F vs (toPys ds)
  | [], _, h => by cases h; rw [toPys]; exact .nil
  | d :: ds, _, h => by
    cases h with
    | cons h1 h2 => rw [toPys]; exact .cons (Rp.dp d _ h1) (RpL.dp ds _ h2)
end

/-! ### the view of a value: data, or a mutable list as it stands -/
def moL : Option MO → Option D
  | some (.lst xs) => some (.lst xs)
  | _ => none
def vw (m : Mu) : DV → Option D
  | .d x => some x
  | .r a => moL (m a)
  | .scr _ => none
theorem vw_d {m : Mu} {x : D} : vw m (.d x) = some x := rfl
theorem vw_r {m : Mu} {a : Addr} {xs : List D} (h : m a = some (.lst xs)) : vw m (.r a) = some (.lst xs) := by show moL (m a) = _; rw [h]; rfl
theorem vw_rp {G : Ctx} {H : Hp} {m : Mu} {v : V} {dv : DV} {x : D} (s : S0 G H m) (r : RV G (fz H m) v dv) (h : vw m dv = some x) : Rp H v x := by
  cases dv with
  | d y => cases h; exact Rp.mono fz_ex _ _ r
  | r a =>
    cases r
    have h : moL (m a) = some x := h
    cases e : m a with
    | none => rw [e] at h; cases h
    | some o =>
      rw [e] at h
      cases o with
      | lst xs =>
        cases h
        obtain ⟨vs, h1, h2⟩ := s a _ e
        exact .lst h1 (RpL.mono fz_ex _ _ h2)
      | ins c fs => cases h
      | exc t => cases h
      | tpl es => cases h
  | scr ns => cases h
theorem Post.here {G : Ctx} {H : Hp} {m : Mu} {R : DV → Mu → Prop} {Q : VK} (p : Post G H m R Q) (s : S0 G H m) {v : V} {d : DV} (r : RV G (fz H m) v d) (k : R d m) : Q v H := p v H d m (Ex.refl _) s r k
theorem Post.lay {G : Ctx} {H : Hp} {m : Mu} {R : DV → Mu → Prop} {Q : VK} (p : Post G H m R Q) (s : S0 G H m) {a : Addr} (ha : H a = none) {vs : List V} {xs : List D} (r : RpL (fz H m) vs xs) (k : R (.d (.lst xs)) m) : Q (.ref a) (upd H a (.lst vs)) := by
  obtain ⟨s2, t2, e2⟩ := s.lay (o := .lst vs) ha
  exact p _ _ _ _ t2 s2 (RV.dat (Rp.lst e2 (RpL.mono t2 _ _ r))) k
theorem Post.layT {G : Ctx} {H : Hp} {m : Mu} {R : DV → Mu → Prop} {Q : VK} (p : Post G H m R Q) (s : S0 G H m) {a : Addr} (ha : H a = none) {vs : List V} {xs : List D} (r : RpL (fz H m) vs xs) (k : R (.d (.tup xs)) m) : Q (.ref a) (upd H a (.tup vs)) := by
  obtain ⟨s2, t2, e2⟩ := s.lay (o := .tup vs) ha
  exact p _ _ _ _ t2 s2 (RV.dat (Rp.tup e2 (RpL.mono t2 _ _ r))) k
theorem RpL.ints {F : Hp} : ∀ {ns : List Int} {vs : List V}, RpL F vs (ns.map D.int) → vs = ns.map V.int
  | [], _, .nil => rfl
  | n :: ns, _, .cons h t => by
    cases h
    rw [List.map_cons, RpL.ints t]
theorem RpL.ofInts {F : Hp} : ∀ (ns : List Int), RpL F (ns.map V.int) (ns.map D.int)
  | [] => .nil
  | n :: ns => .cons (.int n) (RpL.ofInts ns)
theorem RpL.bls {F : Hp} : ∀ {ns : List Bool} {vs : List V}, RpL F vs (ns.map D.bl) → vs = ns.map V.bl
  | [], _, .nil => rfl
  | n :: ns, _, .cons h t => by
    cases h
    rw [List.map_cons, RpL.bls t]
theorem atI_rp {F : Hp} {vs : List V} {xs : List D} {i : Int} {x : D} (r : RpL F vs xs) (h : atI xs i = some x) : ∃ v, atI vs i = some v ∧ Rp F v x := by
  unfold atI at h ⊢
  rw [r.length]
  cases e : ixN xs.length i with
  | none => rw [e] at h; cases h
  | some j =>
    rw [e] at h
    exact r.get h

/-! ### the operators -/
def addF : F2
  | .d (.int i), .d (.int j), m, R => R (.d (.int (i + j))) m
  | .d (.str s), .d (.str t), m, R => s.length + t.length ≤ 100000 ∧ R (.d (.str (s ++ t))) m
  | .d (.lst xs), .d (.lst ys), m, R => xs.length + ys.length ≤ 100000 ∧ R (.d (.lst (xs ++ ys))) m
  | .d (.tup xs), .d (.tup ys), m, R => xs.length + ys.length ≤ 100000 ∧ R (.d (.tup (xs ++ ys))) m
  | _, _, _, _ => False
def subF : F2
  | .d (.int i), .d (.int j), m, R => R (.d (.int (i - j))) m
  | _, _, _, _ => False
def mulF : F2
  | .d (.int i), .d (.int j), m, R => CMul i j ∧ R (.d (.int (i * j))) m
  | .d (.lst xs), .d (.int k), m, R => 0 ≤ k ∧ k ≤ 100000 ∧ xs.length * k.toNat ≤ 100000 ∧ R (.d (.lst (List.replicate k.toNat xs).flatten)) m
  | .d (.tup xs), .d (.int k), m, R => xs ≠ [] ∧ 2 ≤ k ∧ k ≤ 1000 ∧ xs.length ≤ 1000 ∧ R (.d (.tup (List.replicate k.toNat xs).flatten)) m
  | _, _, _, _ => False
def divF : F2
  | .d (.int i), .d (.int j), m, R => CDiv i j ∧ R (.d (.int (i / j))) m
  | _, _, _, _ => False
def modF : F2
  | .d (.int i), .d (.int j), m, R => 0 < j ∧ R (.d (.int (i % j))) m
  | _, _, _, _ => False
def powF : F2
  | .d (.int i), .d (.int j), m, R => CPow i j ∧ R (.d (.int (i ^ j.toNat))) m
  | _, _, _, _ => False
def ltF : F2
  | .d (.int i), .d (.int j), m, R => R (.d (.bl (decide (i < j)))) m
  | .d (.tup xs), .d (.tup ys), m, R => ∃ ns ms : List Int, xs = ns.map D.int ∧ ys = ms.map D.int ∧ R (.d (.bl (HT.lexLt ns ms))) m
  | _, _, _, _ => False
def leF : F2
  | .d (.int i), .d (.int j), m, R => R (.d (.bl (decide (i ≤ j)))) m
  | _, _, _, _ => False
def gtF : F2
  | .d (.int i), .d (.int j), m, R => R (.d (.bl (decide (j < i)))) m
  | _, _, _, _ => False
def geF : F2
  | .d (.int i), .d (.int j), m, R => R (.d (.bl (decide (j ≤ i)))) m
  | _, _, _, _ => False
def eqF : F2
  | .d x, .d y, m, R => Sh 63 x ∧ Sh 63 y ∧ R (.d (.bl (eqD x y))) m
  | x, y, m, R => ∃ a b, vw m x = some a ∧ vw m y = some b ∧ Sh 63 a ∧ Sh 63 b ∧ R (.d (.bl (eqD a b))) m
def neF : F2
  | .d x, .d y, m, R => Sh 63 x ∧ Sh 63 y ∧ R (.d (.bl (!eqD x y))) m
  | x, y, m, R => ∃ a b, vw m x = some a ∧ vw m y = some b ∧ Sh 63 a ∧ Sh 63 b ∧ R (.d (.bl (!eqD a b))) m
def isNon : DV → Bool
  | .d .non => true
  | _ => false
def isF : F2
  | x, .d .non, m, R => R (.d (.bl (isNon x))) m
  | _, _, _, _ => False
def isnotF : F2
  | x, .d .non, m, R => R (.d (.bl (!isNon x))) m
  | _, _, _, _ => False
def inF : F2
  | .d x, .d (.lst ys), m, R => Sh 63 x ∧ (∀ y ∈ ys, Sh 62 y) ∧ R (.d (.bl (ys.any fun y => eqD y x))) m
  | .d x, .d (.tup ys), m, R => Sh 63 x ∧ (∀ y ∈ ys, Sh 62 y) ∧ R (.d (.bl (ys.any fun y => eqD y x))) m
  | .d (.str s), .d (.str t), m, R => R (.d (.bl (!(Builtin.Str.occurrences t s 0 t.length 1).isEmpty))) m
  | .d x, .r a, m, R => ∃ ys, m a = some (.lst ys) ∧ Sh 63 x ∧ (∀ y ∈ ys, Sh 62 y) ∧ R (.d (.bl (ys.any fun y => eqD y x))) m
  | _, _, _, _ => False
def notinF : F2
  | .d x, .d (.lst ys), m, R => Sh 63 x ∧ (∀ y ∈ ys, Sh 62 y) ∧ R (.d (.bl (!ys.any fun y => eqD y x))) m
  | .d x, .d (.tup ys), m, R => Sh 63 x ∧ (∀ y ∈ ys, Sh 62 y) ∧ R (.d (.bl (!ys.any fun y => eqD y x))) m
  | .d (.str s), .d (.str t), m, R => R (.d (.bl (!(!(Builtin.Str.occurrences t s 0 t.length 1).isEmpty)))) m
  | .d x, .r a, m, R => ∃ ys, m a = some (.lst ys) ∧ Sh 63 x ∧ (∀ y ∈ ys, Sh 62 y) ∧ R (.d (.bl (!ys.any fun y => eqD y x))) m
  | _, _, _, _ => False
def negF : F1
  | .d (.int i), m, R => R (.d (.int (-i))) m
  | _, _, _ => False

section
variable {X : Cx} {G : Ctx}
theorem or_add (hK : X.K = G.K) : OpR X (binaryOp .Add) (rD2 G addF) := by
  intro pins s σ H x y v u Q I rx ry h
  obtain ⟨dx, dy, m, R, s0, r1, r2, h, p⟩ := h
  unfold addF at h
  split at h
  · cases r1; cases r2
    exact op_add pins s σ H _ _ v u Q I rx ry ⟨_, _, rfl, rfl, p.here s0 (RV.dat (Rp.int _)) h⟩
  · cases r1; cases r2
    exact op_add_str pins s σ H _ _ v u Q I rx ry ⟨_, _, rfl, rfl, sz_of h.1, p.here s0 (RV.dat (Rp.str _)) h.2⟩
  · cases r1 with
    | lst h1 h2 =>
      cases r2 with
      | lst h3 h4 =>
        exact op_cat pins s σ H _ _ v u Q I rx ry ⟨_, _, _, _, rfl, rfl, fz_ex _ _ h1, fz_ex _ _ h3, sz_of (by rw [h2.length, h4.length]; exact h.1), fun a ha => p.lay s0 ha (h2.app h4) h.2⟩
  · cases r1 with
    | tup h1 h2 =>
      cases r2 with
      | tup h3 h4 =>
        refine op_catA pins s σ H _ _ v u Q I rx ry ⟨_, _, _, _, rfl, rfl, SqT.of (fz_ex _ _ h1), SqT.of (fz_ex _ _ h3), sz_of (by rw [h2.length, h4.length]; exact h.1), fun e => ?_, fun _ e => ?_, fun _ _ a ha => p.layT s0 ha (h2.app h4) h.2⟩
        · subst e
          cases h2
          exact p.here s0 (RV.dat (Rp.tup h3 h4)) h.2
        · subst e
          cases h4
          exact p.here s0 (RV.dat (Rp.tup h1 h2)) (by have z := h.2; rw [List.append_nil] at z; exact z)
  · exact h.elim
theorem or_sub : OpR X (binaryOp .Sub) (rD2 G subF) := by
  intro pins s σ H x y v u Q I rx ry h
  obtain ⟨dx, dy, m, R, s0, r1, r2, h, p⟩ := h
  unfold subF at h
  split at h
  · cases r1; cases r2
    exact op_sub pins s σ H _ _ v u Q I rx ry ⟨_, _, rfl, rfl, p.here s0 (RV.dat (Rp.int _)) h⟩
  · exact h.elim
theorem or_mul : OpR X (binaryOp .Mult) (rD2 G mulF) := by
  intro pins s σ H x y v u Q I rx ry h
  obtain ⟨dx, dy, m, R, s0, r1, r2, h, p⟩ := h
  unfold mulF at h
  split at h
  · cases r1; cases r2
    exact op_mul pins s σ H _ _ v u Q I rx ry ⟨_, _, rfl, rfl, h.1, p.here s0 (RV.dat (Rp.int _)) h.2⟩
  · cases r2
    cases r1 with
    | lst h1 h2 =>
      exact op_rep pins s σ H _ _ v u Q I rx ry ⟨_, _, _, rfl, rfl, fz_ex _ _ h1, by omega, by omega, sz_of (by rw [h2.length]; exact h.2.2.1), fun a ha => p.lay s0 ha (h2.rep _) h.2.2.2⟩
  · cases r2
    cases r1 with
    | tup h1 h2 =>
      exact op_repT pins s σ H _ _ v u Q I rx ry ⟨_, _, _, rfl, rfl, .inl (.inl (fz_ex _ _ h1)), fun e => h.1 (List.eq_nil_of_length_eq_zero (by rw [← h2.length, e]; rfl)), h.2.1, h.2.2.1, by rw [h2.length]; exact h.2.2.2.1, fun a ha => p.layT s0 ha (h2.rep _) h.2.2.2.2⟩
  · exact h.elim
theorem or_div : OpR X (binaryOp .FloorDiv) (rD2 G divF) := by
  intro pins s σ H x y v u Q I rx ry h
  obtain ⟨dx, dy, m, R, s0, r1, r2, h, p⟩ := h
  unfold divF at h
  split at h
  · cases r1; cases r2
    exact op_fdiv pins s σ H _ _ v u Q I rx ry ⟨_, _, rfl, rfl, h.1, p.here s0 (RV.dat (Rp.int _)) h.2⟩
  · exact h.elim
theorem or_mod : OpR X (binaryOp .Mod) (rD2 G modF) := by
  intro pins s σ H x y v u Q I rx ry h
  obtain ⟨dx, dy, m, R, s0, r1, r2, h, p⟩ := h
  unfold modF at h
  split at h
  · cases r1; cases r2
    exact op_mod pins s σ H _ _ v u Q I rx ry ⟨_, _, rfl, rfl, h.1, p.here s0 (RV.dat (Rp.int _)) h.2⟩
  · exact h.elim
theorem or_pow : OpR X (binaryOp .Pow) (rD2 G powF) := by
  intro pins s σ H x y v u Q I rx ry h
  obtain ⟨dx, dy, m, R, s0, r1, r2, h, p⟩ := h
  unfold powF at h
  split at h
  · cases r1; cases r2
    exact op_pow pins s σ H _ _ v u Q I rx ry ⟨_, _, rfl, rfl, h.1, p.here s0 (RV.dat (Rp.int _)) h.2⟩
  · exact h.elim
theorem or_lt (hu : X.A.units < cLine) : OpR X (compareOp .Lt) (rD2 G ltF) := by
  intro pins s σ H x y v u Q I rx ry h
  obtain ⟨dx, dy, m, R, s0, r1, r2, h, p⟩ := h
  unfold ltF at h
  split at h
  · cases r1; cases r2
    exact op_lt pins s σ H _ _ v u Q I rx ry ⟨_, _, rfl, rfl, p.here s0 (RV.dat (Rp.bl _)) h⟩
  · obtain ⟨ns, ms, rfl, rfl, h⟩ := h
    cases r1 with
    | tup h1 h2 =>
      cases r2 with
      | tup h3 h4 =>
        have e1 := h2.ints
        have e2 := h4.ints
        subst e1 e2
        exact op_ltT hu pins s σ H _ _ v u Q I rx ry ⟨_, _, ns, ms, rfl, rfl, SqT.of (fz_ex _ _ h1), SqT.of (fz_ex _ _ h3), p.here s0 (RV.dat (Rp.bl _)) h⟩
  · exact h.elim
theorem or_le : OpR X (compareOp .LtE) (rD2 G leF) := by
  intro pins s σ H x y v u Q I rx ry h
  obtain ⟨dx, dy, m, R, s0, r1, r2, h, p⟩ := h
  unfold leF at h
  split at h
  · cases r1; cases r2
    exact op_le pins s σ H _ _ v u Q I rx ry ⟨_, _, rfl, rfl, p.here s0 (RV.dat (Rp.bl _)) h⟩
  · exact h.elim
theorem or_gt : OpR X (compareOp .Gt) (rD2 G gtF) := by
  intro pins s σ H x y v u Q I rx ry h
  obtain ⟨dx, dy, m, R, s0, r1, r2, h, p⟩ := h
  unfold gtF at h
  split at h
  · cases r1; cases r2
    exact op_gt pins s σ H _ _ v u Q I rx ry ⟨_, _, rfl, rfl, p.here s0 (RV.dat (Rp.bl _)) h⟩
  · exact h.elim
theorem or_ge : OpR X (compareOp .GtE) (rD2 G geF) := by
  intro pins s σ H x y v u Q I rx ry h
  obtain ⟨dx, dy, m, R, s0, r1, r2, h, p⟩ := h
  unfold geF at h
  split at h
  · cases r1; cases r2
    exact op_ge pins s σ H _ _ v u Q I rx ry ⟨_, _, rfl, rfl, p.here s0 (RV.dat (Rp.bl _)) h⟩
  · exact h.elim
theorem eqF_out {dx dy : DV} {m : Mu} {R : DV → Mu → Prop} (h : eqF dx dy m R) : ∃ a b, vw m dx = some a ∧ vw m dy = some b ∧ Sh 63 a ∧ Sh 63 b ∧ R (.d (.bl (eqD a b))) m := by
  unfold eqF at h
  split at h
  · exact ⟨_, _, rfl, rfl, h⟩
  · exact h
theorem neF_out {dx dy : DV} {m : Mu} {R : DV → Mu → Prop} (h : neF dx dy m R) : ∃ a b, vw m dx = some a ∧ vw m dy = some b ∧ Sh 63 a ∧ Sh 63 b ∧ R (.d (.bl (!eqD a b))) m := by
  unfold neF at h
  split at h
  · exact ⟨_, _, rfl, rfl, h⟩
  · exact h
theorem or_eq (hu : X.A.units + 64 < cLine) : OpR X (compareOp .Eq) (rD2 G eqF) := by
  intro pins s σ H x y v u Q I rx ry h
  obtain ⟨dx, dy, m, R, s0, r1, r2, h, p⟩ := h
  obtain ⟨a, b, e1, e2, h1, h2, h⟩ := eqF_out h
  exact op_eqD hu pins s σ H x y v u Q I rx ry ⟨_, _, Rp.dp _ _ (vw_rp s0 r1 e1), Rp.dp _ _ (vw_rp s0 r2 e2), h1.shaped, h2.shaped, p.here s0 (RV.dat (Rp.bl _)) h⟩
theorem or_ne (hu : X.A.units + 64 < cLine) : OpR X (compareOp .NotEq) (rD2 G neF) := by
  intro pins s σ H x y v u Q I rx ry h
  obtain ⟨dx, dy, m, R, s0, r1, r2, h, p⟩ := h
  obtain ⟨a, b, e1, e2, h1, h2, h⟩ := neF_out h
  exact op_neD hu pins s σ H x y v u Q I rx ry ⟨_, _, Rp.dp _ _ (vw_rp s0 r1 e1), Rp.dp _ _ (vw_rp s0 r2 e2), h1.shaped, h2.shaped, p.here s0 (RV.dat (Rp.bl _)) h⟩
theorem isNon_of {F : Hp} {v : V} {d : DV} (r : RV G F v d) : decide (v = .non) = isNon d := by
  cases d with
  | d x => cases r <;> rfl
  | r a => cases r; rfl
  | scr ns => obtain ⟨a, rfl, _⟩ := r; rfl
theorem or_is : OpR X (compareOp .Is) (rD2 G isF) := by
  intro pins s σ H x y v u Q I rx ry h
  obtain ⟨dx, dy, m, R, s0, r1, r2, h, p⟩ := h
  unfold isF at h
  split at h
  · cases r2
    exact op_isN pins s σ H _ _ v u Q I rx ry ⟨rfl, by rw [isNon_of r1]; exact p.here s0 (RV.dat (Rp.bl _)) h⟩
  · exact h.elim
theorem or_isnot : OpR X (compareOp .IsNot) (rD2 G isnotF) := by
  intro pins s σ H x y v u Q I rx ry h
  obtain ⟨dx, dy, m, R, s0, r1, r2, h, p⟩ := h
  unfold isnotF at h
  split at h
  · cases r2
    exact op_notN pins s σ H _ _ v u Q I rx ry ⟨rfl, by rw [isNon_of r1]; exact p.here s0 (RV.dat (Rp.bl _)) h⟩
  · exact h.elim
theorem any_toPy (x : D) : ∀ ys : List D, ((toPys ys).any fun z => PyData.eqv z (toPy x)) = ys.any fun y => eqD y x
  | [] => rfl
  | y :: ys => by rw [toPys, List.any_cons, List.any_cons, any_toPy x ys]; rfl
theorem Sh.lst {ys : List D} (h : ∀ y ∈ ys, Sh 62 y) : Sh 63 (.lst ys) := by unfold Sh; exact h
theorem Sh.tup {ys : List D} (h : ∀ y ∈ ys, Sh 62 y) : Sh 63 (.tup ys) := by unfold Sh; exact h
theorem inL {hu : X.A.units + 65 < cLine} {pins : List (Addr × Obj)} {s : Shared} {σ : L2.St} {H : Hp} {x y : V} {v u : Value} {Q : VK} (I : Inv X pins σ H s) (rx : RelV x v) (ry : RelV y u) {a : D} {ys : List D} (r1 : Rp H x a) (r2 : Rp H y (.lst ys)) (h1 : Sh 63 a) (h2 : ∀ y ∈ ys, Sh 62 y) (q : Q (.bl (ys.any fun y => eqD y a)) H) : wpAny (model X.prog X.w) X.A (compareOp .In v u) (EP X pins σ Q) X.xe s :=
  op_inD hu pins s σ H x y v u Q I rx ry ⟨toPy a, toPys ys, Rp.dp _ _ r1, by have z := Rp.dp (K := X.K) _ _ r2; rw [toPy] at z; exact z, h1.shaped, by have z := (Sh.lst h2).shaped; rw [toPy] at z; exact z, by rw [any_toPy]; exact q⟩
theorem notinL {hu : X.A.units + 65 < cLine} {pins : List (Addr × Obj)} {s : Shared} {σ : L2.St} {H : Hp} {x y : V} {v u : Value} {Q : VK} (I : Inv X pins σ H s) (rx : RelV x v) (ry : RelV y u) {a : D} {ys : List D} (r1 : Rp H x a) (r2 : Rp H y (.lst ys)) (h1 : Sh 63 a) (h2 : ∀ y ∈ ys, Sh 62 y) (q : Q (.bl (!ys.any fun y => eqD y a)) H) : wpAny (model X.prog X.w) X.A (compareOp .NotIn v u) (EP X pins σ Q) X.xe s :=
  op_notInD hu pins s σ H x y v u Q I rx ry ⟨toPy a, toPys ys, Rp.dp _ _ r1, by have z := Rp.dp (K := X.K) _ _ r2; rw [toPy] at z; exact z, h1.shaped, by have z := (Sh.lst h2).shaped; rw [toPy] at z; exact z, by rw [any_toPy]; exact q⟩
theorem or_in (hu : X.A.units + 65 < cLine) : OpR X (compareOp .In) (rD2 G inF) := by
  intro pins s σ H x y v u Q I rx ry h
  obtain ⟨dx, dy, m, R, s0, r1, r2, h, p⟩ := h
  unfold inF at h
  split at h
  · exact inL (hu := hu) I rx ry (vw_rp s0 r1 rfl) (vw_rp s0 r2 rfl) h.1 h.2.1 (p.here s0 (RV.dat (Rp.bl _)) h.2.2)
  · obtain ⟨as, q1⟩ := Dp.reads I _ x v (Rp.dp (K := X.K) _ _ (vw_rp s0 r1 rfl)) rx
    have z := Rp.dp (K := X.K) _ _ (vw_rp s0 r2 rfl)
    obtain ⟨bs, q2⟩ := Dp.reads I _ y u z ry
    rw [toPy] at q2
    have sh := (Sh.tup h.2.1).shaped
    rw [toPy] at sh
    refine SeqAt.in_tuple_reads q2 q1 (SeqAt.canLay_of_shaped sh) (SeqAt.canLay_of_shaped h.1.shaped) (PyProof.Rows.room_in_shaped h.1.shaped hu) ⟨.bl _, H, I, rfl, ?_⟩
    rw [any_toPy]
    exact p.here s0 (RV.dat (Rp.bl _)) h.2.2
  · cases r1; cases r2
    exact op_in_str pins s σ H _ _ v u Q I rx ry ⟨_, _, rfl, rfl, p.here s0 (RV.dat (Rp.bl _)) h⟩
  · obtain ⟨ys, e, h1, h2, h⟩ := h
    exact inL (hu := hu) I rx ry (vw_rp s0 r1 rfl) (vw_rp s0 r2 (vw_r e)) h1 h2 (p.here s0 (RV.dat (Rp.bl _)) h)
  · exact h.elim
theorem or_notin (hu : X.A.units + 65 < cLine) : OpR X (compareOp .NotIn) (rD2 G notinF) := by
  intro pins s σ H x y v u Q I rx ry h
  obtain ⟨dx, dy, m, R, s0, r1, r2, h, p⟩ := h
  unfold notinF at h
  split at h
  · exact notinL (hu := hu) I rx ry (vw_rp s0 r1 rfl) (vw_rp s0 r2 rfl) h.1 h.2.1 (p.here s0 (RV.dat (Rp.bl _)) h.2.2)
  · obtain ⟨as, q1⟩ := Dp.reads I _ x v (Rp.dp (K := X.K) _ _ (vw_rp s0 r1 rfl)) rx
    have z := Rp.dp (K := X.K) _ _ (vw_rp s0 r2 rfl)
    obtain ⟨bs, q2⟩ := Dp.reads I _ y u z ry
    rw [toPy] at q2
    have sh := (Sh.tup h.2.1).shaped
    rw [toPy] at sh
    refine SeqAt.notIn_tuple_reads q2 q1 (SeqAt.canLay_of_shaped sh) (SeqAt.canLay_of_shaped h.1.shaped) (PyProof.Rows.room_in_shaped h.1.shaped hu) ⟨.bl _, H, I, rfl, ?_⟩
    rw [any_toPy]
    exact p.here s0 (RV.dat (Rp.bl _)) h.2.2
  · cases r1; cases r2
    exact op_notin_str pins s σ H _ _ v u Q I rx ry ⟨_, _, rfl, rfl, p.here s0 (RV.dat (Rp.bl _)) h⟩
  · obtain ⟨ys, e, h1, h2, h⟩ := h
    exact notinL (hu := hu) I rx ry (vw_rp s0 r1 rfl) (vw_rp s0 r2 (vw_r e)) h1 h2 (p.here s0 (RV.dat (Rp.bl _)) h)
  · exact h.elim
theorem ur_neg : UnR X (unaryOp .USub) (rD1 G negF) := by
  intro pins s σ H x v Q I rx h
  obtain ⟨dx, m, R, s0, r1, h, p⟩ := h
  unfold negF at h
  split at h
  · cases r1
    exact un_neg pins s σ H _ v Q I rx ⟨_, rfl, p.here s0 (RV.dat (Rp.int _)) h⟩
  · exact h.elim
end
end Lb

/-! Lb2: built-ins, subscripts, slices, methods, tests by data. -/
namespace Lb
open PySem L2

/-! ### calls of built-ins -/
def lenF : FN
  | [.d (.lst xs)], m, R => R (.d (.int xs.length)) m
  | [.d (.tup xs)], m, R => R (.d (.int xs.length)) m
  | [.d (.str s)], m, R => s.length ≤ 100000 ∧ R (.d (.int s.length)) m
  | [.r a], m, R => ∃ xs, m a = some (.lst xs) ∧ R (.d (.int xs.length)) m
  | [.scr ns], m, R => R (.d (.int ns.length)) m
  | _, _, _ => False
def absF : FN
  | [.d (.int i)], m, R => R (.d (.int (if i < 0 then -i else i))) m
  | _, _, _ => False
def sumF : FN
  | [.d (.lst xs)], m, R => ∃ ns : List Int, xs = ns.map D.int ∧ R (.d (.int ns.sum)) m
  | [.d (.tup xs)], m, R => ∃ ns : List Int, xs = ns.map D.int ∧ R (.d (.int ns.sum)) m
  | _, _, _ => False
def minF : FN
  | [.d (.int i), .d (.int j)], m, R => R (.d (.int (if j < i then j else i))) m
  | [.d (.lst xs)], m, R => ∃ ns : List Int, xs = ns.map D.int ∧ 0 < ns.length ∧ ∀ k, k ∈ ns → (∀ y, y ∈ ns → k ≤ y) → R (.d (.int k)) m
  | [.r a], m, R => ∃ ns : List Int, m a = some (.lst (ns.map D.int)) ∧ 0 < ns.length ∧ ∀ k, k ∈ ns → (∀ y, y ∈ ns → k ≤ y) → R (.d (.int k)) m
  | _, _, _ => False
def maxF : FN
  | [.d (.int i), .d (.int j)], m, R => R (.d (.int (if j > i then j else i))) m
  | [.d (.lst xs)], m, R => ∃ ns : List Int, xs = ns.map D.int ∧ 0 < ns.length ∧ ∀ k, k ∈ ns → (∀ y, y ∈ ns → y ≤ k) → R (.d (.int k)) m
  | _, _, _ => False
def allF : FN
  | [.d (.lst xs)], m, R => ∃ bs : List Bool, xs = bs.map D.bl ∧ R (.d (.bl (bs.all id))) m
  | _, _, _ => False
def anyF : FN
  | [.d (.lst xs)], m, R => ∃ bs : List Bool, xs = bs.map D.bl ∧ R (.d (.bl (bs.any id))) m
  | _, _, _ => False
def listF : FN
  | [.d (.lst xs)], m, R => R (.d (.lst xs)) m
  | [.d (.tup xs)], m, R => R (.d (.lst xs)) m
  | [.r a], m, R => ∃ xs, m a = some (.lst xs) ∧ R (.d (.lst xs)) m
  | _, _, _ => False
def tupleF : FN
  | [.d (.lst xs)], m, R => R (.d (.tup xs)) m
  | [.d (.tup xs)], m, R => R (.d (.tup xs)) m
  | [.r a], m, R => ∃ xs, m a = some (.lst xs) ∧ R (.d (.tup xs)) m
  | _, _, _ => False
def intF : FN
  | [.d (.int i)], m, R => R (.d (.int i)) m
  | [.d (.bl b)], m, R => R (.d (.int (if b then 1 else 0))) m
  | _, _, _ => False
section
variable {X : Cx} {G : Ctx}
theorem sqL_of {H : Hp} {a : Addr} {xs : List D} (h : Rp H (.ref a) (.lst xs)) : ∃ vs, H a = some (.lst vs) ∧ RpL H vs xs := by
  cases h with
  | lst h1 h2 => exact ⟨_, h1, h2⟩
theorem cr_len (hK : X.K = G.K) : CallR X (.builtin "len") (rDn G lenF) := by
  intro pins s σ H xs us Q I r h
  obtain ⟨dx, m, R, s0, r1, h, p⟩ := h
  unfold lenF at h
  split at h
  · cases r1 with
    | cons q1 q2 =>
      cases q2
      cases q1 with
      | lst h1 h2 => exact call_len_seq pins s σ H _ us Q I r ⟨_, _, rfl, .inl (SqL.of (fz_ex _ _ h1)), p.here s0 (RV.dat (by rw [h2.length]; exact Rp.int _)) h⟩
  · cases r1 with
    | cons q1 q2 =>
      cases q2
      cases q1 with
      | tup h1 h2 => exact call_len_seq pins s σ H _ us Q I r ⟨_, _, rfl, .inr (SqT.of (fz_ex _ _ h1)), p.here s0 (RV.dat (by rw [h2.length]; exact Rp.int _)) h⟩
  · cases r1 with
    | cons q1 q2 =>
      cases q2
      cases q1
      exact call_len_str pins s σ H _ us Q I r ⟨_, rfl, sz_of h.1, p.here s0 (RV.dat (Rp.int _)) h.2⟩
  · obtain ⟨xs, e, h⟩ := h
    cases r1 with
    | cons q1 q2 =>
      cases q2
      cases q1
      obtain ⟨vs, h1, h2⟩ := s0 _ _ e
      exact call_len_seq pins s σ H _ us Q I r ⟨_, _, rfl, .inl (SqL.of h1), p.here s0 (RV.dat (by rw [h2.length]; exact Rp.int _)) h⟩
  · cases r1 with
    | cons q1 q2 =>
      cases q2
      obtain ⟨a, rfl, h1⟩ := q1
      have h2 := Same.seq (show Same (fz H m) H from fz_ex) h1
      rw [← hK] at h2
      refine call_len_seq pins s σ H _ us Q I r ⟨_, _, rfl, .inl h2, p.here s0 (RV.dat ?_) h⟩
      rw [List.length_map]; exact Rp.int _
  · exact h.elim
theorem cr_abs : CallR X (.builtin "abs") (rDn G absF) := by
  intro pins s σ H xs us Q I r h
  obtain ⟨dx, m, R, s0, r1, h, p⟩ := h
  unfold absF at h
  split at h
  · cases r1 with
    | cons q1 q2 =>
      cases q2
      cases q1
      exact call_abs pins s σ H _ us Q I r ⟨_, rfl, p.here s0 (RV.dat (Rp.int _)) h⟩
  · exact h.elim
theorem cr_sumTup (hc : X.calm = true) : CallR X (.builtin "sum") (fun xs H Q => ∃ (a : Addr) (ns : List Int), xs = [V.ref a] ∧ SqT X.K H a (ns.map V.int) ∧ Q (.int ns.sum) H) := by
  intro pins s σ H xs us Q I r h
  obtain ⟨a, ns, rfl, hs, q⟩ := h
  rw [Vals.ref1 r]
  obtain ⟨its, rv, ht, hz⟩ := I.tuple hs
  have hi := Vals.ints rv
  obtain ⟨zs, e⟩ := hi.allInts.items
  have hn : PySem.numsOf (PySem.intItems zs).toList = ns := by rw [← e]; exact hi.numsOf
  rw [PySem.nums_intItems] at hn
  have ht2 : s.heap.IsTuple a its.toArray := ht
  rw [e] at ht2
  refine PySem.W.ktm_sumG (I.ok.hd hc) ht2 fun h' tk t' hk => ?_
  rw [PySem.preSum_eq, List.take_of_length_le (by simp), hn]
  exact ⟨.int ns.sum, H, I.kept hk, ⟨_, rfl⟩, q⟩
theorem cr_sumD (hc : X.calm = true) : CallR X (.builtin "sum") (rDn G sumF) := by
  intro pins s σ H xs us Q I r h
  obtain ⟨dx, m, R, s0, r1, h, p⟩ := h
  unfold sumF at h
  split at h
  · obtain ⟨ns, rfl, h⟩ := h
    cases r1 with
    | cons q1 q2 =>
      cases q2
      cases q1 with
      | lst h1 h2 =>
        have e := h2.ints
        subst e
        exact cr_sum hc pins s σ H _ us Q I r ⟨_, ns, rfl, SqL.of (fz_ex _ _ h1), p.here s0 (RV.dat (Rp.int _)) h⟩
  · obtain ⟨ns, rfl, h⟩ := h
    cases r1 with
    | cons q1 q2 =>
      cases q2
      cases q1 with
      | tup h1 h2 =>
        have e := h2.ints
        subst e
        exact cr_sumTup hc pins s σ H _ us Q I r ⟨_, ns, rfl, SqT.of (fz_ex _ _ h1), p.here s0 (RV.dat (Rp.int _)) h⟩
  · exact h.elim
theorem cr_minD (hc : X.calm = true) : CallR X (.builtin "min") (rDn G minF) := by
  intro pins s σ H xs us Q I r h
  obtain ⟨dx, m, R, s0, r1, h, p⟩ := h
  unfold minF at h
  split at h
  · cases r1 with
    | cons q1 q2 =>
      cases q2 with
      | cons q2 q3 =>
        cases q3
        cases q1
        cases q2
        exact call_min2 hc pins s σ H _ us Q I r ⟨_, _, rfl, p.here s0 (RV.dat (Rp.int _)) h⟩
  · obtain ⟨ns, rfl, hl, h⟩ := h
    cases r1 with
    | cons q1 q2 =>
      cases q2
      cases q1 with
      | lst h1 h2 =>
        have e := h2.ints
        subst e
        exact cr_min hc pins s σ H _ us Q I r ⟨_, ns, rfl, SqL.of (fz_ex _ _ h1), hl, fun k hk hy => p.here s0 (RV.dat (Rp.int _)) (h k hk hy)⟩
  · obtain ⟨ns, e, hl, h⟩ := h
    cases r1 with
    | cons q1 q2 =>
      cases q2
      cases q1
      obtain ⟨vs, h1, h2⟩ := s0 _ _ e
      have e := h2.ints
      subst e
      exact cr_min hc pins s σ H _ us Q I r ⟨_, ns, rfl, SqL.of h1, hl, fun k hk hy => p.here s0 (RV.dat (Rp.int _)) (h k hk hy)⟩
  · exact h.elim
theorem cr_maxD (hc : X.calm = true) : CallR X (.builtin "max") (rDn G maxF) := by
  intro pins s σ H xs us Q I r h
  obtain ⟨dx, m, R, s0, r1, h, p⟩ := h
  unfold maxF at h
  split at h
  · cases r1 with
    | cons q1 q2 =>
      cases q2 with
      | cons q2 q3 =>
        cases q3
        cases q1
        cases q2
        exact call_max2 hc pins s σ H _ us Q I r ⟨_, _, rfl, p.here s0 (RV.dat (Rp.int _)) h⟩
  · obtain ⟨ns, rfl, hl, h⟩ := h
    cases r1 with
    | cons q1 q2 =>
      cases q2
      cases q1 with
      | lst h1 h2 =>
        have e := h2.ints
        subst e
        exact cr_max hc pins s σ H _ us Q I r ⟨_, ns, rfl, SqL.of (fz_ex _ _ h1), hl, fun k hk hy => p.here s0 (RV.dat (Rp.int _)) (h k hk hy)⟩
  · exact h.elim
theorem cr_allD (hc : X.calm = true) : CallR X (.builtin "all") (rDn G allF) := by
  intro pins s σ H xs us Q I r h
  obtain ⟨dx, m, R, s0, r1, h, p⟩ := h
  unfold allF at h
  split at h
  · obtain ⟨ns, rfl, h⟩ := h
    cases r1 with
    | cons q1 q2 =>
      cases q2
      cases q1 with
      | lst h1 h2 =>
        have e := h2.bls
        subst e
        exact cr_all hc pins s σ H _ us Q I r ⟨_, ns, rfl, SqL.of (fz_ex _ _ h1), p.here s0 (RV.dat (Rp.bl _)) h⟩
  · exact h.elim
theorem cr_anyD (hc : X.calm = true) : CallR X (.builtin "any") (rDn G anyF) := by
  intro pins s σ H xs us Q I r h
  obtain ⟨dx, m, R, s0, r1, h, p⟩ := h
  unfold anyF at h
  split at h
  · obtain ⟨ns, rfl, h⟩ := h
    cases r1 with
    | cons q1 q2 =>
      cases q2
      cases q1 with
      | lst h1 h2 =>
        have e := h2.bls
        subst e
        exact cr_any hc pins s σ H _ us Q I r ⟨_, ns, rfl, SqL.of (fz_ex _ _ h1), p.here s0 (RV.dat (Rp.bl _)) h⟩
  · exact h.elim
theorem cr_listD : CallR X (.type "list") (rDn G listF) := by
  intro pins s σ H xs us Q I r h
  obtain ⟨dx, m, R, s0, r1, h, p⟩ := h
  unfold listF at h
  split at h
  · cases r1 with
    | cons q1 q2 =>
      cases q2
      cases q1 with
      | lst h1 h2 => exact call_list_of pins s σ H _ us Q I r ⟨_, _, rfl, .inl (SqL.of (fz_ex _ _ h1)), fun l hl => p.lay s0 hl h2 h⟩
  · cases r1 with
    | cons q1 q2 =>
      cases q2
      cases q1 with
      | tup h1 h2 => exact call_list_of pins s σ H _ us Q I r ⟨_, _, rfl, .inr (SqT.of (fz_ex _ _ h1)), fun l hl => p.lay s0 hl h2 h⟩
  · obtain ⟨xs, e, h⟩ := h
    cases r1 with
    | cons q1 q2 =>
      cases q2
      cases q1
      obtain ⟨vs, h1, h2⟩ := s0 _ _ e
      exact call_list_of pins s σ H _ us Q I r ⟨_, _, rfl, .inl (SqL.of h1), fun l hl => p.lay s0 hl h2 h⟩
  · exact h.elim
theorem cr_tupleD : CallR X (.type "tuple") (rDn G tupleF) := by
  intro pins s σ H xs us Q I r h
  obtain ⟨dx, m, R, s0, r1, h, p⟩ := h
  unfold tupleF at h
  split at h
  · cases r1 with
    | cons q1 q2 =>
      cases q2
      cases q1 with
      | lst h1 h2 => exact call_tuple_of pins s σ H _ us Q I r ⟨_, _, rfl, .inl ⟨SqL.of (fz_ex _ _ h1), fun l hl => p.layT s0 hl h2 h⟩⟩
  · cases r1 with
    | cons q1 q2 =>
      cases q2
      cases q1 with
      | tup h1 h2 => exact call_tuple_of pins s σ H _ us Q I r ⟨_, _, rfl, .inr ⟨SqT.of (fz_ex _ _ h1), p.here s0 (RV.dat (Rp.tup h1 h2)) h⟩⟩
  · obtain ⟨xs, e, h⟩ := h
    cases r1 with
    | cons q1 q2 =>
      cases q2
      cases q1
      obtain ⟨vs, h1, h2⟩ := s0 _ _ e
      exact call_tuple_of pins s σ H _ us Q I r ⟨_, _, rfl, .inl ⟨SqL.of h1, fun l hl => p.layT s0 hl h2 h⟩⟩
  · exact h.elim
theorem cr_intD : CallR X (.type "int") (rDn G intF) := by
  intro pins s σ H xs us Q I r h
  obtain ⟨dx, m, R, s0, r1, h, p⟩ := h
  unfold intF at h
  split at h
  · cases r1 with
    | cons q1 q2 =>
      cases q2
      cases q1
      exact call_int1 pins s σ H _ us Q I r (.inl ⟨_, rfl, p.here s0 (RV.dat (Rp.int _)) h⟩)
  · cases r1 with
    | cons q1 q2 =>
      cases q2
      cases q1
      exact call_int1 pins s σ H _ us Q I r (.inr ⟨_, rfl, p.here s0 (RV.dat (Rp.int _)) h⟩)
  · exact h.elim
end

/-! ### subscripts -/
def idxF : F2
  | .d (.lst xs), .d (.int i), m, R => ∃ x, atI xs i = some x ∧ R (.d x) m
  | .d (.tup xs), .d (.int i), m, R => ∃ x, atI xs i = some x ∧ R (.d x) m
  | .d (.str s), .d (.int i), m, R => s.length ≤ 100000 ∧ ∃ c, atI s.cps.toList i = some c ∧ R (.d (.str ⟨#[c]⟩)) m
  | .r a, .d (.int i), m, R => ∃ xs, m a = some (.lst xs) ∧ ∃ x, atI xs i = some x ∧ R (.d x) m
  | .scr ns, .d (.int i), m, R => ∃ n, atI ns i = some n ∧ R (.d (.int n)) m
  | _, _, _, _ => False
theorem atI_map {α β : Type} {f : α → β} {xs : List α} {i : Int} {x : α} (h : atI xs i = some x) : atI (xs.map f) i = some (f x) := by
  unfold atI at h ⊢
  rw [List.length_map]
  cases e : ixN xs.length i with
  | none => rw [e] at h; cases h
  | some j =>
    rw [e] at h
    have h : xs[j]? = some x := h
    show (xs.map f)[j]? = some (f x)
    rw [List.getElem?_map, h]
    rfl
section
variable {X : Cx} {G : Ctx}
theorem ix_D (hK : X.K = G.K) : IxR X (rD2 G idxF) := by
  intro ve se pins s σ H x y v u Q I rx ry h hsub
  obtain ⟨dx, dy, m, R, s0, r1, r2, h, p⟩ := h
  unfold idxF at h
  split at h
  · obtain ⟨x, e, h⟩ := h
    cases r2
    cases r1 with
    | lst h1 h2 =>
      obtain ⟨z, e2, rz⟩ := atI_rp h2 e
      exact ix_list ve se pins s σ H _ _ v u Q I rx ry ⟨_, _, _, z, rfl, rfl, SqL.of (fz_ex _ _ h1), e2, p.here s0 (RV.dat rz) h⟩ hsub
  · obtain ⟨x, e, h⟩ := h
    cases r2
    cases r1 with
    | tup h1 h2 =>
      obtain ⟨z, e2, rz⟩ := atI_rp h2 e
      exact ix_tup ve se pins s σ H _ _ v u Q I rx ry ⟨_, _, _, z, rfl, rfl, SqT.of (fz_ex _ _ h1), e2, p.here s0 (RV.dat rz) h⟩ hsub
  · obtain ⟨hz, c, e, h⟩ := h
    cases r1; cases r2
    exact ix_str ve se pins s σ H _ _ v u Q I rx ry ⟨_, _, c, rfl, rfl, sz_of hz, e, p.here s0 (RV.dat (Rp.str _)) h⟩ hsub
  · obtain ⟨xs, em, x, e, h⟩ := h
    cases r2
    cases r1
    obtain ⟨vs, h1, h2⟩ := s0 _ _ em
    obtain ⟨z, e2, rz⟩ := atI_rp h2 e
    exact ix_list ve se pins s σ H _ _ v u Q I rx ry ⟨_, _, _, z, rfl, rfl, SqL.of h1, e2, p.here s0 (RV.dat rz) h⟩ hsub
  · obtain ⟨n, e, h⟩ := h
    cases r2
    obtain ⟨a, rfl, h1⟩ := r1
    have h2 := Same.seq (show Same (fz H m) H from fz_ex) h1
    rw [← hK] at h2
    exact ix_list ve se pins s σ H _ _ v u Q I rx ry ⟨_, _, _, _, rfl, rfl, h2, atI_map e, p.here s0 (RV.dat (Rp.int _)) h⟩ hsub
  · exact h.elim
end

/-! ### slices -/
def cut {α : Type} (xs : List α) (lo hi : Option Int) : List α := (xs.drop (HT.sIx xs.length 0 lo)).take (HT.sIx xs.length xs.length hi - HT.sIx xs.length 0 lo)
abbrev FS := DV → Option Int → Option Int → Mu → (DV → Mu → Prop) → Prop
def sliceF : FS
  | .d (.lst xs), lo, hi, m, R => R (.d (.lst (cut xs lo hi))) m
  | .d (.tup xs), lo, hi, m, R => R (.d (.tup (cut xs lo hi))) m
  | .r a, lo, hi, m, R => ∃ xs, m a = some (.lst xs) ∧ R (.d (.lst (cut xs lo hi))) m
  | .d (.str s), lo, hi, m, R => s.length ≤ 100000 ∧ R (.d (.str (cutS s lo hi))) m
  | _, _, _, _, _ => False
def rDS (G : Ctx) (f : FS) : V → Option Int → Option Int → Hp → VK → Prop := fun x lo hi H Q => ∃ dx m R, S0 G H m ∧ RV G (fz H m) x dx ∧ f dx lo hi m R ∧ Post G H m R Q
theorem cut_rp {F : Hp} {vs : List V} {xs : List D} {lo hi : Option Int} (r : RpL F vs xs) : RpL F (cutV vs lo hi) (cut xs lo hi) := by
  unfold cutV cut
  rw [r.length]
  exact (r.drop _).take _
theorem cut_whole {α : Type} {xs : List α} {lo hi : Option Int} (h : HT.sIx xs.length 0 lo = 0 ∧ HT.sIx xs.length xs.length hi = xs.length) : cut xs lo hi = xs := by
  unfold cut
  rw [h.1, h.2, List.drop_zero, Nat.sub_zero, List.take_length]
section
variable {X : Cx} {G : Ctx}
theorem sl_D : SlR X (rDS G sliceF) := by
  intro pins s σ H x v vl vu lo hi sl Q I rx hs pl pu h
  obtain ⟨dx, m, R, s0, r1, h, p⟩ := h
  unfold sliceF at h
  split at h
  · cases r1 with
    | lst h1 h2 => exact sl_list pins s σ H _ v vl vu _ _ sl Q I rx hs pl pu ⟨_, _, rfl, SqL.of (fz_ex _ _ h1), fun a ha => p.lay s0 ha (cut_rp h2) h⟩
  · cases r1 with
    | tup h1 h2 =>
      refine sl_tupA pins s σ H _ v vl vu _ _ sl Q I rx hs pl pu ⟨_, _, rfl, SqT.of (fz_ex _ _ h1), fun e => ?_, fun _ a ha => p.layT s0 ha (cut_rp h2) h⟩
      rw [h2.length] at e
      rw [cut_whole e] at h
      exact p.here s0 (RV.dat (Rp.tup h1 h2)) h
  · obtain ⟨xs, em, h⟩ := h
    cases r1
    obtain ⟨vs, h1, h2⟩ := s0 _ _ em
    exact sl_list pins s σ H _ v vl vu _ _ sl Q I rx hs pl pu ⟨_, _, rfl, SqL.of h1, fun a ha => p.lay s0 ha (cut_rp h2) h⟩
  · cases r1
    exact sl_str pins s σ H _ v vl vu _ _ sl Q I rx hs pl pu ⟨_, rfl, sz_of h.1, p.here s0 (RV.dat (Rp.str _)) h.2⟩
  · exact h.elim
end
section
variable {G : Ctx} {W : WX} {ds : DS} {m : Mu} {R : DV → Mu → Prop} {XR : Tag → Mu → Prop} {te tl th : TE}
/-- e[a:b], e[a:], e[:b], e[:] -/
theorem ev_sl2 {f : FS} (h : EvD G W te ds m (fun x m1 => EvD G W tl ds m1 (fun a m2 => ∃ i, a = .d (.int i) ∧ EvD G W th ds m2 (fun b m3 => ∃ j, b = .d (.int j) ∧ f x (some i) (some j) m3 R) XR) XR) XR) : EvD G W (tSl (rDS G f) te (tPart tl) (tPart th)) ds m R XR := fun σ H Q s r p x =>
  h σ H _ s r (fun v H1 d m1 t1 s1 r1 q1 => q1 σ H1 _ s1 (r.mono t1) (fun u H2 e m2 t2 s2 r2 ⟨i, ei, q2⟩ => by
    subst ei
    cases r2
    exact ⟨i, rfl, q2 σ H2 _ s2 (r.mono (t1.trans t2)) (fun w H3 e3 m3 t3 s3 r3 ⟨j, ej, q3⟩ => by
      subst ej
      cases r3
      exact ⟨j, rfl, d, m3, R, s3, (r1.mono t2).mono t3, q3, p.tr ((t1.trans t2).trans t3)⟩) (x.tr (t1.trans t2))⟩) (x.tr t1)) x
theorem ev_slA {f : FS} (h : EvD G W te ds m (fun x m1 => EvD G W tl ds m1 (fun a m2 => ∃ i, a = .d (.int i) ∧ f x (some i) none m2 R) XR) XR) : EvD G W (tSl (rDS G f) te (tPart tl) tNoPart) ds m R XR := fun σ H Q s r p x =>
  h σ H _ s r (fun v H1 d m1 t1 s1 r1 q1 => q1 σ H1 _ s1 (r.mono t1) (fun u H2 e m2 t2 s2 r2 ⟨i, ei, q2⟩ => by
    subst ei
    cases r2
    exact ⟨i, rfl, d, m2, R, s2, r1.mono t2, q2, p.tr (t1.trans t2)⟩) (x.tr t1)) x
theorem ev_slB {f : FS} (h : EvD G W te ds m (fun x m1 => EvD G W th ds m1 (fun a m2 => ∃ i, a = .d (.int i) ∧ f x none (some i) m2 R) XR) XR) : EvD G W (tSl (rDS G f) te tNoPart (tPart th)) ds m R XR := fun σ H Q s r p x =>
  h σ H _ s r (fun v H1 d m1 t1 s1 r1 q1 => q1 σ H1 _ s1 (r.mono t1) (fun u H2 e m2 t2 s2 r2 ⟨i, ei, q2⟩ => by
    subst ei
    cases r2
    exact ⟨i, rfl, d, m2, R, s2, r1.mono t2, q2, p.tr (t1.trans t2)⟩) (x.tr t1)) x
end

/-! ### truth -/
def truF : DV → Mu → (Bool → Mu → Prop) → Prop
  | .d .non, m, R => R false m
  | .d (.bl b), m, R => R b m
  | .d (.int i), m, R => R (i != 0) m
  | .d (.str s), m, R => s.length ≤ 100000 ∧ R ((s.length : Int) != 0) m
  | .d (.lst xs), m, R => R (!xs.isEmpty) m
  | .d (.tup xs), m, R => R (!xs.isEmpty) m
  | .r a, m, R => ∃ xs, m a = some (.lst xs) ∧ R (!xs.isEmpty) m
  | .scr ns, m, R => R (!ns.isEmpty) m
def tTru (K : PySem.W.Frag) (te : TE) : TT := fun σ H Q => te σ H fun x H' => ∃ k, TruV K x H' k ∧ Q k H'
theorem RpL.isEmpty {F : Hp} {vs : List V} {xs : List D} (r : RpL F vs xs) : vs.isEmpty = xs.isEmpty := by cases r <;> rfl
theorem et_tru {G : Ctx} {W : WX} {ds : DS} {m : Mu} {R : Bool → Mu → Prop} {XR : Tag → Mu → Prop} {te : TE} (h : EvD G W te ds m (fun d m1 => truF d m1 R) XR) : EvT G W (tTru G.K te) ds m R XR := fun σ H Q s r p x =>
  h σ H _ s r (fun v H1 d m1 t1 s1 r1 q1 => by
    have q1 : truF d m1 R := q1
    unfold truF at q1
    split at q1
    · cases r1; exact ⟨_, rfl, p _ _ _ t1 s1 q1⟩
    · cases r1; exact ⟨_, rfl, p _ _ _ t1 s1 q1⟩
    · cases r1; exact ⟨_, rfl, p _ _ _ t1 s1 q1⟩
    · cases r1; exact ⟨_, ⟨sz_of q1.1, rfl⟩, p _ _ _ t1 s1 q1.2⟩
    · cases r1 with
      | lst h1 h2 => exact ⟨_, .inl ⟨_, SqL.of (fz_ex _ _ h1), rfl⟩, by rw [h2.isEmpty]; exact p _ _ _ t1 s1 q1⟩
    · cases r1 with
      | tup h1 h2 => exact ⟨_, .inr (.inl ⟨_, SqT.of (fz_ex _ _ h1), rfl⟩), by rw [h2.isEmpty]; exact p _ _ _ t1 s1 q1⟩
    · obtain ⟨xs, e, q1⟩ := q1
      cases r1
      obtain ⟨vs, h1, h2⟩ := s1 _ _ e
      exact ⟨_, .inl ⟨_, SqL.of h1, rfl⟩, by rw [h2.isEmpty]; exact p _ _ _ t1 s1 q1⟩
    · obtain ⟨a, rfl, h1⟩ := r1
      refine ⟨_, .inl ⟨_, Same.seq (show Same (fz H1 _) H1 from fz_ex) h1, rfl⟩, ?_⟩
      rw [List.isEmpty_map]
      exact p _ _ _ t1 s1 q1) x

/-! ### chains of comparisons -/
def tChain3 (r r' r'' : R2) (ta tb tc td : TE) : TE := fun σ H Q => ta σ H fun x H1 => tb σ H1 fun y H2 => r x y H2 fun z H3 => ∃ k, z = .bl k ∧
  (if k = true then tc σ H3 fun w' H4 => r' y w' H4 (fun z H5 => ∃ k, z = .bl k ∧ (if k = true then td σ H5 fun w2 H6 => r'' w' w2 H6 Q else Q (.bl false) H5)) else Q (.bl false) H3)
section
variable {G : Ctx} {W : WX} {ds : DS} {m : Mu} {R : DV → Mu → Prop} {XR : Tag → Mu → Prop} {ta tb tc td : TE}
theorem ev_chain {f f' : F2} (h : EvD G W ta ds m (fun x m1 => EvD G W tb ds m1 (fun y m2 => f x y m2 (fun z m3 => ∃ k, z = .d (.bl k) ∧ if k = true then EvD G W tc ds m3 (fun w m4 => f' y w m4 R) XR else R (.d (.bl false)) m3)) XR) XR) :
    EvD G W (tChain (rD2 G f) (rD2 G f') ta tb tc) ds m R XR := fun σ H Q s r p x =>
  h σ H _ s r (fun v H1 d m1 t1 s1 r1 q1 => q1 σ H1 _ s1 (r.mono t1) (fun u H2 e m2 t2 s2 r2 q2 => ⟨d, e, m2, _, s2, r1.mono t2, r2, q2, fun z H3 dz m3 t3 s3 r3 ⟨k, ek, q3⟩ => by
    subst ek
    cases r3
    refine ⟨k, rfl, ?_⟩
    cases k with
    | true =>
      rw [if_pos rfl] at q3 ⊢
      exact q3 σ H3 _ s3 (r.mono ((t1.trans t2).trans t3)) (fun w H4 dw m4 t4 s4 r4 q4 => ⟨e, dw, m4, R, s4, (r2.mono t3).mono t4, r4, q4, p.tr (((t1.trans t2).trans t3).trans t4)⟩) (x.tr ((t1.trans t2).trans t3))
    | false =>
      rw [if_neg Bool.false_ne_true] at q3 ⊢
      exact p _ H3 _ m3 ((t1.trans t2).trans t3) s3 (RV.dat (Rp.bl _)) q3⟩) (x.tr t1)) x
theorem ev_chain3 {f f' f'' : F2} (h : EvD G W ta ds m (fun x m1 => EvD G W tb ds m1 (fun y m2 => f x y m2 (fun z m3 => ∃ k, z = .d (.bl k) ∧ if k = true then EvD G W tc ds m3 (fun w m4 => f' y w m4 (fun z m5 => ∃ k, z = .d (.bl k) ∧ if k = true then EvD G W td ds m5 (fun w2 m6 => f'' w w2 m6 R) XR else R (.d (.bl false)) m5)) XR else R (.d (.bl false)) m3)) XR) XR) :
    EvD G W (tChain3 (rD2 G f) (rD2 G f') (rD2 G f'') ta tb tc td) ds m R XR := fun σ H Q s r p x =>
  h σ H _ s r (fun v H1 d m1 t1 s1 r1 q1 => q1 σ H1 _ s1 (r.mono t1) (fun u H2 e m2 t2 s2 r2 q2 => ⟨d, e, m2, _, s2, r1.mono t2, r2, q2, fun z H3 dz m3 t3 s3 r3 ⟨k, ek, q3⟩ => by
    subst ek
    cases r3
    refine ⟨k, rfl, ?_⟩
    have t13 := (t1.trans t2).trans t3
    cases k with
    | true =>
      rw [if_pos rfl] at q3 ⊢
      exact q3 σ H3 _ s3 (r.mono t13) (fun w H4 dw m4 t4 s4 r4 q4 => ⟨e, dw, m4, _, s4, (r2.mono t3).mono t4, r4, q4, fun z5 H5 dz5 m5 t5 s5 r5 ⟨k5, ek5, q5⟩ => by
        subst ek5
        cases r5
        refine ⟨k5, rfl, ?_⟩
        cases k5 with
        | true =>
          rw [if_pos rfl] at q5 ⊢
          exact q5 σ H5 _ s5 (r.mono ((t13.trans t4).trans t5)) (fun w6 H6 dw6 m6 t6 s6 r6 q6 => ⟨dw, dw6, m6, R, s6, (r4.mono t5).mono t6, r6, q6, p.tr (((t13.trans t4).trans t5).trans t6)⟩) (x.tr ((t13.trans t4).trans t5))
        | false =>
          rw [if_neg Bool.false_ne_true] at q5 ⊢
          exact p _ H5 _ m5 ((t13.trans t4).trans t5) s5 (RV.dat (Rp.bl _)) q5⟩) (x.tr t13)
    | false =>
      rw [if_neg Bool.false_ne_true] at q3 ⊢
      exact p _ H3 _ m3 t13 s3 (RV.dat (Rp.bl _)) q3⟩) (x.tr t1)) x
/-- and, or, not as values -/
theorem ev_andV (h : EvD G W ta ds m (fun x m1 => ∃ c, x = .d (.bl c) ∧ if c = true then EvD G W tb ds m1 R XR else R (.d (.bl false)) m1) XR) : EvD G W (tAndV ta tb) ds m R XR := fun σ H Q s r p x =>
  h σ H _ s r (fun v H1 d m1 t1 s1 r1 ⟨c, e, q1⟩ => by
    subst e
    cases r1
    refine ⟨c, rfl, ?_⟩
    cases c with
    | true => rw [if_pos rfl] at q1 ⊢; exact q1 σ H1 Q s1 (r.mono t1) (p.tr t1) (x.tr t1)
    | false => rw [if_neg Bool.false_ne_true] at q1 ⊢; exact p _ H1 _ m1 t1 s1 (RV.dat (Rp.bl _)) q1) x
theorem ev_orV (h : EvD G W ta ds m (fun x m1 => ∃ c, x = .d (.bl c) ∧ if c = true then R (.d (.bl true)) m1 else EvD G W tb ds m1 R XR) XR) : EvD G W (tOrV ta tb) ds m R XR := fun σ H Q s r p x =>
  h σ H _ s r (fun v H1 d m1 t1 s1 r1 ⟨c, e, q1⟩ => by
    subst e
    cases r1
    refine ⟨c, rfl, ?_⟩
    cases c with
    | true => rw [if_pos rfl] at q1 ⊢; exact p _ H1 _ m1 t1 s1 (RV.dat (Rp.bl _)) q1
    | false => rw [if_neg Bool.false_ne_true] at q1 ⊢; exact q1 σ H1 Q s1 (r.mono t1) (p.tr t1) (x.tr t1)) x
theorem ev_notV (h : EvD G W ta ds m (fun x m1 => ∃ c, x = .d (.bl c) ∧ R (.d (.bl (!c))) m1) XR) : EvD G W (tNotV ta) ds m R XR := fun σ H Q s r p x =>
  h σ H _ s r (fun v H1 d m1 t1 s1 r1 ⟨c, e, q1⟩ => by
    subst e
    cases r1
    exact ⟨c, rfl, p _ H1 _ m1 t1 s1 (RV.dat (Rp.bl _)) q1⟩) x
end
section
variable {X : Cx} {a b c d : Expr} {ta tb tc td : TE} {pos : Pos}
open PySem.Spec PyProof.Rows in
theorem pe_chain3 {op op' op'' : CmpOp} {r r' r'' : R2} (ho : OpR X (compareOp op) r) (ho' : OpR X (compareOp op') r') (ho'' : OpR X (compareOp op'') r'') (ha : PE X a ta) (hb : PE X b tb) (hc : PE X c tc) (hd : PE X d td)
    (hm : lastMarks [op, op', op''] [b, c, d] = false := by with_unfolding_all rfl) : PE X (.Compare a [op, op', op''] [b, c, d] pos) (tChain3 r r' r'' ta tb tc td) := by
  refine ⟨fun pins s σ H Q I h => Compare_chain (thn (ha.run pins s σ H _ I h) fun v s1 ⟨x, H1, I1, r1, q1⟩ => chain_link (thn (hb.run pins s1 σ H1 _ I1 q1) fun u s2 ⟨y, H2, I2, r2, q2⟩ => thn (ho pins s2 σ H2 x y v u _ I2 r1 r2 q2) fun d s3 ⟨z, H3, I3, r3, k, e, q3⟩ => ?_)) hm⟩
  subst e
  cases r3
  refine wpAny_truthy_bool ?_
  cases k with
  | false => exact ite_ff ⟨.bl false, H3, I3, rfl, q3⟩
  | true =>
    refine ite_tt (chain_link (thn (hc.run pins s3 σ H3 _ I3 q3) fun w' s4 ⟨z', H4, I4, r4, q4⟩ => thn (ho' pins s4 σ H4 y z' u w' _ I4 r2 r4 q4) fun d s5 ⟨z5, H5, I5, r5, k5, e5, q5⟩ => ?_))
    subst e5
    cases r5
    refine wpAny_truthy_bool ?_
    cases k5 with
    | false => exact ite_ff ⟨.bl false, H5, I5, rfl, q5⟩
    | true => exact ite_tt (chain_last (thn (hd.run pins s5 σ H5 _ I5 q5) fun w6 s6 ⟨z6, H6, I6, r6, q6⟩ => ho'' pins s6 σ H6 z' z6 w' w6 Q I6 r4 r6 q6))
open PySem.Spec PyProof.Rows in
theorem pt_chain3 {op op' op'' : CmpOp} {r r' r'' : R2} (ho : OpR X (compareOp op) r) (ho' : OpR X (compareOp op') r') (ho'' : OpR X (compareOp op'') r'') (ha : PE X a ta) (hb : PE X b tb) (hc : PE X c tc) (hd : PE X d td)
    (hm : lastMarks [op, op', op''] [b, c, d] = false := by with_unfolding_all rfl) : PT X (.Compare a [op, op', op''] [b, c, d] pos) (tTest (tChain3 r r' r'' ta tb tc td)) := by
  refine ⟨fun pins s σ H Q I h => isTrue_chain (thn (ha.run pins s σ H _ I h) fun v s1 ⟨x, H1, I1, r1, q1⟩ => test_link (thn (hb.run pins s1 σ H1 _ I1 q1) fun u s2 ⟨y, H2, I2, r2, q2⟩ => thn (ho pins s2 σ H2 x y v u _ I2 r1 r2 q2) fun d s3 ⟨z, H3, I3, r3, k, e, q3⟩ => ?_)) hm⟩
  subst e
  cases r3
  refine wpAny_truthy_bool ?_
  cases k with
  | false =>
    obtain ⟨k', e', q'⟩ := q3
    cases e'
    exact ite_ff ⟨H3, I3, q'⟩
  | true =>
    refine ite_tt (test_link (thn (hc.run pins s3 σ H3 _ I3 q3) fun w' s4 ⟨z', H4, I4, r4, q4⟩ => thn (ho' pins s4 σ H4 y z' u w' _ I4 r2 r4 q4) fun d s5 ⟨z5, H5, I5, r5, k5, e5, q5⟩ => ?_))
    subst e5
    cases r5
    refine wpAny_truthy_bool ?_
    cases k5 with
    | false =>
      obtain ⟨k', e', q'⟩ := q5
      cases e'
      exact ite_ff ⟨H5, I5, q'⟩
    | true =>
      refine ite_tt (test_last (thn (hd.run pins s5 σ H5 _ I5 q5) fun w6 s6 ⟨z6, H6, I6, r6, q6⟩ => thn (ho'' pins s6 σ H6 z' z6 w' w6 _ I6 r4 r6 q6) fun d7 s7 ⟨z7, H7, I7, r7, k7, e7, q7⟩ => ?_))
      subst e7
      cases r7
      exact wpAny_truthy_bool ⟨H7, I7, q7⟩
end
end Lb

/-! Lb3: targets, loops, comprehensions, methods of lists. -/
namespace Lb
open PySem L2

/-! ### targets -/
def GtD (G : Ctx) (g : TG) (d : DV) (ds : DS) (m : Mu) (R : DS → Mu → Prop) : Prop := ∀ (σ : L2.St) (H : Hp) (Q : L2.St → Hp → Prop) (v : V), S0 G H m → REnv G (fz H m) σ ds → RV G (fz H m) v d → PostS G H m R Q → g v σ H Q
section
variable {G : Ctx} {W : WX} {ds : DS} {m : Mu} {R : DS → Mu → Prop} {N : EndsD} {XR : Tag → DS → Mu → Prop} {te to ti : TE} {d : DV}
theorem gt_name {i : Nat} (k : R (ds.set i (some d)) m) : GtD G (gName i) d ds m R := fun σ H Q v s r rv p => p _ H _ m (Ex.refl _) s (r.set i rv) k
theorem gt_tup2 {i j : Nat} {x y : D} (k : R ((ds.set i (some (.d x))).set j (some (.d y))) m) : GtD G (gTup G.K 2 (gCons (gName i) (gCons (gName j) gNil))) (.d (.tup [x, y])) ds m R := fun σ H Q v s r rv p => by
  cases rv with
  | tup h1 h2 =>
    cases h2 with
    | cons a1 h2 =>
      cases h2 with
      | cons a2 h2 =>
        cases h2
        exact ⟨_, _, rfl, SqT.of (fz_ex _ _ h1), rfl, _, _, rfl, _, _, rfl, rfl, p _ H _ m (Ex.refl _) s ((r.set i (RV.dat a1)).set j (RV.dat a2)) k⟩
theorem gt_tup3 {i j l : Nat} {x y z : D} (k : R (((ds.set i (some (.d x))).set j (some (.d y))).set l (some (.d z))) m) : GtD G (gTup G.K 3 (gCons (gName i) (gCons (gName j) (gCons (gName l) gNil)))) (.d (.tup [x, y, z])) ds m R := fun σ H Q v s r rv p => by
  cases rv with
  | tup h1 h2 =>
    cases h2 with
    | cons a1 h2 =>
      cases h2 with
      | cons a2 h2 =>
        cases h2 with
        | cons a3 h2 =>
          cases h2
          exact ⟨_, _, rfl, SqT.of (fz_ex _ _ h1), rfl, _, _, rfl, _, _, rfl, _, _, rfl, rfl, p _ H _ m (Ex.refl _) s (((r.set i (RV.dat a1)).set j (RV.dat a2)).set l (RV.dat a3)) k⟩
theorem st_asgG {g : TG} (h : EvD G W te ds m (fun d m1 => GtD G g d ds m1 N.nx) (fun t m1 => XR t ds m1)) : StD G W (tAsg te g) ds m N XR := fun σ H E s r p =>
  h σ H _ s r (fun v H1 d m1 t1 s1 r1 q1 => q1 σ H1 _ v s1 (r.mono t1) r1 (p.nx.tr t1)) (p.x r)
/-- o[i] = e -/
theorem st_setL (h : EvD G W te ds m (fun v m1 => EvD G W to ds m1 (fun o m2 => EvD G W ti ds m2 (fun i m3 => ∃ a xs k j x, o = .r a ∧ i = .d (.int k) ∧ v = .d x ∧ m3 a = some (.lst xs) ∧ ixN xs.length k = some j ∧ N.nx ds (mset m3 a (.lst (xs.set j x)))) (fun t m1 => XR t ds m1)) (fun t m1 => XR t ds m1)) (fun t m1 => XR t ds m1)) :
    StD G W (tAsg te (gSub to ti rSetL)) ds m N XR := fun σ H E s r p =>
  h σ H _ s r (fun v H1 d m1 t1 s1 r1 q1 => q1 σ H1 _ s1 (r.mono t1) (fun o H2 e m2 t2 s2 r2 q2 => q2 σ H2 _ s2 (r.mono (t1.trans t2)) (fun iv H3 f m3 t3 s3 r3 ⟨a, xs, k, j, x, e1, e2, e3, em, ej, q3⟩ => by
    subst e1 e2 e3
    cases r3
    cases r2
    obtain ⟨vs, h1, h2⟩ := s3 _ _ em
    refine ⟨a, vs, k, j, rfl, rfl, h1, by rw [h2.length]; exact ej, ?_⟩
    have r1' : Rp (fz H3 m3) v x := (r1.mono t2).mono t3
    obtain ⟨s4, t4⟩ := s3.put (p := a) (o := .lst (vs.set j v)) (x := .lst (xs.set j x)) (fz_some em) ⟨_, upd_same, RpL.set r1' j h2⟩
    have t14 := ((t1.trans t2).trans t3).trans t4
    exact p.nx _ _ _ _ t14 s4 (r.mono t14) q3) ((p.x r).tr (t1.trans t2))) ((p.x r).tr t1)) (p.x r)
end

/-! ### what is walked -/
structure ItD (G : Ctx) (J : It) (xs : List DV) (gd : Mu → Prop) (good : Hp → Mu → Prop) : Prop where
  go : ∀ (i : Nat) (H : Hp) (m : Mu), S0 G H m → good H m → i < xs.length → J.go i H
  yld : ∀ (i : Nat) (H : Hp) (m : Mu) (x : V) (H' : Hp), S0 G H m → good H m → J.yld i H x H' → i < xs.length → H' = H ∧ ∃ d, xs[i]? = some d ∧ RV G (fz H m) x d
  stop : ∀ (i : Nat) (H : Hp) (m : Mu), S0 G H m → good H m → xs.length ≤ i → J.stop i H
  keep : ∀ (H : Hp) (m : Mu) (H' : Hp) (m' : Mu), Tr H m H' m' → good H m → gd m' → good H' m'
def EvI (G : Ctx) (W : WX) (wi : TI) (ds : DS) (m : Mu) (R : List DV → (Mu → Prop) → Mu → Prop) (XR : Tag → Mu → Prop) : Prop :=
  ∀ (σ : L2.St) (H : Hp) (Q : It → Hp → Prop), S0 G H m → REnv G (fz H m) σ ds → (∀ J H1 m1 xs gd good, Tr H m H1 m1 → S0 G H1 m1 → ItD G J xs gd good → good H1 m1 → R xs gd m1 → Q J H1) → XPost G H m XR (fun c d H' => W c d σ H') → wi σ H Q
abbrev GT : Mu → Prop := fun _ => True
section
variable {G : Ctx} {W : WX} {ds : DS} {m : Mu} {R : List DV → (Mu → Prop) → Mu → Prop} {XR : Tag → Mu → Prop} {te : TE} {ta : TA}
theorem itd_list {a : Addr} {vs : List V} {xs : List D} : ItD G (Itl G.K a) (xs.map DV.d) GT (fun H m => fz H m a = some (.lst vs) ∧ RpL (fz H m) vs xs) where
  go := fun i H m s ⟨h1, h2⟩ hi => by
    rw [List.length_map, ← h2.length] at hi
    exact ⟨vs, vs[i], SqL.of (fz_ex _ _ h1), List.getElem?_eq_getElem hi⟩
  yld := fun i H m x H' s ⟨h1, h2⟩ ⟨e, h⟩ hi => by
    obtain ⟨d, e1, e2⟩ := h2.getV (h _ (SqL.of (fz_ex _ _ h1)))
    exact ⟨e, .d d, by rw [List.getElem?_map, e1]; rfl, e2⟩
  stop := fun i H m s ⟨h1, h2⟩ hi => ⟨vs, SqL.of (fz_ex _ _ h1), by rw [List.length_map] at hi; rw [h2.length]; exact hi⟩
  keep := fun H m H' m' t ⟨h1, h2⟩ _ => ⟨t _ _ h1, RpL.mono t _ _ h2⟩
theorem itd_tup {a : Addr} {vs : List V} {xs : List D} : ItD G (Itt G.K a) (xs.map DV.d) GT (fun H m => fz H m a = some (.tup vs) ∧ RpL (fz H m) vs xs) where
  go := fun i H m s ⟨h1, h2⟩ hi => by
    rw [List.length_map, ← h2.length] at hi
    exact ⟨vs, vs[i], SqT.of (fz_ex _ _ h1), List.getElem?_eq_getElem hi⟩
  yld := fun i H m x H' s ⟨h1, h2⟩ ⟨e, h⟩ hi => by
    obtain ⟨d, e1, e2⟩ := h2.getV (h _ (SqT.of (fz_ex _ _ h1)))
    exact ⟨e, .d d, by rw [List.getElem?_map, e1]; rfl, e2⟩
  stop := fun i H m s ⟨h1, h2⟩ hi => ⟨vs, SqT.of (fz_ex _ _ h1), by rw [List.length_map] at hi; rw [h2.length]; exact hi⟩
  keep := fun H m H' m' t ⟨h1, h2⟩ _ => ⟨t _ _ h1, RpL.mono t _ _ h2⟩
/-- a mutable list that the turns leave as it is -/
theorem itd_mut {a : Addr} {xs : List D} : ItD G (Itl G.K a) (xs.map DV.d) (fun m => m a = some (.lst xs)) (fun _ m => m a = some (.lst xs)) where
  go := fun i H m s h hi => by
    obtain ⟨vs, h1, h2⟩ := s _ _ h
    rw [List.length_map, ← h2.length] at hi
    exact ⟨vs, vs[i], SqL.of h1, List.getElem?_eq_getElem hi⟩
  yld := fun i H m x H' s h ⟨e, k⟩ hi => by
    obtain ⟨vs, h1, h2⟩ := s _ _ h
    obtain ⟨d, e1, e2⟩ := h2.getV (k _ (SqL.of h1))
    exact ⟨e, .d d, by rw [List.getElem?_map, e1]; rfl, e2⟩
  stop := fun i H m s h hi => by
    obtain ⟨vs, h1, h2⟩ := s _ _ h
    exact ⟨vs, SqL.of h1, by rw [List.length_map] at hi; rw [h2.length]; exact hi⟩
  keep := fun _ _ _ _ _ _ g => g
def rng (lo : Int) (n : Nat) : List DV := (List.range n).map fun i => DV.d (.int (lo + (i : Nat)))
theorem rng_len (lo : Int) (n : Nat) : (rng lo n).length = n := by unfold rng; rw [List.length_map, List.length_range]
theorem rng_get {lo : Int} {n i : Nat} (h : i < n) : (rng lo n)[i]? = some (.d (.int (lo + (i : Nat)))) := by
  unfold rng
  rw [List.getElem?_map, List.getElem?_range h]
  rfl
theorem itd_rng {lo : Int} {n : Nat} : ItD G (Itr lo n) (rng lo n) GT (fun _ _ => True) where
  go := fun i H m s _ hi => by rw [rng_len] at hi; exact hi
  yld := fun i H m x H' s _ ⟨e, h⟩ hi => by
    rw [rng_len] at hi
    subst h
    exact ⟨e, _, rng_get hi, RV.dat (Rp.int _)⟩
  stop := fun i H m s _ hi => by rw [rng_len] at hi; exact hi
  keep := fun _ _ _ _ _ _ _ => trivial
def signs (z : Str) : List D := z.cps.toList.map fun c => D.str ⟨#[c]⟩
theorem itd_str {z : Str} : ItD G (Its z) ((signs z).map DV.d) GT (fun _ _ => True) where
  go := fun i H m s _ hi => by
    rw [List.length_map, signs, List.length_map, Array.length_toList] at hi
    exact hi
  yld := fun i H m x H' s _ ⟨e, c, h1, h2⟩ hi => by
    subst h2
    refine ⟨e, .d (.str ⟨#[c]⟩), ?_, RV.dat (Rp.str _)⟩
    rw [List.getElem?_map, signs, List.getElem?_map, Array.getElem?_toList, h1]
    rfl
  stop := fun i H m s _ hi => by
    rw [List.length_map, signs, List.length_map, Array.length_toList] at hi
    exact hi
  keep := fun _ _ _ _ _ _ _ => trivial
theorem ei_list (h : EvD G W te ds m (fun d m1 => ∃ xs, d = .d (.lst xs) ∧ R (xs.map DV.d) GT m1) XR) : EvI G W (iList G.K te) ds m R XR := fun σ H Q s r p x =>
  h σ H _ s r (fun v H1 d m1 t1 s1 r1 ⟨xs, e, q⟩ => by
    subst e
    cases r1 with
    | lst h1 h2 => exact ⟨_, rfl, ⟨_, SqL.of (fz_ex _ _ h1)⟩, p _ _ m1 _ _ _ t1 s1 itd_list ⟨h1, h2⟩ q⟩) x
theorem ei_mut (h : EvD G W te ds m (fun d m1 => ∃ a xs, d = .r a ∧ m1 a = some (.lst xs) ∧ R (xs.map DV.d) (fun m => m a = some (.lst xs)) m1) XR) : EvI G W (iList G.K te) ds m R XR := fun σ H Q s r p x =>
  h σ H _ s r (fun v H1 d m1 t1 s1 r1 ⟨a, xs, e, em, q⟩ => by
    subst e
    cases r1
    obtain ⟨vs, h1, h2⟩ := s1 _ _ em
    exact ⟨_, rfl, ⟨_, SqL.of h1⟩, p _ _ m1 _ _ _ t1 s1 itd_mut em q⟩) x
theorem ei_tup (h : EvD G W te ds m (fun d m1 => ∃ xs, d = .d (.tup xs) ∧ R (xs.map DV.d) GT m1) XR) : EvI G W (iTup G.K te) ds m R XR := fun σ H Q s r p x =>
  h σ H _ s r (fun v H1 d m1 t1 s1 r1 ⟨xs, e, q⟩ => by
    subst e
    cases r1 with
    | tup h1 h2 => exact ⟨_, rfl, ⟨_, SqT.of (fz_ex _ _ h1)⟩, p _ _ m1 _ _ _ t1 s1 itd_tup ⟨h1, h2⟩ q⟩) x
theorem ei_str (h : EvD G W te ds m (fun d m1 => ∃ z, d = .d (.str z) ∧ R ((signs z).map DV.d) GT m1) XR) : EvI G W (iStr te) ds m R XR := fun σ H Q s r p x =>
  h σ H _ s r (fun v H1 d m1 t1 s1 r1 ⟨z, e, q⟩ => by
    subst e
    cases r1
    exact ⟨z, rfl, p _ _ m1 _ _ _ t1 s1 itd_str trivial q⟩) x
theorem ei_rng1 (h : EvA G W ta ds m (fun es m1 => ∃ n : Int, es = [.d (.int n)] ∧ -(2 ^ 62) ≤ n ∧ n < 2 ^ 62 ∧ R (rng 0 n.toNat) GT m1) XR) : EvI G W (iRng1 ta) ds m R XR := fun σ H Q s r p x =>
  h σ H _ s r (fun vs H1 es m1 t1 s1 r1 ⟨n, e, h1, h2, q⟩ => by
    subst e
    cases r1 with
    | cons a b =>
      cases b
      cases a
      exact ⟨n, rfl, h1, h2, p _ _ m1 _ _ _ t1 s1 itd_rng trivial q⟩) x
theorem ei_rng2 (h : EvA G W ta ds m (fun es m1 => ∃ i n : Int, es = [.d (.int i), .d (.int n)] ∧ (-(2 ^ 62) ≤ i ∧ i < 2 ^ 62 ∧ -(2 ^ 62) ≤ n ∧ n < 2 ^ 62) ∧ R (rng i (n - i).toNat) GT m1) XR) : EvI G W (iRng2 ta) ds m R XR := fun σ H Q s r p x =>
  h σ H _ s r (fun vs H1 es m1 t1 s1 r1 ⟨i, n, e, h1, q⟩ => by
    subst e
    cases r1 with
    | cons a b =>
      cases b with
      | cons b c =>
        cases c
        cases a
        cases b
        exact ⟨i, n, rfl, h1, p _ _ m1 _ _ _ t1 s1 itd_rng trivial q⟩) x
end

/-! ### for, while -/
section
variable {G : Ctx} {W : WX} {ds : DS} {m : Mu} {N : EndsD} {XR : Tag → DS → Mu → Prop} {wi : TI} {g : TG} {tb : TS} {c : TT}
theorem st_for (h : EvI G W wi ds m (fun xs gd m1 => ∃ P : Nat → DS → Mu → Prop, P 0 ds m1 ∧ (∀ i ds' m', P i ds' m' → gd m') ∧
      (∀ i x ds' m', xs[i]? = some x → P i ds' m' → GtD G g x ds' m' (fun ds2 m2 => StD G W tb ds2 m2 { nx := P (i + 1), rt := N.rt, bk := N.nx, ct := P (i + 1) } XR)) ∧
      (∀ ds' m', P xs.length ds' m' → N.nx ds' m')) (fun t m1 => XR t ds m1)) : StD G W (tFor wi g tb) ds m N XR := fun σ H E s r p =>
  h σ H _ s r (fun J H1 m1 xs gd good t1 s1 it g1 ⟨P, p0, pg, pt, pe⟩ => by
    refine ⟨fun i k σ' H' => k = xs.length - i ∧ i ≤ xs.length ∧ ∃ ds' m', Tr H m H' m' ∧ S0 G H' m' ∧ REnv G (fz H' m') σ' ds' ∧ good H' m' ∧ P i ds' m', ⟨xs.length, by simp, Nat.zero_le _, ds, m1, t1, s1, r.mono t1, g1, p0⟩, ?_⟩
    rintro i k σ' H' ⟨rfl, hi, ds', m', t', s', r', g', p'⟩
    by_cases hlt : i < xs.length
    · refine .inr ⟨it.go i H' m' s' g' hlt, fun σ2 H2 => ∃ ds2 m2, Tr H m H2 m2 ∧ S0 G H2 m2 ∧ REnv G (fz H2 m2) σ2 ds2 ∧ good H2 m2 ∧ P (i + 1) ds2 m2, fun σ2 H2 ⟨ds2, m2, q⟩ => ⟨xs.length - (i + 1), by omega, rfl, hlt, ds2, m2, q⟩, fun x H2 y => ?_⟩
      obtain ⟨rfl, d, ed, rd⟩ := it.yld i H' m' x H2 s' g' y hlt
      refine pt i d ds' m' ed p' σ' H2 _ x s' r' rd fun σ3 H3 ds3 m3 t3 s3 r3 q3 => ?_
      have fin : ∀ σ4 H4 ds4 m4, Tr H3 m3 H4 m4 → S0 G H4 m4 → REnv G (fz H4 m4) σ4 ds4 → P (i + 1) ds4 m4 → ∃ ds2 m2, Tr H m H4 m2 ∧ S0 G H4 m2 ∧ REnv G (fz H4 m2) σ4 ds2 ∧ good H4 m2 ∧ P (i + 1) ds2 m2 := fun σ4 H4 ds4 m4 t4 s4 r4 q4 =>
        ⟨ds4, m4, (t'.trans t3).trans t4, s4, r4, it.keep _ _ _ _ (t3.trans t4) g' (pg _ _ _ q4), q4⟩
      exact q3 σ3 H3 _ s3 r3 ⟨fun σ4 H4 ds4 m4 t4 s4 r4 q4 => fin σ4 H4 ds4 m4 t4 s4 r4 q4, (p.rt.tr t').tr t3, (p.nx.tr t').tr t3, fun σ4 H4 ds4 m4 t4 s4 r4 q4 => fin σ4 H4 ds4 m4 t4 s4 r4 q4, fun c hc σ4 H4 ds4 m4 t4 => p.xe c hc σ4 H4 ds4 m4 ((t'.trans t3).trans t4)⟩
    · have e : i = xs.length := by omega
      subst e
      exact .inl ⟨it.stop _ H' m' s' g' (Nat.le_refl _), p.nx σ' H' ds' m' t' s' r' (pe ds' m' p')⟩) (p.x r)
/-- over a list of things, by what was taken -/
theorem for_pre {α : Type} {ys : List α} {enc : α → DV} {gd : Mu → Prop} (P : List α → DS → Mu → Prop) (h0 : P [] ds m) (hg : ∀ pre ds' m', P pre ds' m' → gd m')
    (hs : ∀ pre y post ds' m', ys = pre ++ y :: post → P pre ds' m' → GtD G g (enc y) ds' m' (fun ds2 m2 => StD G W tb ds2 m2 { nx := P (pre ++ [y]), rt := N.rt, bk := N.nx, ct := P (pre ++ [y]) } XR)) (hd : ∀ ds' m', P ys ds' m' → N.nx ds' m') :
    ∃ P : Nat → DS → Mu → Prop, P 0 ds m ∧ (∀ i ds' m', P i ds' m' → gd m') ∧
      (∀ i x ds' m', (ys.map enc)[i]? = some x → P i ds' m' → GtD G g x ds' m' (fun ds2 m2 => StD G W tb ds2 m2 { nx := P (i + 1), rt := N.rt, bk := N.nx, ct := P (i + 1) } XR)) ∧
      (∀ ds' m', P (ys.map enc).length ds' m' → N.nx ds' m') := by
  refine ⟨fun i => P (ys.take i), h0, fun i ds' m' q => hg _ _ _ q, fun i x ds' m' hx q => ?_, fun ds' m' q => hd ds' m' (by rw [List.length_map, List.take_length] at q; exact q)⟩
  rw [List.getElem?_map] at hx
  cases e : ys[i]? with
  | none => rw [e] at hx; cases hx
  | some y =>
    rw [e] at hx
    cases hx
    obtain ⟨hi, e2⟩ := List.getElem?_eq_some_iff.mp e
    have e3 : ys.take (i + 1) = ys.take i ++ [y] := by rw [List.take_add_one, e]; rfl
    have h := hs (ys.take i) y (ys.drop (i + 1)) ds' m' (by rw [← e2, List.getElem_cons_drop, List.take_append_drop]) q
    rw [← e3] at h
    exact h
/-- while, by a measure -/
theorem st_while (P : Nat → DS → Mu → Prop) (k0 : Nat) (h0 : P k0 ds m)
    (hs : ∀ k ds' m', P k ds' m' → EvT G W c ds' m' (fun b m1 => if b = true then StD G W tb ds' m1 { nx := fun ds2 m2 => ∃ k', k' < k ∧ P k' ds2 m2, rt := N.rt, bk := N.nx, ct := fun ds2 m2 => ∃ k', k' < k ∧ P k' ds2 m2 } XR else N.nx ds' m1) (fun t m1 => XR t ds' m1)) : StD G W (tWhile c tb) ds m N XR := fun σ H E s r p => by
  refine ⟨fun k σ' H' => ∃ ds' m', Tr H m H' m' ∧ S0 G H' m' ∧ REnv G (fz H' m') σ' ds' ∧ P k ds' m', ⟨k0, ds, m, Ex.refl _, s, r, h0⟩, ?_⟩
  rintro k σ' H' ⟨ds', m', t', s', r', p'⟩
  refine hs k ds' m' p' σ' H' _ s' r' (fun b H1 m1 t1 s1 q1 => ?_) ((p.tr t').x r')
  cases b with
  | true =>
    rw [if_pos rfl] at q1 ⊢
    refine ⟨fun σ2 H2 => ∃ k', k' < k ∧ ∃ ds2 m2, Tr H m H2 m2 ∧ S0 G H2 m2 ∧ REnv G (fz H2 m2) σ2 ds2 ∧ P k' ds2 m2, fun σ2 H2 ⟨k', hk, q⟩ => ⟨k', hk, q⟩, ?_⟩
    have fin : ∀ σ4 H4 ds4 m4, Tr H1 m1 H4 m4 → S0 G H4 m4 → REnv G (fz H4 m4) σ4 ds4 → (∃ k', k' < k ∧ P k' ds4 m4) → ∃ k', k' < k ∧ ∃ ds2 m2, Tr H m H4 m2 ∧ S0 G H4 m2 ∧ REnv G (fz H4 m2) σ4 ds2 ∧ P k' ds2 m2 := fun σ4 H4 ds4 m4 t4 s4 r4 ⟨k', hk, q4⟩ =>
      ⟨k', hk, ds4, m4, (t'.trans t1).trans t4, s4, r4, q4⟩
    exact q1 σ' H1 _ s1 (r'.mono t1) ⟨fin, (p.rt.tr t').tr t1, (p.nx.tr t').tr t1, fin, fun c hc σ4 H4 ds4 m4 t4 => p.xe c hc σ4 H4 ds4 m4 ((t'.trans t1).trans t4)⟩
  | false =>
    rw [if_neg Bool.false_ne_true] at q1 ⊢
    exact p.nx σ' H1 ds' m1 (t'.trans t1) s1 (r'.mono t1) q1
end

/-! ### comprehensions -/
def wipeD (ds : DS) : List Nat → DS
  | [] => ds
  | v :: vs => (wipeD ds vs).set v none
end Lb

/-! Lb4: comprehensions, methods of lists, owned lists. -/
namespace Lb
open PySem L2

theorem wipe_get (σ : L2.St) (i : Nat) : ∀ vs : List Nat, (wipe σ vs)[i]? = if i ∈ vs then (if i < σ.length then some none else none) else σ[i]?
  | [] => by simp [wipe]
  | v :: vs => by
    unfold wipe
    by_cases e : v = i
    · subst e
      rw [if_pos List.mem_cons_self]
      by_cases h : v < σ.length
      · rw [if_pos h, List.getElem?_set_self (by rw [wipe_length]; exact h)]
      · rw [if_neg h, List.getElem?_eq_none (by rw [List.length_set, wipe_length]; omega)]
    · rw [List.getElem?_set_ne e, wipe_get σ i vs]
      have z : i ∈ v :: vs ↔ i ∈ vs := by
        rw [List.mem_cons]
        exact ⟨fun h => h.elim (fun q => absurd q.symm e) id, .inr⟩
      by_cases h : i ∈ vs
      · rw [if_pos h, if_pos (z.mpr h)]
      · rw [if_neg h, if_neg fun q => h (z.mp q)]
theorem wipe_set {σ : L2.St} {vs : List Nat} {j : Nat} (hj : j ∈ vs) (y : Option V) : wipe ((wipe σ vs).set j y) vs = wipe σ vs := by
  apply List.ext_getElem?
  intro i
  rw [wipe_get, wipe_get, List.length_set, wipe_length]
  by_cases h : i ∈ vs
  · rw [if_pos h, if_pos h]
  · rw [if_neg h, if_neg h, List.getElem?_set_ne (fun e => by rw [e] at hj; exact h hj), wipe_get, if_neg h]
theorem wipe_set2 {σ : L2.St} {vs : List Nat} {j l : Nat} (hj : j ∈ vs) (hl : l ∈ vs) (y z : Option V) : wipe (((wipe σ vs).set j y).set l z) vs = wipe σ vs := by
  apply List.ext_getElem?
  intro i
  rw [wipe_get, wipe_get, List.length_set, List.length_set, wipe_length]
  by_cases h : i ∈ vs
  · rw [if_pos h, if_pos h]
  · rw [if_neg h, if_neg h, List.getElem?_set_ne (fun e => by rw [e] at hl; exact h hl), List.getElem?_set_ne (fun e => by rw [e] at hj; exact h hj), wipe_get, if_neg h]
theorem REnv.wipe {G : Ctx} {F : Hp} {σ : L2.St} {ds : DS} (h : REnv G F σ ds) : ∀ vs : List Nat, REnv G F (L2.wipe σ vs) (wipeD ds vs)
  | [] => h
  | v :: vs => (REnv.wipe h vs).unset v

abbrev WF : WX := fun _ _ _ _ => False
abbrev XF : Tag → Mu → Prop := fun _ _ => False
/-- a store that holds more -/
def Ext (m M : Mu) : Prop := ∀ a o, m a = some o → M a = some o
theorem Ext.refl (m : Mu) : Ext m m := fun _ _ h => h
theorem Ext.put {m : Mu} {a : Addr} {o : MO} (h : m a = none) : Ext m (mset m a o) := fun b u e => by
  rw [mset_ne (fun z => by rw [z, h] at e; cases e)]
  exact e
/-- how a comprehension's target takes an item: slots of its own -/
inductive TgRun (K : PySem.W.Frag) (vs : List Nat) : TG → DV → DS → DS → Prop
  | name {j : Nat} {x : DV} {ds : DS} (h : j ∈ vs) : TgRun K vs (gName j) x ds (ds.set j (some x))
  | pair {i j : Nat} {a b : D} {ds : DS} (hi : i ∈ vs) (hj : j ∈ vs) : TgRun K vs (gTup K 2 (gCons (gName i) (gCons (gName j) gNil))) (.d (.tup [a, b])) ds ((ds.set i (some (.d a))).set j (some (.d b)))
/-- the turns of a comprehension that changes nothing -/
def LcOk (G : Ctx) (g : TG) (tt : TT) (te : TE) (vs : List Nat) (ds : DS) (m : Mu) (xs : List DV) (f : Nat → Option D) : Prop :=
  ∀ i x M, xs[i]? = some x → Ext m M → ∃ ds2, TgRun G.K vs g x (wipeD ds vs) ds2 ∧ EvT G WF tt ds2 M (fun b M3 => M3 = M ∧ if b = true then EvD G WF te ds2 M (fun y M4 => M4 = M ∧ ∃ z, y = .d z ∧ f i = some z) XF else f i = none) XF
section
variable {G : Ctx} {W : WX} {ds : DS} {m : Mu} {R : DV → Mu → Prop} {XR : Tag → Mu → Prop} {wi : TI} {g : TG} {tt : TT} {te : TE} {vs : List Nat}
theorem fm_succ (f : Nat → Option D) (i : Nat) : (List.range (i + 1)).filterMap f = (List.range i).filterMap f ++ (f i).toList := by
  rw [List.range_succ, List.filterMap_append]
  congr 1
theorem fm_len (f : Nat → Option D) (i : Nat) : ((List.range i).filterMap f).length ≤ i := by
  have := List.length_filterMap_le f (List.range i)
  rw [List.length_range] at this
  exact this
theorem lc_main (h : EvI G W wi ds m (fun xs gd m1 => (∀ M, Ext m1 M → gd M) ∧ ∃ f : Nat → Option D, LcOk G g tt te vs ds m1 xs f ∧ xs.length ≤ 50000 ∧
      ∀ a, m1 a = none → R (.d (.lst ((List.range xs.length).filterMap f))) m1 ∨ R (.r a) (mset m1 a (.lst ((List.range xs.length).filterMap f)))) XR) : EvD G W (tLc wi g tt te vs) ds m R XR := fun σ H Q s r p x =>
  h σ H _ s r (fun J H1 m1 xs gd good t1 s1 it g1 ⟨hgd, f, hf, hz, hR⟩ Dn hD => by
    have mD : m1 Dn = none := s1.free hD
    have fD : fz H1 m1 Dn = none := by rw [fz_none mD]; exact hD
    obtain ⟨s2, t2⟩ := s1.put (p := Dn) (o := .lst []) (x := .lst []) fD ⟨[], upd_same, .nil⟩
    refine ⟨fun i k H' => k = xs.length - i ∧ i ≤ xs.length ∧ S0 G H' (mset m1 Dn (.lst ((List.range i).filterMap f))) ∧ Tr H m H' (mset m1 Dn (.lst ((List.range i).filterMap f))) ∧ good H' (mset m1 Dn (.lst ((List.range i).filterMap f))),
      ⟨xs.length, by simp, Nat.zero_le _, s2, t1.trans t2, it.keep _ _ _ _ t2 g1 (hgd _ (Ext.put mD))⟩, ?_⟩
    rintro i k H' ⟨rfl, hi, s', t', g'⟩
    by_cases hlt : i < xs.length
    · refine .inr ⟨it.go i H' _ s' g' hlt, fun H2 => S0 G H2 (mset m1 Dn (.lst ((List.range (i + 1)).filterMap f))) ∧ Tr H m H2 (mset m1 Dn (.lst ((List.range (i + 1)).filterMap f))) ∧ good H2 (mset m1 Dn (.lst ((List.range (i + 1)).filterMap f))), fun H2 q => ⟨xs.length - (i + 1), by omega, rfl, hlt, q⟩, fun xv H2 y => ?_⟩
      obtain ⟨rfl, d, ed, rd⟩ := it.yld i H' _ xv H2 s' g' y hlt
      obtain ⟨ds2, tg, ev2⟩ := hf i d _ ed (Ext.put (o := .lst ((List.range i).filterMap f)) mD)
      have fin : ∀ (σ3 : L2.St) (ds3 : DS) (M3 : Mu) (_ : REnv G (fz H2 (mset m1 Dn (.lst ((List.range i).filterMap f)))) σ3 ds3) (_ : EvT G WF tt ds3 (mset m1 Dn (.lst ((List.range i).filterMap f))) (fun b M3 => M3 = mset m1 Dn (.lst ((List.range i).filterMap f)) ∧ if b = true then EvD G WF te ds3 (mset m1 Dn (.lst ((List.range i).filterMap f))) (fun y M4 => M4 = mset m1 Dn (.lst ((List.range i).filterMap f)) ∧ ∃ z, y = .d z ∧ f i = some z) XF else f i = none) XF),
          tt σ3 H2 fun b H3 => if b = true then te σ3 H3 fun y H4 => ∃ acc, H4 Dn = some (.lst acc) ∧ acc.length < sizeLine ∧ (S0 G (upd H4 Dn (.lst (acc ++ [y]))) (mset m1 Dn (.lst ((List.range (i + 1)).filterMap f))) ∧ Tr H m (upd H4 Dn (.lst (acc ++ [y]))) (mset m1 Dn (.lst ((List.range (i + 1)).filterMap f))) ∧ good (upd H4 Dn (.lst (acc ++ [y]))) (mset m1 Dn (.lst ((List.range (i + 1)).filterMap f)))) else
            (S0 G H3 (mset m1 Dn (.lst ((List.range (i + 1)).filterMap f))) ∧ Tr H m H3 (mset m1 Dn (.lst ((List.range (i + 1)).filterMap f))) ∧ good H3 (mset m1 Dn (.lst ((List.range (i + 1)).filterMap f)))) := fun σ3 ds3 _ r3 ev => by
        refine ev σ3 H2 _ s' r3 (fun b H3 M3 t3 s3 ⟨e3, q3⟩ => ?_) (fun _ _ _ _ _ _ z => z.elim)
        subst e3
        cases b with
        | true =>
          rw [if_pos rfl] at q3 ⊢
          refine q3 σ3 H3 _ s3 (r3.mono t3) (fun yv H4 dy M4 t4 s4 r4 ⟨e4, z, ez, fz'⟩ => ?_) (fun _ _ _ _ _ _ z => z.elim)
          subst e4 ez
          obtain ⟨acc, a1, a2⟩ := s4 Dn _ mset_same
          have e5 : (List.range (i + 1)).filterMap f = (List.range i).filterMap f ++ [z] := by rw [fm_succ, fz']; rfl
          obtain ⟨s5, t5⟩ := s4.put (p := Dn) (o := .lst (acc ++ [yv])) (x := .lst ((List.range (i + 1)).filterMap f)) (fz_some mset_same) ⟨_, upd_same, by rw [e5]; exact a2.app (RpL.one r4)⟩
          rw [mset_mset] at s5 t5
          refine ⟨acc, a1, sz_lt (by rw [a2.length]; have := fm_len f i; omega), s5, ((t'.trans t3).trans t4).trans t5, it.keep _ _ _ _ ((t3.trans t4).trans t5) g' (hgd _ (Ext.put mD))⟩
        | false =>
          rw [if_neg Bool.false_ne_true] at q3 ⊢
          have e5 : (List.range (i + 1)).filterMap f = (List.range i).filterMap f := by rw [fm_succ, q3]; exact List.append_nil _
          rw [e5]
          exact ⟨s3, t'.trans t3, it.keep _ _ _ _ t3 g' (hgd _ (Ext.put mD))⟩
      have rw0 : REnv G (fz H2 (mset m1 Dn (.lst ((List.range i).filterMap f)))) (L2.wipe σ vs) (wipeD ds vs) := (r.mono t').wipe vs
      cases tg with
      | name hj => exact ⟨wipe_set hj _, fin _ _ m1 (rw0.set _ rd) ev2⟩
      | pair hi hj =>
        cases rd with
        | tup h1 h2 =>
          cases h2 with
          | cons a1 h2 =>
            cases h2 with
            | cons a2 h2 =>
              cases h2
              exact ⟨_, _, rfl, SqT.of (fz_ex _ _ h1), rfl, _, _, rfl, _, _, rfl, rfl, wipe_set2 hi hj _ _, fin _ _ m1 ((rw0.set _ (RV.dat a1)).set _ (RV.dat a2)) ev2⟩
    · have e : i = xs.length := by omega
      subst e
      refine .inl ⟨it.stop _ H' _ s' g' (Nat.le_refl _), ?_⟩
      rcases hR Dn mD with q | q
      · obtain ⟨acc, a1, a2⟩ := s' Dn _ mset_same
        obtain ⟨s3, t3⟩ := s'.del (p := Dn)
        rw [mdel_mset mD] at s3 t3
        exact p _ H' _ m1 (t'.trans t3) s3 (RV.dat (Rp.lst (by rw [fz_none mD]; exact a1) (RpL.mono t3 _ _ a2))) q
      · exact p _ H' (.r Dn) _ t' s' rfl q) x
/-- typed: over things, each to data or to nothing -/
theorem lc_typed {α : Type} {ys : List α} {enc : α → DV} (F : α → Option D) (h : ∀ (i : Nat) (y : α) (M : Mu), ys[i]? = some y → Ext m M → ∃ ds2, TgRun G.K vs g (enc y) (wipeD ds vs) ds2 ∧ EvT G WF tt ds2 M (fun b M3 => M3 = M ∧ if b = true then EvD G WF te ds2 M (fun x M4 => M4 = M ∧ ∃ z, x = .d z ∧ F y = some z) XF else F y = none) XF) :
    LcOk G g tt te vs ds m (ys.map enc) (fun i => ys[i]?.bind F) := fun i x M hx hM => by
  rw [List.getElem?_map] at hx
  cases e : ys[i]? with
  | none => rw [e] at hx; cases hx
  | some y =>
    rw [e] at hx
    cases hx
    have k := h i y M e hM
    simp only [e, Option.bind_some]
    exact k
theorem lc_len {α : Type} (ys : List α) (F : α → Option D) : ∀ n, n ≤ ys.length → (List.range n).filterMap (fun i => ys[i]?.bind F) = (ys.take n).filterMap F
  | 0, _ => rfl
  | n + 1, h => by
    rw [fm_succ, lc_len ys F n (by omega), List.take_add_one, List.filterMap_append]
    have e : ys[n]? = some ys[n] := List.getElem?_eq_getElem (by omega)
    rw [e]
    rfl
theorem lc_all {α : Type} (ys : List α) (enc : α → DV) (F : α → Option D) : (List.range (ys.map enc).length).filterMap (fun i => ys[i]?.bind F) = ys.filterMap F := by
  rw [List.length_map, lc_len ys F _ (Nat.le_refl _), List.take_length]
/-- [e for x in ..] as data -/
theorem ev_lc (h : EvI G W wi ds m (fun xs gd m1 => (∀ M, Ext m1 M → gd M) ∧ ∃ (α : Type) (ys : List α) (enc : α → DV) (F : α → Option D), xs = ys.map enc ∧ ys.length ≤ 50000 ∧
      (∀ (i : Nat) (y : α) (M : Mu), ys[i]? = some y → Ext m1 M → ∃ ds2, TgRun G.K vs g (enc y) (wipeD ds vs) ds2 ∧ EvT G WF tt ds2 M (fun b M3 => M3 = M ∧ if b = true then EvD G WF te ds2 M (fun x M4 => M4 = M ∧ ∃ z, x = .d z ∧ F y = some z) XF else F y = none) XF) ∧ R (.d (.lst (ys.filterMap F))) m1) XR) : EvD G W (tLc wi g tt te vs) ds m R XR :=
  lc_main fun σ H Q s r p x => h σ H Q s r (fun J H1 m1 xs gd good t1 s1 it g1 ⟨hg, α, ys, enc, F, e, hz, hs, hR⟩ => by
    subst e
    exact p J H1 m1 _ gd good t1 s1 it g1 ⟨hg, _, lc_typed F hs, by rw [List.length_map]; exact hz, fun a _ => .inl (by rw [lc_all]; exact hR)⟩) x
/-- .. as a new list of our own -/
theorem ev_lcO (h : EvI G W wi ds m (fun xs gd m1 => (∀ M, Ext m1 M → gd M) ∧ ∃ (α : Type) (ys : List α) (enc : α → DV) (F : α → Option D), xs = ys.map enc ∧ ys.length ≤ 50000 ∧
      (∀ (i : Nat) (y : α) (M : Mu), ys[i]? = some y → Ext m1 M → ∃ ds2, TgRun G.K vs g (enc y) (wipeD ds vs) ds2 ∧ EvT G WF tt ds2 M (fun b M3 => M3 = M ∧ if b = true then EvD G WF te ds2 M (fun x M4 => M4 = M ∧ ∃ z, x = .d z ∧ F y = some z) XF else F y = none) XF) ∧ ∀ a, m1 a = none → R (.r a) (mset m1 a (.lst (ys.filterMap F)))) XR) : EvD G W (tLc wi g tt te vs) ds m R XR :=
  lc_main fun σ H Q s r p x => h σ H Q s r (fun J H1 m1 xs gd good t1 s1 it g1 ⟨hg, α, ys, enc, F, e, hz, hs, hR⟩ => by
    subst e
    exact p J H1 m1 _ gd good t1 s1 it g1 ⟨hg, _, lc_typed F hs, by rw [List.length_map]; exact hz, fun a ha => .inr (by rw [lc_all]; exact hR a ha)⟩) x
/-- a display as a new list of our own -/
theorem ev_lstO {t : TA} (h : EvA G W t ds m (fun es m1 => ∃ xs : List D, es = xs.map DV.d ∧ xs.length ≤ 100000 ∧ ∀ a, m1 a = none → R (.r a) (mset m1 a (.lst xs))) XR) : EvD G W (tLst t) ds m R XR := fun σ H Q s r p x =>
  h σ H _ s r (fun vs H1 es m1 t1 s1 r1 ⟨xs, e, l, q⟩ => by
    subst e
    have r2 := RVs.data r1
    refine ⟨sz_of (by rw [r2.length]; exact l), fun a ha => ?_⟩
    have ma := s1.free ha
    obtain ⟨s2, t2⟩ := s1.put (p := a) (o := .lst vs) (x := .lst xs) (by rw [fz_none ma]; exact ha) ⟨_, upd_same, r2⟩
    exact p _ _ (.r a) _ (t1.trans t2) s2 rfl (q a ma)) x
end

/-! ### operators that make lists of our own -/
theorem Post.own {G : Ctx} {H : Hp} {m : Mu} {R : DV → Mu → Prop} {Q : VK} (p : Post G H m R Q) (s : S0 G H m) {a : Addr} (ha : H a = none) {vs : List V} {xs : List D} (r : RpL (fz H m) vs xs) (k : ∀ b, m b = none → R (.r b) (mset m b (.lst xs))) : Q (.ref a) (upd H a (.lst vs)) := by
  have ma := s.free ha
  obtain ⟨s2, t2⟩ := s.put (p := a) (o := .lst vs) (x := .lst xs) (by rw [fz_none ma]; exact ha) ⟨_, upd_same, r⟩
  exact p _ _ (.r a) _ t2 s2 rfl (k a ma)
def mulO : F2
  | .d (.lst xs), .d (.int k), m, R => 0 ≤ k ∧ k ≤ 100000 ∧ xs.length * k.toNat ≤ 100000 ∧ ∀ a, m a = none → R (.r a) (mset m a (.lst (List.replicate k.toNat xs).flatten))
  | _, _, _, _ => False
def addO : F2
  | .d (.lst xs), .d (.lst ys), m, R => xs.length + ys.length ≤ 100000 ∧ ∀ a, m a = none → R (.r a) (mset m a (.lst (xs ++ ys)))
  | _, _, _, _ => False
def listO : FN
  | [.d (.lst xs)], m, R => ∀ a, m a = none → R (.r a) (mset m a (.lst xs))
  | [.d (.tup xs)], m, R => ∀ a, m a = none → R (.r a) (mset m a (.lst xs))
  | [.r b], m, R => ∃ xs, m b = some (.lst xs) ∧ ∀ a, m a = none → R (.r a) (mset m a (.lst xs))
  | _, _, _ => False
section
variable {X : Cx} {G : Ctx}
theorem or_mulO : OpR X (binaryOp .Mult) (rD2 G mulO) := by
  intro pins s σ H x y v u Q I rx ry h
  obtain ⟨dx, dy, m, R, s0, r1, r2, h, p⟩ := h
  unfold mulO at h
  split at h
  · cases r2
    cases r1 with
    | lst h1 h2 =>
      exact op_rep pins s σ H _ _ v u Q I rx ry ⟨_, _, _, rfl, rfl, fz_ex _ _ h1, by omega, by omega, sz_of (by rw [h2.length]; exact h.2.2.1), fun a ha => p.own s0 ha (h2.rep _) h.2.2.2⟩
  · exact h.elim
theorem or_addO : OpR X (binaryOp .Add) (rD2 G addO) := by
  intro pins s σ H x y v u Q I rx ry h
  obtain ⟨dx, dy, m, R, s0, r1, r2, h, p⟩ := h
  unfold addO at h
  split at h
  · cases r1 with
    | lst h1 h2 =>
      cases r2 with
      | lst h3 h4 =>
        exact op_cat pins s σ H _ _ v u Q I rx ry ⟨_, _, _, _, rfl, rfl, fz_ex _ _ h1, fz_ex _ _ h3, sz_of (by rw [h2.length, h4.length]; exact h.1), fun a ha => p.own s0 ha (h2.app h4) h.2⟩
  · exact h.elim
theorem cr_listO : CallR X (.type "list") (rDn G listO) := by
  intro pins s σ H xs us Q I r h
  obtain ⟨dx, m, R, s0, r1, h, p⟩ := h
  unfold listO at h
  split at h
  · cases r1 with
    | cons q1 q2 =>
      cases q2
      cases q1 with
      | lst h1 h2 => exact call_list_of pins s σ H _ us Q I r ⟨_, _, rfl, .inl (SqL.of (fz_ex _ _ h1)), fun l hl => p.own s0 hl h2 h⟩
  · cases r1 with
    | cons q1 q2 =>
      cases q2
      cases q1 with
      | tup h1 h2 => exact call_list_of pins s σ H _ us Q I r ⟨_, _, rfl, .inr (SqT.of (fz_ex _ _ h1)), fun l hl => p.own s0 hl h2 h⟩
  · obtain ⟨xs, e, h⟩ := h
    cases r1 with
    | cons q1 q2 =>
      cases q2
      cases q1
      obtain ⟨vs, h1, h2⟩ := s0 _ _ e
      exact call_list_of pins s σ H _ us Q I r ⟨_, _, rfl, .inl (SqL.of h1), fun l hl => p.own s0 hl h2 h⟩
  · exact h.elim
end

/-! ### methods of lists -/
abbrev FM := DV → List DV → Mu → (DV → Mu → Prop) → Prop
def rDM (G : Ctx) (f : FM) : V → List V → Hp → VK → Prop := fun x xs H Q => ∃ dx es m R, S0 G H m ∧ RV G (fz H m) x dx ∧ RVs G (fz H m) xs es ∧ f dx es m R ∧ Post G H m R Q
def isL : DV → Mu → Prop
  | .d (.lst _), _ => True
  | .r a, m => ∃ xs, m a = some (.lst xs)
  | _, _ => False
theorem isL_ty {G : Ctx} {H : Hp} {m : Mu} {v : V} {d : DV} (s : S0 G H m) (r : RV G (fz H m) v d) (h : isL d m) : tyV G.K "list" v H := by
  unfold isL at h
  split at h
  · cases r with
    | lst h1 h2 => exact .inl ⟨rfl, _, SqL.of (fz_ex _ _ h1)⟩
  · obtain ⟨xs, e⟩ := h
    cases r
    obtain ⟨vs, h1, h2⟩ := s _ _ e
    exact .inl ⟨rfl, _, SqL.of h1⟩
  · exact h.elim
section
variable {G : Ctx} {W : WX} {ds : DS} {m : Mu} {R : DV → Mu → Prop} {XR : Tag → Mu → Prop} {te : TE} {t : TA} {f : FM}
theorem ev_bmL (h : EvD G W te ds m (fun x m1 => isL x m1 ∧ EvA G W t ds m1 (fun es m2 => f x es m2 R) XR) XR) : EvD G W (tBM G.K "list" (rDM G f) te t) ds m R XR := fun σ H Q s r p x =>
  h σ H _ s r (fun v H1 d m1 t1 s1 r1 ⟨hl, q1⟩ => ⟨isL_ty s1 r1 hl, q1 σ H1 _ s1 (r.mono t1) (fun vs H2 es m2 t2 s2 r2 q2 => ⟨d, es, m2, R, s2, r1.mono t2, r2, q2, p.tr (t1.trans t2)⟩) (x.tr t1)⟩) x
theorem ev_bmL0 (h : EvD G W te ds m (fun x m1 => isL x m1 ∧ f x [] m1 R) XR) : EvD G W (tBM0 G.K "list" (rDM G f) te) ds m R XR := fun σ H Q s r p x =>
  h σ H _ s r (fun v H1 d m1 t1 s1 r1 ⟨hl, q1⟩ => ⟨isL_ty s1 r1 hl, d, [], m1, R, s1, r1, .nil, q1, p.tr t1⟩) x
end
def appendF : FM
  | .r a, [.d v], m, R => ∃ xs, m a = some (.lst xs) ∧ xs.length < 100000 ∧ R (.d .non) (mset m a (.lst (xs ++ [v])))
  | _, _, _, _ => False
def extendF : FM
  | .r a, [.d (.lst ys)], m, R => ∃ xs, m a = some (.lst xs) ∧ xs.length + ys.length ≤ 100000 ∧ R (.d .non) (mset m a (.lst (xs ++ ys)))
  | _, _, _, _ => False
def popF : FM
  | .r a, [], m, R => ∃ xs x, m a = some (.lst (xs ++ [x])) ∧ R (.d x) (mset m a (.lst xs))
  | _, _, _, _ => False
def countF : FM := fun x es m R => ∃ v ys, es = [.d v] ∧ vw m x = some (.lst ys) ∧ (∀ y ∈ ys, Sh 62 y) ∧ Sh 63 v ∧ R (.d (.int (ys.countP fun y => eqD y v : Nat))) m
def indexF : FM
  | x, [.d v], m, R => ∃ ys, vw m x = some (.lst ys) ∧ (∀ y ∈ ys, Sh 62 y) ∧ Sh 63 v ∧ ∃ j, ys.findIdx? (fun y => eqD y v) = some j ∧ R (.d (.int (j : Nat))) m
  | _, _, _, _ => False
section
variable {X : Cx} {G : Ctx}
theorem mt_appendD : MtR X "list.append" (rDM G appendF) := by
  intro pins s σ H x xs v us Q I rx rxs h
  obtain ⟨dx, es, m, R, s0, r1, r2, h, p⟩ := h
  unfold appendF at h
  split at h
  · obtain ⟨ys, e, hz, h⟩ := h
    cases r1
    cases r2 with
    | cons q1 q2 =>
      cases q2
      obtain ⟨vs, h1, h2⟩ := s0 _ _ e
      refine mt_append pins s σ H _ _ v us Q I rx rxs ⟨_, _, _, rfl, rfl, h1, sz_lt (by rw [h2.length]; exact hz), ?_⟩
      obtain ⟨s4, t4⟩ := s0.put (o := .lst (vs ++ [_])) (x := .lst (ys ++ [_])) (fz_some e) ⟨_, upd_same, h2.app (RpL.one q1)⟩
      exact p _ _ _ _ t4 s4 (RV.dat Rp.non) h
  · exact h.elim
theorem mt_extendD : MtR X "list.extend" (rDM G extendF) := by
  intro pins s σ H x xs v us Q I rx rxs h
  obtain ⟨dx, es, m, R, s0, r1, r2, h, p⟩ := h
  unfold extendF at h
  split at h
  · obtain ⟨ys, e, hz, h⟩ := h
    cases r1
    cases r2 with
    | cons q1 q2 =>
      cases q2
      cases q1 with
      | lst a1 a2 =>
        obtain ⟨vs, h1, h2⟩ := s0 _ _ e
        refine mt_extend pins s σ H _ _ v us Q I rx rxs ⟨_, _, _, _, rfl, rfl, h1, fz_ex _ _ a1, sz_of (by rw [h2.length, a2.length]; exact hz), ?_⟩
        obtain ⟨s4, t4⟩ := s0.put (o := .lst (vs ++ _)) (x := .lst (ys ++ _)) (fz_some e) ⟨_, upd_same, h2.app a2⟩
        exact p _ _ _ _ t4 s4 (RV.dat Rp.non) h
  · exact h.elim
theorem RpL.snoc {F : Hp} : ∀ {ys : List D} {vs : List V} {y : D}, RpL F vs (ys ++ [y]) → ∃ ws w, vs = ws ++ [w] ∧ RpL F ws ys ∧ Rp F w y
  | [], _, _, .cons h .nil => ⟨[], _, rfl, .nil, h⟩
  | z :: ys, _, y, .cons h t => by
    obtain ⟨ws, w, rfl, h1, h2⟩ := RpL.snoc (ys := ys) t
    exact ⟨_ :: ws, w, rfl, .cons h h1, h2⟩
theorem mt_popD : MtR X "list.pop" (rDM G popF) := by
  intro pins s σ H x xs v us Q I rx rxs h
  obtain ⟨dx, es, m, R, s0, r1, r2, h, p⟩ := h
  unfold popF at h
  split at h
  · obtain ⟨ys, y, e, h⟩ := h
    cases r1
    cases r2
    obtain ⟨vs, h1, h2⟩ := s0 _ _ e
    obtain ⟨ws, w, rfl, h3, h4⟩ := h2.snoc
    refine mt_pop pins s σ H _ _ v us Q I rx rxs ⟨_, _, w, rfl, rfl, h1, by simp, ?_⟩
    rw [List.dropLast_concat]
    obtain ⟨s4, t4⟩ := s0.put (o := .lst ws) (x := .lst ys) (fz_some e) ⟨_, upd_same, h3⟩
    exact p _ _ _ _ t4 s4 (RV.dat (Rp.mono t4 _ _ h4)) h
  · exact h.elim
theorem toPys_get : ∀ {xs : List D} {i : Nat} {z : PyData}, (toPys xs)[i]? = some z → ∃ x, xs[i]? = some x ∧ z = toPy x := fun {xs i z} h => by
  rw [toPys_map, List.getElem?_map] at h
  cases e : xs[i]? with
  | none => rw [e] at h; cases h
  | some x => rw [e] at h; exact ⟨x, rfl, (Option.some.inj h).symm⟩
theorem mt_indexF (hu : X.A.units + 65 < cLine) : MtR X "list.index" (rDM G indexF) := by
  intro pins s σ H x xs v us Q I rx rxs h
  obtain ⟨dx, es, m, R, s0, r1, r2, h, p⟩ := h
  unfold indexF at h
  split at h
  · obtain ⟨ys, e, h1, h2, j, hj, h⟩ := h
    cases r2 with
    | cons q1 q2 =>
      cases q2
      have rr := vw_rp s0 r1 e
      obtain ⟨hjl, hj1, hj2⟩ := List.findIdx?_eq_some_iff_getElem.mp hj
      cases rr with
      | lst a1 a2 =>
        have z := Rp.dp (K := X.K) _ _ (Rp.lst a1 a2)
        rw [toPy] at z
        have sh := (Sh.lst h1).shaped
        rw [toPy] at sh
        refine mt_indexD hu pins s σ H _ _ v us Q I rx rxs ⟨_, _, toPy _, toPys ys, j, toPy ys[j], rfl, rfl, z, Rp.dp _ _ (Rp.mono fz_ex _ _ q1), sh, h2.shaped, ?_, hj1, fun k z' hk hz => ?_, p.here s0 (RV.dat (Rp.int _)) h⟩
        · rw [toPys_map, List.getElem?_map, List.getElem?_eq_getElem hjl]
          rfl
        · obtain ⟨y, e1, rfl⟩ := toPys_get hz
          have k2 := hj2 k hk
          obtain ⟨hkl, e2⟩ := List.getElem?_eq_some_iff.mp e1
          rw [e2] at k2
          simpa [eqD] using k2
  · exact h.elim
end
end Lb

/-! Lb5: contracts, calls, raise, isinstance, an error that is kept. -/
namespace Lb
open PySem L2

/-! ### contracts -/
abbrev SpD := List DV → Mu → (DV → Mu → Prop) → (Tag → Mu → Prop) → Prop
def spL (G : Ctx) (S : SpD) : Sp := fun vs H Q E => ∃ es m R XR, S0 G H m ∧ RVs G (fz H m) vs es ∧ S es m R XR ∧ Post G H m R Q ∧ XPost G H m XR E
def startD (n : Nat) (es : List DV) : DS := es.map some ++ List.replicate (n - es.length) none
theorem REnv.start {G : Ctx} {F : Hp} {N : List Str} : ∀ {vs : List V} {es : List DV}, RVs G F vs es → REnv G F (L2.start N vs) (startD N.length es) := fun {vs es} h => by
  have hl : vs.length = es.length := PySem.Paired.length h
  unfold L2.start startD
  refine ⟨by simp [hl], fun i d q => ?_⟩
  by_cases hi : i < es.length
  · rw [List.getElem?_append_left (by rw [List.length_map]; exact hi), List.getElem?_map] at q
    have key : ∀ {vs : List V} {es : List DV} {i : Nat} {d : DV}, RVs G F vs es → es[i]? = some d → ∃ v, vs[i]? = some v ∧ RV G F v d := by
      intro vs es i d h
      induction h generalizing i with
      | nil => intro e; simp at e
      | cons r t ih =>
        cases i with
        | zero => intro e; simp at e; subst e; exact ⟨_, rfl, r⟩
        | succ i => intro e; simp at e; simpa using ih e
    cases e : es[i]? with
    | none => rw [e] at q; cases q
    | some d' =>
      rw [e] at q
      cases q
      obtain ⟨v, h1, h2⟩ := key h e
      exact ⟨v, by rw [List.getElem?_append_left (by rw [List.length_map, hl]; exact hi), List.getElem?_map, h1]; rfl, h2⟩
  · rw [List.getElem?_append_right (by rw [List.length_map]; omega), List.getElem?_replicate] at q
    split at q <;> cases q
/-- what a def's reading must do -/
def BodyD (G : Ctx) (n : Nat) (rd : WX → TS) (S : SpD) : Prop := ∀ (W : WX) (es : List DV) (m : Mu) (R : DV → Mu → Prop) (XR : Tag → Mu → Prop), S es m R XR →
  StD G W (rd W) (startD n es) m { nx := fun _ m' => R (.d .non) m', rt := R } (fun t _ m' => XR t m')
/-- a def's promise by its reading -/
theorem fn_D {P : Program} {w : World} {mg : Str → Option Value} {base : Heap} {G : Ctx} {x qual : Str} {st : Stmt} {f : Addr} {fd : FuncData} {N ps : List Str} {k : Nat} {S : SpD} {rd : WX → TS} (F : Fun G.K x qual st f fd) (sc : FnScope N ps (defScope st))
    (len : ∀ es m R XR, S es m R XR → es.length = ps.length) (sem : BodyD G N.length rd S)
    (hbody : ∀ (cdv : Value) (A : Around) (outer : List Env) (s : Shared) (H : Hp) (E : XK), Room k (A.deeper (PyProof.Rows.envOfC qual (defScope st) s.heap.objs.size f cdv)) →
      PSs (cxOf (L2.CX P w) P w G.K mg base N qual (defScope st) f cdv A outer s H E) (defBody st) (rd fun c d _ H' => E c d H')) : FnOk P w G.K mg base (L2.CX P w) (k + 1) f fd ps (spL G S) := by
  refine F.okX sc (fun vs H Q E h => ?_) (fun cdv A outer s H vs Q E hr h => ⟨_, hbody cdv A outer s H E hr, ?_⟩)
  · obtain ⟨es, m, R, XR, _, h2, h3, _⟩ := h
    rw [PySem.Paired.length h2]
    exact len es m R XR h3
  · obtain ⟨es, m, R, XR, h1, h2, h3, h4, h5⟩ := h
    exact sem (fun c d _ H' => E c d H') es m R XR h3 _ H _ h1 (REnv.start h2) ⟨fun σ H' ds m' t s' _ q => h4 _ H' _ m' t s' (RV.dat Rp.non) q, h4, fun _ _ _ _ _ _ _ z => z.elim, fun _ _ _ _ _ _ _ z => z.elim, fun t ht σ H' ds m' tr s' _ q => h5 t ht H' m' tr s' q⟩
section
variable {G : Ctx} {W : WX} {ds : DS} {m : Mu} {R : DV → Mu → Prop} {XR : Tag → Mu → Prop} {t : TA} {S : SpD}
theorem ev_call (h : EvA G W t ds m (fun es m1 => S es m1 R XR) XR) : EvD G W (tCallS (spL G S) (WE W) t) ds m R XR := fun σ H Q s r p x =>
  h σ H _ s r (fun vs H1 es m1 t1 s1 r1 q1 => ⟨es, m1, R, XR, s1, r1, q1, p.tr t1, x.tr t1⟩) x
end
/-- raise -/
def tRaise (W : WX) (b : Bool) (C : Addr) : TS := fun _ σ H => b = true → W (.ref C) none σ H
theorem st_raise {G : Ctx} {W : WX} {ds : DS} {m : Mu} {N : EndsD} {XR : Tag → DS → Mu → Prop} {t : Tag} (k : XR t ds m) : StD G W (tRaise W (G.has t) (G.ex t)) ds m N XR := fun σ H E s r p hh => p.xe t hh σ H ds m (Ex.refl _) s r k
theorem ps_raiseD {X : Cx} {W : WX} {x z : Str} {j : Nat} {p p2 pos pos' : Pos} {C : Addr} {b : Bool} (hc : X.calm = true) (tk : Takes X W) (hb : b = true) (q : PySem.W.excIn X.K C [.type "ValueError", .type "Exception", .type "BaseException", .type "object"] "ValueError.__new__" = true) (gC : X.mg x = some (.ref C)) (kC : PySem.W.keepIn X.K (.ref C) = true) (b1 : PySem.W.subIn X.K (.ref C) (.type "BaseException") = some true) (ty : PySem.W.typeIn X.K (.ref C) = some (.type "type"))
    (hg : Gl X x) (hdb : (x == ("__debug__" : Str)) = false := by decide) : PS X (.Raise (some (.Call (.Name x p) [.Constant (.str z) j p2] [] pos)) none pos') (tRaise W b C) := by
  have k := ps_raise hc tk (pmk_own PySem.F.excBase_ValueError q gC kC (raises_own b1 ty) hg hdb) (pos := pos') (e := .Call (.Name x p) [.Constant (.str z) j p2] [] pos)
  exact ⟨fun pins s σ H D I h => k.run pins s σ H D I (h hb)⟩

/-! ### isinstance -/
def tyD : DV → Mu → Option String
  | .d .non, _ => some "NoneType"
  | .d (.bl _), _ => some "bool"
  | .d (.int _), _ => some "int"
  | .d (.str _), _ => some "str"
  | .d (.lst _), _ => some "list"
  | .d (.tup _), _ => some "tuple"
  | .r a, m => match m a with
    | some (.lst _) => some "list"
    | _ => none
  | .scr _, _ => none
theorem tyD_of {G : Ctx} {H : Hp} {m : Mu} {v : V} {d : DV} {T : String} (s : S0 G H m) (r : RV G (fz H m) v d) (h : tyD d m = some T) : TyX G.K H v (.type T) := by
  unfold tyD at h
  split at h
  · cases h; cases r; exact .base .non
  · cases h; cases r; exact .base (.bl _)
  · cases h; cases r; exact .base (.int _)
  · cases h; cases r; exact .base (.str _)
  · cases h
    cases r with
    | lst h1 h2 => exact .base (.lst (fz_ex _ _ h1))
  · cases h
    cases r with
    | tup h1 h2 => exact .base (.tup (fz_ex _ _ h1))
  · split at h
    · rename_i e
      cases h
      cases r
      obtain ⟨vs, h1, h2⟩ := s _ _ e
      exact .base (.lst h1)
    · cases h
  · cases h
/-- isinstance(e, T), T a built-in class -/
def rIsB (G : Ctx) (T : String) : List V → Hp → VK → Prop := fun xs H Q => ∃ x dx m, xs = [x, .ty T] ∧ S0 G H m ∧ RV G (fz H m) x dx ∧ ∃ U b, tyD dx m = some U ∧ kitB U T = some b ∧ Q (.bl b) H
theorem cr_isB {X : Cx} {G : Ctx} (hK : X.K = G.K) {T : String} : CallR X (.builtin "isinstance") (rIsB G T) := by
  intro pins s σ H xs us Q I r h
  obtain ⟨x, dx, m, rfl, s0, r1, U, b, e1, e2, q⟩ := h
  exact call_isi pins s σ H _ us Q I r ⟨_, _, .type U, .type T, b, rfl, .ty T, by rw [hK]; exact tyD_of s0 r1 e1, kit_ty e2, q⟩
theorem ev_isB {G : Ctx} {W : WX} {ds : DS} {m : Mu} {R : DV → Mu → Prop} {XR : Tag → Mu → Prop} {te : TE} {T : String} (h : EvD G W te ds m (fun d m1 => ∃ U b, tyD d m1 = some U ∧ kitB U T = some b ∧ R (.d (.bl b)) m1) XR) :
    EvD G W (tCB (rIsB G T) (tCons te (tCons (tC (.ty T)) tNil))) ds m R XR := fun σ H Q s r p x =>
  h σ H _ s r (fun v H1 d m1 t1 s1 r1 ⟨U, b, e1, e2, q⟩ => ⟨v, d, m1, rfl, s1, r1, U, b, e1, e2, p _ H1 _ m1 t1 s1 (RV.dat (Rp.bl _)) q⟩) x
/-- the classes of errors, as the top has made them -/
structure ExcT (G : Ctx) : Prop where
  ec : ∀ t, G.has t = true → ExcC G.K (G.ex t)
  kit : ∀ t u, G.has t = true → G.has u = true → PySem.W.kitOne G.K (.ref (G.ex t)) (.ref (G.ex u)) = some (decide (t = u))
  val : ∀ t, G.has t = true → PySem.W.kitOne G.K (.ref (G.ex t)) (.type "ValueError") = some true
def isEF (u : Tag) : DV → Mu → (DV → Mu → Prop) → Prop
  | .r a, m, R => ∃ t, m a = some (.exc t) ∧ R (.d (.bl (decide (t = u)))) m
  | _, _, _ => False
def isVF : DV → Mu → (DV → Mu → Prop) → Prop
  | .r a, m, R => ∃ t, m a = some (.exc t) ∧ R (.d (.bl true)) m
  | _, _, _ => False
/-- isinstance(e, C), e an error of ours -/
def rIsE1 (G : Ctx) (c : V) (f : DV → Mu → (DV → Mu → Prop) → Prop) : List V → Hp → VK → Prop := fun xs H Q => ∃ x dx m R, xs = [x, c] ∧ S0 G H m ∧ RV G (fz H m) x dx ∧ f dx m R ∧ Post G H m R Q
theorem isE_at {X : Cx} {G : Ctx} (hK : X.K = G.K) {pins : List (Addr × Obj)} {s : Shared} {σ : L2.St} {H : Hp} (I : L2.Inv X pins σ H s) {a C : Addr} (h : H a = some (ExA C a)) (ec : ExcC X.K C) {cv : Value} {b : Bool} (e : PySem.W.kitOne X.K (.ref C) cv = some b) {Q : VK} (q : Q (.bl b) H) :
    wpAny (model X.prog X.w) X.A (call (.builtin "isinstance") [.ref a, cv]) (EP X pins σ Q) X.xe s := by
  obtain ⟨⟨oe, hget, hz, vs, hv⟩, _, _⟩ := I.hok a _ h
  have J : PySem.W.InstAt s.heap a oe C none := by
    obtain ⟨oc, od, oda, osl⟩ := oe
    obtain ⟨z1, z2⟩ := hz
    dsimp only at z1 z2 hv
    subst z1 z2 hv
    exact ⟨hget, rfl, rfl, trivial⟩
  exact PySem.W.kia_one (PySem.W.handS_kitx_exc ec.hg ec.hk ec.hs ec.hd ec.ha ec.hn ec.ht ec.hm) I.kIn J e (fun z => nomatch z) fun tk => ⟨.bl b, H, I.kept (t' := tk) fun _ _ z => z, rfl, q⟩
theorem cr_isE {X : Cx} {G : Ctx} (hK : X.K = G.K) (T : ExcT G) (u : Tag) (hu : G.has u = true) : CallR X (.builtin "isinstance") (rIsE1 G (.ref (G.ex u)) (isEF u)) := by
  intro pins s σ H xs us Q I r h
  obtain ⟨x, dx, m, R, rfl, s0, r1, h, p⟩ := h
  obtain ⟨u1, u2, rfl, q1, q2⟩ := vals2 r
  cases q2
  unfold isEF at h
  split at h
  · obtain ⟨t, e, h⟩ := h
    cases r1
    cases q1
    exact isE_at hK I (s0 _ _ e).1 (by rw [hK]; exact T.ec t (s0 _ _ e).2) (by rw [hK]; exact T.kit t u (s0 _ _ e).2 hu) (p.here s0 (RV.dat (Rp.bl _)) h)
  · exact h.elim
theorem cr_isV {X : Cx} {G : Ctx} (hK : X.K = G.K) (T : ExcT G) : CallR X (.builtin "isinstance") (rIsE1 G (.ty "ValueError") isVF) := by
  intro pins s σ H xs us Q I r h
  obtain ⟨x, dx, m, R, rfl, s0, r1, h, p⟩ := h
  obtain ⟨u1, u2, rfl, q1, q2⟩ := vals2 r
  cases q2
  unfold isVF at h
  split at h
  · obtain ⟨t, e, h⟩ := h
    cases r1
    cases q1
    exact isE_at hK I (s0 _ _ e).1 (by rw [hK]; exact T.ec t (s0 _ _ e).2) (by rw [hK]; exact T.val t (s0 _ _ e).2) (p.here s0 (RV.dat (Rp.bl _)) h)
  · exact h.elim
theorem ev_isE {G : Ctx} {W : WX} {ds : DS} {m : Mu} {R : DV → Mu → Prop} {XR : Tag → Mu → Prop} {te : TE} {c : V} {f : DV → Mu → (DV → Mu → Prop) → Prop} (h : EvD G W te ds m (fun d m1 => f d m1 R) XR) :
    EvD G W (tCB (rIsE1 G c f) (tCons te (tCons (tC c) tNil))) ds m R XR := fun σ H Q s r p x =>
  h σ H _ s r (fun v H1 d m1 t1 s1 r1 q => ⟨v, d, m1, R, rfl, s1, r1, q, p.tr t1⟩) x
end Lb

/-! Lb6: try: .. except X as e: kept = e: the error is kept as an object of ours. -/
namespace Lb
open PySem L2

/-- an object that was made behind the entry is tracked from now on -/
theorem adopt {X : Cx} {pins : List (Addr × Obj)} {σ : L2.St} {H : Hp} {s : Shared} {a : Addr} {o : HO} {oe : Obj} {vs : Array Value} (I : L2.Inv X pins σ H s) (h1 : s.heap.get? a = some oe) (h2 : oe.data = .fields vs) (hn : H a = none) (h0 : X.s_0.heap.get? a = none) (hL : a ≠ X.env.locals) (hp : ∀ p ∈ X.pn ++ pins, p.1 ≠ a)
    (new : ObjOk X.prog X.w (upd H a o) s.heap a o) : L2.Inv X pins σ (upd H a o) s := by
  have n0 : ∀ b ob, X.s_0.heap.get? b = some ob → b ≠ a := fun b ob e z => by rw [z, h0] at e; cases e
  have nc : ∀ x c, X.env.cells.lookup x = some c → c ≠ a := fun x c e z => by
    obtain ⟨v, oc, g1, g2⟩ := I.cell x c e
    rw [z, h1] at g1
    cases g1
    rw [h2] at g2
    cases g2
  have ub := I.base
  exact {
    ok := I.ok
    os := I.os
    bare := I.bare
    base := {
      keep := ub.keep
      slot := ub.slot
      free := fun b ob e n hx => by rw [upd_ne (n0 b ob e)]; exact ub.free b ob e n hx
      there := ub.there
      tups := fun b xs e => by have q := ub.tups b xs e; rw [upd_ne (ne_of_none q hn)]; exact q
      frzs := fun b ob u e => by have q := ub.frzs b ob u e; rw [upd_ne (ne_of_none q hn)]; exact q
      tbls := fun b ps e => by obtain ⟨k, q⟩ := ub.tbls b ps e; exact ⟨k, by rw [upd_ne (ne_of_none q hn)]; exact q⟩ }
    loc := I.loc
    cell := I.cell
    free := by rw [upd_ne (Ne.symm hL)]; exact I.free
    freeC := fun x c e => by rw [upd_ne (nc x c e)]; exact I.freeC x c e
    pin := fun p q => by
      obtain ⟨g1, g2, g3⟩ := I.pin p q
      exact ⟨g1, by rw [upd_ne (hp p q)]; exact g2, g3⟩
    hok := I.hok.laidN (fun _ _ z => z) hn new
    len := I.len }
theorem exA_ok {P : Program} {w : World} {H : Hp} {h : Heap} {a C : Addr} {oe : Obj} {vs : Array Value} (e : h.get? a = some oe) (z : Zc (.ref C) none oe) (d : oe.data = .fields vs) : ObjOk P w H h a (ExA C a) :=
  ⟨⟨oe, e, z, vs, d⟩, ⟨oe, e⟩, fun _ _ ⟨o, q, r⟩ k => ⟨o, k o q, r⟩⟩
/-- what is wished of an error in the body: it is kept at slot i through the suite, and tracked behind it -/
def wKeep (K : PySem.W.Frag) (c : Value) (i : Nat) (ts : Addr → TS) (D : Ends) : WX := fun cls d σ H =>
  ∃ C, cls = .ref C ∧ d = none ∧ PySem.W.exmOne K cls c = some true ∧ ∀ a, H a = none → ts a { nx := fun σ' H' => H' a = none → D.nx (σ'.set i none) (upd H' a (ExA C a)), rt := fun _ _ => False } (σ.set i (some (.ref a))) H
section
variable {X : Cx} {x n : Str} {c : Value} {i : Nat} {body suite : List Stmt} {st0 : Stmt} {np pos posh : Pos} {tb : WX → TS} {ts : Addr → TS}
open PySem.Spec PyProof.Rows in
theorem ps_tryK (hst : X.stack = X.env :: X.outer) (hfr0 : X.env.frame = some X.env.locals) (hex : X.ex = []) (hN : X.N.Nodup) (hi : X.N[i]? = some n) (hln : X.env.kindOf n = some .local) (hc : Names X x c)
    (hb : ∀ (W : WX) (pn : List (Addr × Obj)) (xe : Value → Shared → Prop), Takes (X.tr pn xe) W → PassesOwn (model X.prog X.w) X.A X.env xe → PSs (X.tr pn xe) body (tb W))
    (hsu : ∀ (a : Addr) (oe : Obj) (pn : List (Addr × Obj)), PSs (X.suite a ((a, oe) :: pn)) (st0 :: suite) (ts a)) :
    PS X (.Try body [.ExceptHandler (some (.Name x np)) (some n) (st0 :: suite) posh] [] [] pos) (fun D σ H => tb (wKeep X.K c i ts D) D σ H) := by
  refine ⟨fun pins s σ H D I h => wpAny_Try_except (wpAny_mono ((hb (wKeep X.K c i ts D) (X.pn ++ pins) _ (fun u z thrown => ?caught) PassesOwn.looking).run [] s σ H D (I.toTry _) h) (fun fl z ended => ?through) (fun _ _ q => q))⟩
  case through =>
    have ok := I.ok
    cases fl with
    | next => obtain ⟨σ2, H2, J, q⟩ := ended; exact wpAny_execs_nil ⟨σ2, H2, J.ofTry ok, q⟩
    | brk => obtain ⟨σ2, H2, J, q⟩ := ended; exact ⟨σ2, H2, J.ofTry ok, q⟩
    | cont => obtain ⟨σ2, H2, J, q⟩ := ended; exact ⟨σ2, H2, J.ofTry ok, q⟩
    | ret v => obtain ⟨w, σ2, H2, J, r, q⟩ := ended; exact ⟨w, σ2, H2, J.ofTry ok, r, q⟩
  case caught =>
    have ok := I.ok
    have frames : X.A.frames = some (X.env :: X.outer) := by rw [ok.frames, hst]
    obtain ⟨a, B, sI, pins2, σ2, H2, cls, dd, eu, JT, nb, up, sky, na, os, ag, C, rfl, rfl, exm, yes⟩ := thrown
    subst eu
    have J : L2.Inv X pins σ2 H2 sI := JT.ofTry ok
    rw [hst] at sky
    refine Sky.land Zc.steady frames hfr0 sky fun h3 fl3 up3 => ?_
    have J3 : L2.Inv X pins σ2 H2 { z with heap := h3 } := J.landed nb fl3.1 (up.trans up3) os ag
    obtain ⟨o3, v3, g3, z3, d3⟩ := fl3.there
    have nofr : a ∉ frs (X.env :: X.outer) := fun hm => by
      obtain ⟨_, o', e', hnf⟩ := fl3.2.2.1.mem hm
      rw [g3] at e'
      cases e'
      exact hnf _ d3
    have nL : a ≠ X.env.locals := fun q => nofr (List.mem_filterMap.mpr ⟨X.env, List.mem_cons_self, by rw [hfr0, q]⟩)
    have nF : a ∉ X.fs := fun hm => by
      obtain ⟨ev, he, q⟩ := List.mem_filterMap.mp hm
      exact nofr (List.mem_filterMap.mpr ⟨ev, List.mem_cons_of_mem _ he, q⟩)
    have sIa : sI.heap.get? a = none := by
      cases q : sI.heap.get? a with
      | none => rfl
      | some ob =>
        have q2 := nb a ob q (by rw [hst]; exact nofr)
        rw [fl3.2.1] at q2
        cases q2
    have s0a : X.s_0.heap.get? a = none := by
      cases q : X.s_0.heap.get? a with
      | none => rfl
      | some ob =>
        obtain ⟨o', q2⟩ := J.base.there a ob q (by rw [hex]; exact fun z => nomatch z)
        rw [sIa] at q2
        cases q2
    have npin : ∀ p ∈ X.pn ++ pins, p.1 ≠ a := fun p hp e => by
      have q := (J.pin p hp).1
      rw [e, sIa] at q
      cases q
    have S3 := J3.suite g3 d3 na nL nF
    refine wpAny_handleBy_cons (codeAny_handlers_test ?_) (fun q => nomatch q)
    have look : PySem.W.Looks (model X.prog X.w) h3 (typeOf (.ref a)) (.ref C) := fun A Q E s k q => wpAny_typeOf_ref (k _ _ g3) (by rw [z3.1]; exact q)
    have named : ∀ {Q : Value → Shared → Prop} {E : Value → Shared → Prop}, Q c { z with heap := h3 } → wpAny (model X.prog X.w) (X.A.mark (some (.ref a))) (eval (.Name x np) X.env) Q E { z with heap := h3 } := fun {Q E} q => by
      obtain ⟨hg, hdbg, hm | ⟨hm, hv, hnn⟩⟩ := hc
      · exact ld_glob (X := X.suite a ((a, o3) :: (X.pn ++ pins))) S3 hg hm q hdbg
      · exact ld_blt (X := X.suite a ((a, o3) :: (X.pn ++ pins))) S3 hg hm hv q hnn hdbg
    refine named ((PySem.W.exm_one (M := model X.prog X.w) J3.kIn look exm).here (codeAny_handlers_suite_as (HandSPX.lands_againZ fl3 fun h4 fl4 up4 => ?_)))
    have J4 : L2.Inv X pins σ2 H2 { z with heap := h4 } := J.landed nb fl4.1 ((up.trans up3).trans up4) os ag
    obtain ⟨o4, v4, g4, z4, d4⟩ := fl4.there
    refine store_ok (X := X.suite a ((a, o4) :: (X.pn ++ pins))) (v := .ref a) (J4.suite g4 d4 na nL nF) hN hi (.inl hln) rfl (fun s5 S5 => ?_) (.inr hln)
    refine wpAny_mono ((hsu a o4 (X.pn ++ pins)).run [] s5 _ H2 _ S5 (yes a na)) (fun fl s6 ended => ?_) (fun _ _ q => False.elim q)
    cases fl with
    | next =>
      obtain ⟨σ6, H6, S6, q6⟩ := ended
      obtain ⟨k1, k2, _⟩ := S6.pin (a, o4) (by rw [List.append_nil]; exact List.mem_cons_self)
      have K6 : L2.Inv X pins σ6 (upd H6 a (ExA C a)) s6 := adopt (S6.unsuite ok) k1 d4 k2 s0a nL npin (exA_ok k1 z4 d4)
      exact gone_ok K6 hN hi hln fun s7 K7 => ⟨_, _, K7, q6 k2⟩
    | brk => obtain ⟨_, _, _, q⟩ := ended; exact q.elim
    | cont => obtain ⟨_, _, _, q⟩ := ended; exact q.elim
    | ret v => obtain ⟨_, _, _, _, _, q⟩ := ended; exact q.elim
end
/-- the reading: the error's slot i, kept at slot j -/
def tTryK (K : PySem.W.Frag) (c : Value) (i j : Nat) (tb : WX → TS) : TS := fun D σ H => tb (wKeep K c i (fun _ => tAsg (tVar i) (gName j)) D) D σ H
theorem st_tryK {G : Ctx} {W : WX} {ds : DS} {m : Mu} {N : EndsD} {XR : Tag → DS → Mu → Prop} {i j : Nat} {c : Value} {tb : WX → TS} (hi : i < ds.length) (hij : i ≠ j) (hx : ∀ t, G.has t = true → PySem.W.exmOne G.K (.ref (G.ex t)) c = some true)
    (h : ∀ W', StD G W' (tb W') ds m N (fun t ds' m' => ds'.length = ds.length ∧ ∀ a, m' a = none → N.nx ((ds'.set j (some (.r a))).set i none) (mset m' a (.exc t)))) : StD G W (tTryK G.K c i j tb) ds m N XR := fun σ H E s r p =>
  h _ σ H E s r ⟨p.nx, p.rt, p.bk, p.ct, fun t ht σ2 H2 ds2 m2 t2 s2 r2 ⟨hl, q2⟩ => by
    refine ⟨G.ex t, rfl, rfl, hx t ht, fun a ha => ?_⟩
    have ma := s2.free ha
    have hlen : i < σ2.length := by rw [r2.len, hl]; exact hi
    refine ⟨.ref a, List.getElem?_set_self hlen, fun _ => ?_⟩
    obtain ⟨s3, t3⟩ := s2.put (p := a) (o := ExA (G.ex t) a) (x := .exc t) (by rw [fz_none ma]; exact ha) ⟨upd_same, ht⟩
    have e : (((σ2.set i (some (.ref a))).set j (some (.ref a))).set i none) = ((σ2.set j (some (.ref a))).set i none) := by
      rw [List.set_comm _ _ hij, List.set_set]
    show E.nx (((σ2.set i (some (.ref a))).set j (some (.ref a))).set i none) _
    rw [e]
    exact p.nx _ _ _ _ (t2.trans t3) s3 (((r2.mono t3).set j (show RV G _ (.ref a) (.r a) from rfl)).unset i) (q2 a ma)⟩
end Lb

/-! Lb7: the defs of a program, by name. -/
namespace Lb
open PySem L2

theorem pe_globI {X : Cx} {x : Str} {n : Int} {pos : Pos} (h : ∃ t, X.mg x = some (.int n t)) (hg : Gl X x) (hd : (x == ("__debug__" : Str)) = false := by decide) : PE X (.Name x pos) (tC (.int n)) := by
  obtain ⟨t, h⟩ := h
  exact pe_glob hg h ⟨t, rfl⟩ hd
theorem pe_globS {X : Cx} {x n : Str} {pos : Pos} (h : ∃ t, X.mg x = some (.str n t)) (hg : Gl X x) (hd : (x == ("__debug__" : Str)) = false := by decide) : PE X (.Name x pos) (tC (.str n)) := by
  obtain ⟨t, h⟩ := h
  exact pe_glob hg h ⟨t, rfl⟩ hd
/-- a def stands at its name -/
def DefAt (G : Ctx) (mg : Str → Option Value) (x qual : Str) (st : Stmt) (ps : List Str) : Prop := ∃ f fd, Fun G.K x qual st f fd ∧ Binds G.K fd ps [] ∧ mg x = some (.ref f)
/-- .. and keeps its promise -/
def FnF (P : Program) (G : Ctx) (mg : Str → Option Value) (base : Heap) (k : Nat) (x : Str) (ps : List Str) (S : SpD) : Prop :=
  ∃ f fd, FnOk P G.w G.K mg base (L2.CX P G.w) k f fd ps (spL G S) ∧ mg x = some (.ref f) ∧ PySem.W.keepIn G.K (.ref f) = true ∧ Binds G.K fd ps []
theorem fnF_mk {P : Program} {mg : Str → Option Value} {base : Heap} {G : Ctx} {x qual : Str} {st : Stmt} {N ps : List Str} {k : Nat} {S : SpD} {rd : WX → TS} (F : DefAt G mg x qual st ps) (sc : FnScope N ps (defScope st))
    (len : ∀ es m R XR, S es m R XR → es.length = ps.length) (sem : BodyD G N.length rd S)
    (hbody : ∀ (f : Addr) (cdv : Value) (A : Around) (outer : List Env) (s : Shared) (H : Hp) (E : XK), Room k (A.deeper (PyProof.Rows.envOfC qual (defScope st) s.heap.objs.size f cdv)) →
      PSs (cxOf (L2.CX P G.w) P G.w G.K mg base N qual (defScope st) f cdv A outer s H E) (defBody st) (rd fun c d _ H' => E c d H')) : FnF P G mg base (k + 1) x ps S := by
  obtain ⟨f, fd, F1, b, m⟩ := F
  exact ⟨f, fd, fn_D F1 sc len sem (hbody f), m, F1.kp, b⟩
theorem FnF.up {P : Program} {mg : Str → Option Value} {base : Heap} {G : Ctx} {x : Str} {ps : List Str} {j k : Nat} {S : SpD} (h : FnF P G mg base j x ps S) (hk : j ≤ k) : FnF P G mg base k x ps S := by
  obtain ⟨f, fd, F, r⟩ := h
  exact ⟨f, fd, F.mono hk, r⟩
theorem FnF.imp {P : Program} {mg : Str → Option Value} {base : Heap} {G : Ctx} {x : Str} {ps : List Str} {k : Nat} {S S' : SpD} (h : FnF P G mg base k x ps S) (hs : ∀ es m R XR, S' es m R XR → S es m R XR) : FnF P G mg base k x ps S' := by
  obtain ⟨f, fd, F, r⟩ := h
  exact ⟨f, fd, F.imp fun vs H Q E ⟨es, m, R, XR, a, b, c, d⟩ => ⟨es, m, R, XR, a, b, hs es m R XR c, d⟩, r⟩
theorem pe_callF {X : Cx} {G : Ctx} {W : WX} {k : Nat} {x : Str} {ps : List Str} {S : SpD} {p pos : Pos} {e : Expr} {es : List Expr} {t : TA} (h : FnF X.prog G X.mg X.base k x ps S) (hK : X.K = G.K) (hw : X.w = G.w) (hr : Room k X.A) (tk : Takes X W) (hg : Gl X x)
    (ha : PA X (e :: es) t) (hdb : (x == ("__debug__" : Str)) = false := by decide) (he : starEach (e :: es) X.env = (false, eval e X.env) :: starEach es X.env := by rfl) (hpl : (backTo pos (starEach es X.env)).any (·.1) = false := by rfl) :
    PE X (.Call (.Name x p) (e :: es) [] pos) (tCallS (spL G S) (WE W) t) := by
  obtain ⟨f, fd, F, m, kp, b⟩ := h
  rw [← hK, ← hw] at F
  rw [← hK] at kp b
  exact pe_callS F hr hg m kp b (fun σ => passAt tk σ) ha hdb he hpl
theorem pt_truD {X : Cx} {a : Expr} {ta : TE} (ha : PE X a ta) (he : ∀ whole, isTrue a X.env whole = (do let v ← whole; standAt a.pos; holding [v] (truthy v)) := by intro _; rfl) : PT X a (tTru X.K ta) := pt_truth ha he
theorem Room.u65 {k : Nat} {A : Around} (r : Room k A) : A.units + 65 < cLine := by have := r.un; omega
/-- the program's errors and where they stand -/
structure ErrAt (G : Ctx) (mg : Str → Option Value) (x : Str) (t : Tag) : Prop where
  h : G.has t = true
  g : mg x = some (.ref (G.ex t))
  q : PySem.W.excIn G.K (G.ex t) [.type "ValueError", .type "Exception", .type "BaseException", .type "object"] "ValueError.__new__" = true
  k : PySem.W.keepIn G.K (.ref (G.ex t)) = true
  b : PySem.W.subIn G.K (.ref (G.ex t)) (.type "BaseException") = some true
  ty : PySem.W.typeIn G.K (.ref (G.ex t)) = some (.type "type")
theorem ps_raiseE {X : Cx} {G : Ctx} {W : WX} {t : Tag} {x z : Str} {j : Nat} {p p2 pos pos' : Pos} (hc : X.calm = true) (tk : Takes X W) (hK : X.K = G.K) (e : ErrAt G X.mg x t) (hg : Gl X x) (hdb : (x == ("__debug__" : Str)) = false := by decide) :
    PS X (.Raise (some (.Call (.Name x p) [.Constant (.str z) j p2] [] pos)) none pos') (tRaise W (G.has t) (G.ex t)) := ps_raiseD hc tk e.h (by rw [hK]; exact e.q) e.g (by rw [hK]; exact e.k) (by rw [hK]; exact e.b) (by rw [hK]; exact e.ty) hg hdb
/-- boot -/
theorem bt_sum : bootBuiltins "sum" = some (.builtin "sum") := by decide +kernel
theorem bt_abs : bootBuiltins "abs" = some (.builtin "abs") := by decide +kernel
theorem bt_min : bootBuiltins "min" = some (.builtin "min") := by decide +kernel
theorem bt_max : bootBuiltins "max" = some (.builtin "max") := by decide +kernel
theorem bt_all : bootBuiltins "all" = some (.builtin "all") := by decide +kernel
theorem bt_any : bootBuiltins "any" = some (.builtin "any") := by decide +kernel
theorem bt_sorted : bootBuiltins "sorted" = some (.builtin "sorted") := by decide +kernel
theorem bt_isinstance : bootBuiltins "isinstance" = some (.builtin "isinstance") := by decide +kernel
theorem bt_list : bootBuiltins "list" = some (.type "list") := by decide +kernel
theorem bt_tuple : bootBuiltins "tuple" = some (.type "tuple") := by decide +kernel
theorem bt_int : bootBuiltins "int" = some (.type "int") := by decide +kernel
theorem bt_bool : bootBuiltins "bool" = some (.type "bool") := by decide +kernel
theorem bt_str : bootBuiltins "str" = some (.type "str") := by decide +kernel
theorem bt_set : bootBuiltins "set" = some (.type "set") := by decide +kernel
theorem bt_ValueError : bootBuiltins "ValueError" = some (.type "ValueError") := by decide +kernel
/-- ghost: a slot's list is data from now on -/
theorem st_frz {G : Ctx} {W : WX} {ds : DS} {m : Mu} {N : EndsD} {XR : Tag → DS → Mu → Prop} {t : TS} (i : Nat) {a : Addr} {xs : List D} (h : ds[i]? = some (some (.r a))) (hm : m a = some (.lst xs)) (k : StD G W t (ds.set i (some (.d (.lst xs)))) (mdel m a) N XR) : StD G W t ds m N XR := fun σ H E s r p => by
  obtain ⟨v, h1, h2⟩ := r.at_ i _ h
  cases h2
  obtain ⟨vs, e1, e2⟩ := s a _ hm
  obtain ⟨s', tr⟩ := s.del (p := a)
  have rv : RV G (fz H (mdel m a)) (.ref a) (.d (.lst xs)) := RV.dat (Rp.lst (by rw [fz_none mdel_same]; exact e1) (RpL.mono tr _ _ e2))
  have e : σ = σ.set i (some (.ref a)) := by
    apply List.ext_getElem?
    intro j
    by_cases hj : i = j
    · subst hj
      obtain ⟨hl, _⟩ := List.getElem?_eq_some_iff.mp h1
      rw [List.getElem?_set_self hl, h1]
    · rw [List.getElem?_set_ne hj]
  have r2 := (r.mono tr).set i rv
  rw [← e] at r2
  exact k σ H E s' r2 (p.tr tr)
/-- .. or a value's -/
theorem ev_fr {G : Ctx} {W : WX} {ds : DS} {m : Mu} {R : DV → Mu → Prop} {XR : Tag → Mu → Prop} {te : TE} (h : EvD G W te ds m (fun d m1 => ∃ a xs, d = .r a ∧ m1 a = some (.lst xs) ∧ R (.d (.lst xs)) (mdel m1 a)) XR) : EvD G W te ds m R XR := fun σ H Q s r p x =>
  h σ H _ s r (fun v H1 d m1 t1 s1 r1 ⟨a, xs, e, em, q⟩ => by
    subst e
    cases r1
    obtain ⟨vs, e1, e2⟩ := s1 a _ em
    obtain ⟨s', tr⟩ := s1.del (p := a)
    exact p _ H1 _ _ (t1.trans tr) s' (RV.dat (Rp.lst (by rw [fz_none mdel_same]; exact e1) (RpL.mono tr _ _ e2))) q) x
end Lb

/-! Lb8: data by kind, one step lemmas. -/
namespace Lb
open PySem L2
abbrev dInts (ns : List Int) : D := .lst (ns.map D.int)
abbrev dTup (ns : List Int) : D := .tup (ns.map D.int)
abbrev dQs (qs : List (List Int)) : D := .lst (qs.map dInts)
theorem eqD_int (a b : Int) : eqD (.int a) (.int b) = decide (a = b) := by
  unfold eqD toPy
  rw [PyData.eqv]
  exact Bool.beq_eq_decide_eq a b
theorem any_int (k : Int) : ∀ ns : List Int, ((ns.map D.int).any fun y => eqD y (.int k)) = decide (k ∈ ns)
  | [] => by simp
  | n :: ns => by
    rw [List.map_cons, List.any_cons, any_int k ns, eqD_int]
    by_cases h : k = n
    · subst h; simp
    · have h2 : ¬ n = k := fun e => h e.symm
      simp [h, h2]
theorem eqD_bl (a b : Bool) : eqD (.bl a) (.bl b) = (a == b) := by
  unfold eqD toPy
  rw [PyData.eqv]
theorem sh_int {n : Nat} {i : Int} : Sh n (.int i) := by unfold Sh; trivial
theorem sh_bl {n : Nat} {b : Bool} : Sh n (.bl b) := by unfold Sh; trivial
theorem sh_non {n : Nat} : Sh n .non := by unfold Sh; trivial
theorem sh_ints {n : Nat} {ns : List Int} : ∀ y ∈ ns.map D.int, Sh n y := fun y hy => by
  obtain ⟨i, _, rfl⟩ := List.mem_map.mp hy
  exact sh_int
theorem sh_dInts {n : Nat} {ns : List Int} : Sh (n + 1) (dInts ns) := by
  show ∀ x ∈ ns.map D.int, Sh n x
  exact sh_ints
theorem sh_dTup {n : Nat} {ns : List Int} : Sh (n + 1) (dTup ns) := by
  show ∀ x ∈ ns.map D.int, Sh n x
  exact sh_ints
/-- k in a list of numbers -/
theorem f_in {m : Mu} {R : DV → Mu → Prop} {k : Int} {ns : List Int} (h : R (.d (.bl (decide (k ∈ ns)))) m) : inF (.d (.int k)) (.d (dInts ns)) m R := by
  refine ⟨sh_int, sh_ints, ?_⟩
  rw [any_int]
  exact h
theorem f_add_i {m : Mu} {R : DV → Mu → Prop} {i j : Int} (h : R (.d (.int (i + j))) m) : addF (.d (.int i)) (.d (.int j)) m R := h
theorem f_add_s {m : Mu} {R : DV → Mu → Prop} {s t : Str} (h : s.length + t.length ≤ 100000 ∧ R (.d (.str (s ++ t))) m) : addF (.d (.str s)) (.d (.str t)) m R := h
theorem f_add_l {m : Mu} {R : DV → Mu → Prop} {xs ys : List D} (h : xs.length + ys.length ≤ 100000 ∧ R (.d (.lst (xs ++ ys))) m) : addF (.d (.lst xs)) (.d (.lst ys)) m R := h
theorem f_add_t {m : Mu} {R : DV → Mu → Prop} {xs ys : List D} (h : xs.length + ys.length ≤ 100000 ∧ R (.d (.tup (xs ++ ys))) m) : addF (.d (.tup xs)) (.d (.tup ys)) m R := h
theorem f_sub {m : Mu} {R : DV → Mu → Prop} {i j : Int} (h : R (.d (.int (i - j))) m) : subF (.d (.int i)) (.d (.int j)) m R := h
theorem f_mul_i {m : Mu} {R : DV → Mu → Prop} {i j : Int} (h : CMul i j ∧ R (.d (.int (i * j))) m) : mulF (.d (.int i)) (.d (.int j)) m R := h
theorem f_mul_l {m : Mu} {R : DV → Mu → Prop} {xs : List D} {k : Int} (h : 0 ≤ k ∧ k ≤ 100000 ∧ xs.length * k.toNat ≤ 100000 ∧ R (.d (.lst (List.replicate k.toNat xs).flatten)) m) : mulF (.d (.lst xs)) (.d (.int k)) m R := h
theorem f_mul_t {m : Mu} {R : DV → Mu → Prop} {xs : List D} {k : Int} (h : xs ≠ [] ∧ 2 ≤ k ∧ k ≤ 1000 ∧ xs.length ≤ 1000 ∧ R (.d (.tup (List.replicate k.toNat xs).flatten)) m) : mulF (.d (.tup xs)) (.d (.int k)) m R := h
theorem f_div {m : Mu} {R : DV → Mu → Prop} {i j : Int} (h : CDiv i j ∧ R (.d (.int (i / j))) m) : divF (.d (.int i)) (.d (.int j)) m R := h
theorem f_mod {m : Mu} {R : DV → Mu → Prop} {i j : Int} (h : 0 < j ∧ R (.d (.int (i % j))) m) : modF (.d (.int i)) (.d (.int j)) m R := h
theorem f_pow {m : Mu} {R : DV → Mu → Prop} {i j : Int} (h : CPow i j ∧ R (.d (.int (i ^ j.toNat))) m) : powF (.d (.int i)) (.d (.int j)) m R := h
theorem f_lt {m : Mu} {R : DV → Mu → Prop} {i j : Int} (h : R (.d (.bl (decide (i < j)))) m) : ltF (.d (.int i)) (.d (.int j)) m R := h
theorem f_le {m : Mu} {R : DV → Mu → Prop} {i j : Int} (h : R (.d (.bl (decide (i ≤ j)))) m) : leF (.d (.int i)) (.d (.int j)) m R := h
theorem f_gt {m : Mu} {R : DV → Mu → Prop} {i j : Int} (h : R (.d (.bl (decide (j < i)))) m) : gtF (.d (.int i)) (.d (.int j)) m R := h
theorem f_ge {m : Mu} {R : DV → Mu → Prop} {i j : Int} (h : R (.d (.bl (decide (j ≤ i)))) m) : geF (.d (.int i)) (.d (.int j)) m R := h
theorem f_eq_i {m : Mu} {R : DV → Mu → Prop} {i j : Int} (h : R (.d (.bl (decide (i = j)))) m) : eqF (.d (.int i)) (.d (.int j)) m R := ⟨sh_int, sh_int, by rw [eqD_int]; exact h⟩
theorem f_ne_i {m : Mu} {R : DV → Mu → Prop} {i j : Int} (h : R (.d (.bl (!decide (i = j)))) m) : neF (.d (.int i)) (.d (.int j)) m R := ⟨sh_int, sh_int, by rw [eqD_int]; exact h⟩
theorem f_eq_b {m : Mu} {R : DV → Mu → Prop} {i j : Bool} (h : R (.d (.bl (i == j))) m) : eqF (.d (.bl i)) (.d (.bl j)) m R := ⟨sh_bl, sh_bl, by rw [eqD_bl]; exact h⟩
theorem f_ne_b {m : Mu} {R : DV → Mu → Prop} {i j : Bool} (h : R (.d (.bl (i != j))) m) : neF (.d (.bl i)) (.d (.bl j)) m R := ⟨sh_bl, sh_bl, by rw [eqD_bl]; exact h⟩
theorem f_is_n {m : Mu} {R : DV → Mu → Prop} (h : R (.d (.bl true)) m) : isF (.d .non) (.d .non) m R := h
theorem f_isnot_n {m : Mu} {R : DV → Mu → Prop} (h : R (.d (.bl false)) m) : isnotF (.d .non) (.d .non) m R := h
theorem f_is_i {m : Mu} {R : DV → Mu → Prop} {i : Int} (h : R (.d (.bl false)) m) : isF (.d (.int i)) (.d .non) m R := h
theorem f_isnot_i {m : Mu} {R : DV → Mu → Prop} {i : Int} (h : R (.d (.bl true)) m) : isnotF (.d (.int i)) (.d .non) m R := h
theorem f_is_b {m : Mu} {R : DV → Mu → Prop} {c : Bool} (h : R (.d (.bl false)) m) : isF (.d (.bl c)) (.d .non) m R := h
theorem f_isnot_b {m : Mu} {R : DV → Mu → Prop} {c : Bool} (h : R (.d (.bl true)) m) : isnotF (.d (.bl c)) (.d .non) m R := h
theorem f_is_s {m : Mu} {R : DV → Mu → Prop} {s : Str} (h : R (.d (.bl false)) m) : isF (.d (.str s)) (.d .non) m R := h
theorem f_isnot_s {m : Mu} {R : DV → Mu → Prop} {s : Str} (h : R (.d (.bl true)) m) : isnotF (.d (.str s)) (.d .non) m R := h
theorem f_is_l {m : Mu} {R : DV → Mu → Prop} {xs : List D} (h : R (.d (.bl false)) m) : isF (.d (.lst xs)) (.d .non) m R := h
theorem f_isnot_l {m : Mu} {R : DV → Mu → Prop} {xs : List D} (h : R (.d (.bl true)) m) : isnotF (.d (.lst xs)) (.d .non) m R := h
theorem f_is_t {m : Mu} {R : DV → Mu → Prop} {xs : List D} (h : R (.d (.bl false)) m) : isF (.d (.tup xs)) (.d .non) m R := h
theorem f_isnot_t {m : Mu} {R : DV → Mu → Prop} {xs : List D} (h : R (.d (.bl true)) m) : isnotF (.d (.tup xs)) (.d .non) m R := h
theorem f_is_r {m : Mu} {R : DV → Mu → Prop} {a : Addr} (h : R (.d (.bl false)) m) : isF (.r a) (.d .non) m R := h
theorem f_isnot_r {m : Mu} {R : DV → Mu → Prop} {a : Addr} (h : R (.d (.bl true)) m) : isnotF (.r a) (.d .non) m R := h
theorem f_is {m : Mu} {R : DV → Mu → Prop} {x : DV} (h : R (.d (.bl (isNon x))) m) : isF x (.d .non) m R := h
theorem f_isnot {m : Mu} {R : DV → Mu → Prop} {x : DV} (h : R (.d (.bl (!isNon x))) m) : isnotF x (.d .non) m R := h
theorem f_neg {m : Mu} {R : DV → Mu → Prop} {i : Int} (h : R (.d (.int (-i))) m) : negF (.d (.int i)) m R := h
theorem f_len_ml {m : Mu} {R : DV → Mu → Prop} {α : Type} {xs : List α} {f : α → D} (h : R (.d (.int xs.length)) m) : lenF [.d (.lst (xs.map f))] m R := by show R (.d (.int (xs.map f).length)) m; rw [List.length_map]; exact h
theorem f_len_mt {m : Mu} {R : DV → Mu → Prop} {α : Type} {xs : List α} {f : α → D} (h : R (.d (.int xs.length)) m) : lenF [.d (.tup (xs.map f))] m R := by show R (.d (.int (xs.map f).length)) m; rw [List.length_map]; exact h
theorem f_sum_l {m : Mu} {R : DV → Mu → Prop} {ns : List Int} (h : R (.d (.int ns.sum)) m) : sumF [.d (.lst (ns.map D.int))] m R := ⟨ns, rfl, h⟩
theorem f_sum_t {m : Mu} {R : DV → Mu → Prop} {ns : List Int} (h : R (.d (.int ns.sum)) m) : sumF [.d (.tup (ns.map D.int))] m R := ⟨ns, rfl, h⟩
theorem f_all {m : Mu} {R : DV → Mu → Prop} {α : Type} {xs : List α} {f : α → Bool} (h : R (.d (.bl (xs.all f))) m) : allF [.d (.lst (xs.map fun x => D.bl (f x)))] m R := ⟨xs.map f, by rw [List.map_map]; rfl, by rw [List.all_map]; exact h⟩
theorem f_any {m : Mu} {R : DV → Mu → Prop} {α : Type} {xs : List α} {f : α → Bool} (h : R (.d (.bl (xs.any f))) m) : anyF [.d (.lst (xs.map fun x => D.bl (f x)))] m R := ⟨xs.map f, by rw [List.map_map]; rfl, by rw [List.any_map]; exact h⟩
theorem f_len_l {m : Mu} {R : DV → Mu → Prop} {xs : List D} (h : R (.d (.int xs.length)) m) : lenF [.d (.lst xs)] m R := h
theorem f_len_t {m : Mu} {R : DV → Mu → Prop} {xs : List D} (h : R (.d (.int xs.length)) m) : lenF [.d (.tup xs)] m R := h
theorem f_len_c {m : Mu} {R : DV → Mu → Prop} {ns : List Int} (h : R (.d (.int ns.length)) m) : lenF [.scr ns] m R := h
theorem f_abs {m : Mu} {R : DV → Mu → Prop} {i : Int} (h : R (.d (.int (if i < 0 then -i else i))) m) : absF [.d (.int i)] m R := h
theorem f_min2 {m : Mu} {R : DV → Mu → Prop} {i j : Int} (h : R (.d (.int (if j < i then j else i))) m) : minF [.d (.int i), .d (.int j)] m R := h
theorem f_max2 {m : Mu} {R : DV → Mu → Prop} {i j : Int} (h : R (.d (.int (if j > i then j else i))) m) : maxF [.d (.int i), .d (.int j)] m R := h
theorem f_list_l {m : Mu} {R : DV → Mu → Prop} {xs : List D} (h : R (.d (.lst xs)) m) : listF [.d (.lst xs)] m R := h
theorem f_list_t {m : Mu} {R : DV → Mu → Prop} {xs : List D} (h : R (.d (.lst xs)) m) : listF [.d (.tup xs)] m R := h
theorem f_tup_l {m : Mu} {R : DV → Mu → Prop} {xs : List D} (h : R (.d (.tup xs)) m) : tupleF [.d (.lst xs)] m R := h
theorem f_tup_t {m : Mu} {R : DV → Mu → Prop} {xs : List D} (h : R (.d (.tup xs)) m) : tupleF [.d (.tup xs)] m R := h
theorem f_int_i {m : Mu} {R : DV → Mu → Prop} {i : Int} (h : R (.d (.int i)) m) : intF [.d (.int i)] m R := h
theorem f_int_b {m : Mu} {R : DV → Mu → Prop} {b : Bool} (h : R (.d (.int (if b then 1 else 0))) m) : intF [.d (.bl b)] m R := h
theorem f_sl_l {m : Mu} {R : DV → Mu → Prop} {xs : List D} {lo hi : Option Int} (h : R (.d (.lst (cut xs lo hi))) m) : sliceF (.d (.lst xs)) lo hi m R := h
theorem f_sl_t {m : Mu} {R : DV → Mu → Prop} {xs : List D} {lo hi : Option Int} (h : R (.d (.tup (cut xs lo hi))) m) : sliceF (.d (.tup xs)) lo hi m R := h
theorem f_tr_n {m : Mu} {R : Bool → Mu → Prop} (h : R false m) : truF (.d .non) m R := h
theorem f_tr_b {m : Mu} {R : Bool → Mu → Prop} {b : Bool} (h : R b m) : truF (.d (.bl b)) m R := h
theorem f_tr_i {m : Mu} {R : Bool → Mu → Prop} {i : Int} (h : R (i != 0) m) : truF (.d (.int i)) m R := h
theorem f_tr_l {m : Mu} {R : Bool → Mu → Prop} {xs : List D} (h : R (!xs.isEmpty) m) : truF (.d (.lst xs)) m R := h
theorem f_tr_t {m : Mu} {R : Bool → Mu → Prop} {xs : List D} (h : R (!xs.isEmpty) m) : truF (.d (.tup xs)) m R := h
theorem f_tr_c {m : Mu} {R : Bool → Mu → Prop} {ns : List Int} (h : R (!ns.isEmpty) m) : truF (.scr ns) m R := h
end Lb

/-! Lb9: loops and comprehensions in short. -/
namespace Lb
open PySem L2
theorem ex_bl {b : Bool} {P : Bool → Prop} (h : P b) : ∃ c, DV.d (.bl b) = .d (.bl c) ∧ P c := ⟨b, rfl, h⟩
theorem ex_in {b : Int} {P : Int → Prop} (h : P b) : ∃ c, DV.d (.int b) = .d (.int c) ∧ P c := ⟨b, rfl, h⟩
theorem ex_ls {xs : List D} {P : List D → Prop} (h : P xs) : ∃ c, DV.d (.lst xs) = .d (.lst c) ∧ P c := ⟨xs, rfl, h⟩
theorem ex_tu {xs : List D} {P : List D → Prop} (h : P xs) : ∃ c, DV.d (.tup xs) = .d (.tup c) ∧ P c := ⟨xs, rfl, h⟩
theorem ex_st {z : Str} {P : Str → Prop} (h : P z) : ∃ c, DV.d (.str z) = .d (.str c) ∧ P c := ⟨z, rfl, h⟩
theorem ex_d0 {P : List D → Prop} (h : P []) : ∃ xs : List D, ([] : List DV) = xs.map DV.d ∧ xs.length ≤ 100000 ∧ P xs := ⟨_, rfl, by decide, h⟩
theorem ex_d1 {P : List D → Prop} {a : D} (h : P [a]) : ∃ xs : List D, [DV.d a] = xs.map DV.d ∧ xs.length ≤ 100000 ∧ P xs := ⟨[a], rfl, by show 1 ≤ 100000; decide, h⟩
theorem ex_d2 {P : List D → Prop} {a b : D} (h : P [a, b]) : ∃ xs : List D, [DV.d a, DV.d b] = xs.map DV.d ∧ xs.length ≤ 100000 ∧ P xs := ⟨[a, b], rfl, by show 2 ≤ 100000; decide, h⟩
theorem ex_d3 {P : List D → Prop} {a b c : D} (h : P [a, b, c]) : ∃ xs : List D, [DV.d a, DV.d b, DV.d c] = xs.map DV.d ∧ xs.length ≤ 100000 ∧ P xs := ⟨[a, b, c], rfl, by show 3 ≤ 100000; decide, h⟩
theorem ex_d4 {P : List D → Prop} {a b c d : D} (h : P [a, b, c, d]) : ∃ xs : List D, [DV.d a, DV.d b, DV.d c, DV.d d] = xs.map DV.d ∧ xs.length ≤ 100000 ∧ P xs := ⟨[a, b, c, d], rfl, by show 4 ≤ 100000; decide, h⟩
theorem ex_d5 {P : List D → Prop} {a b c d e : D} (h : P [a, b, c, d, e]) : ∃ xs : List D, [DV.d a, DV.d b, DV.d c, DV.d d, DV.d e] = xs.map DV.d ∧ xs.length ≤ 100000 ∧ P xs := ⟨[a, b, c, d, e], rfl, by show 5 ≤ 100000; decide, h⟩
theorem ex_d6 {P : List D → Prop} {a b c d e f : D} (h : P [a, b, c, d, e, f]) : ∃ xs : List D, [DV.d a, DV.d b, DV.d c, DV.d d, DV.d e, DV.d f] = xs.map DV.d ∧ xs.length ≤ 100000 ∧ P xs := ⟨[a, b, c, d, e, f], rfl, by show 6 ≤ 100000; decide, h⟩
theorem ex_d7 {P : List D → Prop} {a b c d e f g : D} (h : P [a, b, c, d, e, f, g]) : ∃ xs : List D, [DV.d a, DV.d b, DV.d c, DV.d d, DV.d e, DV.d f, DV.d g] = xs.map DV.d ∧ xs.length ≤ 100000 ∧ P xs := ⟨[a, b, c, d, e, f, g], rfl, by show 7 ≤ 100000; decide, h⟩
theorem ex_d8 {P : List D → Prop} {a b c d e f g i : D} (h : P [a, b, c, d, e, f, g, i]) : ∃ xs : List D, [DV.d a, DV.d b, DV.d c, DV.d d, DV.d e, DV.d f, DV.d g, DV.d i] = xs.map DV.d ∧ xs.length ≤ 100000 ∧ P xs := ⟨[a, b, c, d, e, f, g, i], rfl, by show 8 ≤ 100000; decide, h⟩
theorem m_and {M : Mu} {P : Prop} (h : P) : M = M ∧ P := ⟨rfl, h⟩
theorem i_t {A B : Prop} (h : A) : if true = true then A else B := by rw [if_pos rfl]; exact h
theorem i_f {A B : Prop} (h : B) : if false = true then A else B := by rw [if_neg Bool.false_ne_true]; exact h
theorem i_b {c : Bool} {A B : Prop} (h1 : c = true → A) (h2 : c = false → B) : if c = true then A else B := by
  cases c with
  | true => rw [if_pos rfl]; exact h1 rfl
  | false => rw [if_neg Bool.false_ne_true]; exact h2 rfl
theorem i_d {c : Prop} [Decidable c] {A B : Prop} (h1 : c → A) (h2 : ¬ c → B) : if decide c = true then A else B := by
  by_cases h : c
  · rw [decide_eq_true h, if_pos rfl]; exact h1 h
  · rw [decide_eq_false h, if_neg Bool.false_ne_true]; exact h2 h
theorem i_nt {A B : Prop} (h : B) : if (!true) = true then A else B := i_f h
theorem i_nf {A B : Prop} (h : A) : if (!false) = true then A else B := i_t h
theorem i_nd {c : Prop} [Decidable c] {A B : Prop} (h1 : ¬ c → A) (h2 : c → B) : if (!decide c) = true then A else B := by
  by_cases h : c
  · rw [decide_eq_true h]; exact i_nt (h2 h)
  · rw [decide_eq_false h]; exact i_nf (h1 h)
section
variable {G : Ctx} {W : WX} {ds : DS} {m m1 : Mu} {R : DV → Mu → Prop} {g : TG} {tt : TT} {te : TE} {vs : List Nat} {N : EndsD} {XR : Tag → DS → Mu → Prop} {tb : TS}
/-- the turns of a comprehension in all -/
def LcR (G : Ctx) (g : TG) (tt : TT) (te : TE) (vs : List Nat) (ds : DS) (R : List D → Prop) (xs : List DV) (gd : Mu → Prop) (m1 : Mu) : Prop :=
  (∀ M, Ext m1 M → gd M) ∧ ∃ (α : Type) (ys : List α) (enc : α → DV) (F : α → Option D), xs = ys.map enc ∧ ys.length ≤ 50000 ∧
      (∀ (i : Nat) (y : α) (M : Mu), ys[i]? = some y → Ext m1 M → ∃ ds2, TgRun G.K vs g (enc y) (wipeD ds vs) ds2 ∧ EvT G WF tt ds2 M (fun b M3 => M3 = M ∧ if b = true then EvD G WF te ds2 M (fun x M4 => M4 = M ∧ ∃ z, x = .d z ∧ F y = some z) XF else F y = none) XF) ∧ R (ys.filterMap F)
/-- [e y for y in ys] -/
theorem lcM {α : Type} {xs : List DV} {gd : Mu → Prop} {RL : List D → Prop} (ys : List α) (enc : α → DV) (e : α → D) (hx : xs = ys.map enc) (hz : ys.length ≤ 50000) (hs : ∀ y M, y ∈ ys → Ext m1 M → ∃ ds2, TgRun G.K vs g (enc y) (wipeD ds vs) ds2 ∧ EvD G WF te ds2 M (fun x M4 => M4 = M ∧ x = .d (e y)) XF)
    (hR : RL (ys.map e)) (hg : ∀ M, Ext m1 M → gd M := by first | exact fun _ _ => trivial | exact fun M hM => hM _ _ (by assumption)) : LcR G g tYes te vs ds RL xs gd m1 := by
  refine ⟨hg, α, ys, enc, fun y => some (e y), hx, hz, fun i y M hy hM => ?_, ?_⟩
  · obtain ⟨ds2, h1, h2⟩ := hs y M (List.mem_of_getElem? hy) hM
    refine ⟨ds2, h1, et_yes ⟨rfl, ?_⟩⟩
    rw [if_pos rfl]
    exact h2.imp (fun d m' ⟨a, b⟩ => ⟨a, _, b, rfl⟩) (fun _ _ z => z)
  · rw [List.filterMap_eq_map']
    exact hR
/-- [e y for y in ys if c y] -/
theorem lcF {α : Type} {xs : List DV} {gd : Mu → Prop} {RL : List D → Prop} (ys : List α) (enc : α → DV) (c : α → Bool) (e : α → D) (hx : xs = ys.map enc) (hz : ys.length ≤ 50000) (hs : ∀ y M, y ∈ ys → Ext m1 M → ∃ ds2, TgRun G.K vs g (enc y) (wipeD ds vs) ds2 ∧ EvT G WF tt ds2 M (fun b M3 => M3 = M ∧ b = c y) XF ∧ (c y = true → EvD G WF te ds2 M (fun x M4 => M4 = M ∧ x = .d (e y)) XF))
    (hR : RL ((ys.filter c).map e)) (hg : ∀ M, Ext m1 M → gd M := by first | exact fun _ _ => trivial | exact fun M hM => hM _ _ (by assumption)) : LcR G g tt te vs ds RL xs gd m1 := by
  refine ⟨hg, α, ys, enc, fun y => if c y = true then some (e y) else none, hx, hz, fun i y M hy hM => ?_, ?_⟩
  · obtain ⟨ds2, h1, h2, h3⟩ := hs y M (List.mem_of_getElem? hy) hM
    refine ⟨ds2, h1, fun σ H Q s r p x => h2 σ H Q s r (fun b H' m' t s' ⟨q1, q2⟩ => p b H' m' t s' ⟨q1, ?_⟩) x⟩
    subst q2
    cases hc : c y with
    | true =>
      rw [if_pos rfl]
      exact (h3 hc).imp (fun d m' ⟨a, b⟩ => ⟨a, _, b, by simp [hc]⟩) (fun _ _ z => z)
    | false => rw [if_neg Bool.false_ne_true]; simp [hc]
  · have e2 : ys.filterMap (fun y => if c y = true then some (e y) else none) = (ys.filter c).map e := by
      clear hs hx hz hR hg
      induction ys with
      | nil => rfl
      | cons y ys ih =>
        cases hc : c y with
        | true => simp [hc, ih]
        | false => simp [hc, ih]
    rw [e2]
    exact hR
theorem ev_lcl {ta : TE} {XRe : Tag → Mu → Prop} (h : EvD G W ta ds m (fun d m1 => ∃ xs, d = .d (.lst xs) ∧ LcR G g tt te vs ds (fun l => R (.d (.lst l)) m1) (xs.map DV.d) GT m1) XRe) : EvD G W (tLc (iList G.K ta) g tt te vs) ds m R XRe := ev_lc (ei_list h)
theorem ev_lct {ta : TE} {XRe : Tag → Mu → Prop} (h : EvD G W ta ds m (fun d m1 => ∃ xs, d = .d (.tup xs) ∧ LcR G g tt te vs ds (fun l => R (.d (.lst l)) m1) (xs.map DV.d) GT m1) XRe) : EvD G W (tLc (iTup G.K ta) g tt te vs) ds m R XRe := ev_lc (ei_tup h)
theorem ev_lcs {ta : TE} {XRe : Tag → Mu → Prop} (h : EvD G W ta ds m (fun d m1 => ∃ z, d = .d (.str z) ∧ LcR G g tt te vs ds (fun l => R (.d (.lst l)) m1) ((signs z).map DV.d) GT m1) XRe) : EvD G W (tLc (iStr ta) g tt te vs) ds m R XRe := ev_lc (ei_str h)
theorem ev_lc1 {ta : TA} {XRe : Tag → Mu → Prop} (h : EvA G W ta ds m (fun es m1 => ∃ n : Int, es = [.d (.int n)] ∧ -(2 ^ 62) ≤ n ∧ n < 2 ^ 62 ∧ LcR G g tt te vs ds (fun l => R (.d (.lst l)) m1) (rng 0 n.toNat) GT m1) XRe) : EvD G W (tLc (iRng1 ta) g tt te vs) ds m R XRe := ev_lc (ei_rng1 h)
theorem ev_lc2 {ta : TA} {XRe : Tag → Mu → Prop} (h : EvA G W ta ds m (fun es m1 => ∃ i n : Int, es = [.d (.int i), .d (.int n)] ∧ (-(2 ^ 62) ≤ i ∧ i < 2 ^ 62 ∧ -(2 ^ 62) ≤ n ∧ n < 2 ^ 62) ∧ LcR G g tt te vs ds (fun l => R (.d (.lst l)) m1) (rng i (n - i).toNat) GT m1) XRe) : EvD G W (tLc (iRng2 ta) g tt te vs) ds m R XRe := ev_lc (ei_rng2 h)
theorem ev_lclO {ta : TE} {XRe : Tag → Mu → Prop} (h : EvD G W ta ds m (fun d m1 => ∃ xs, d = .d (.lst xs) ∧ LcR G g tt te vs ds (fun l => ∀ a, m1 a = none → R (.r a) (mset m1 a (.lst l))) (xs.map DV.d) GT m1) XRe) : EvD G W (tLc (iList G.K ta) g tt te vs) ds m R XRe := ev_lcO (ei_list h)
theorem ev_lc1O {ta : TA} {XRe : Tag → Mu → Prop} (h : EvA G W ta ds m (fun es m1 => ∃ n : Int, es = [.d (.int n)] ∧ -(2 ^ 62) ≤ n ∧ n < 2 ^ 62 ∧ LcR G g tt te vs ds (fun l => ∀ a, m1 a = none → R (.r a) (mset m1 a (.lst l))) (rng 0 n.toNat) GT m1) XRe) : EvD G W (tLc (iRng1 ta) g tt te vs) ds m R XRe := ev_lcO (ei_rng1 h)
/-- for k in range(..) -/
def ForR (G : Ctx) (W : WX) (g : TG) (tb : TS) (ds : DS) (N : EndsD) (XR : Tag → DS → Mu → Prop) (xs : List DV) (gd : Mu → Prop) (m1 : Mu) : Prop :=
  ∃ P : Nat → DS → Mu → Prop, P 0 ds m1 ∧ (∀ i ds' m', P i ds' m' → gd m') ∧
      (∀ i x ds' m', xs[i]? = some x → P i ds' m' → GtD G g x ds' m' (fun ds2 m2 => StD G W tb ds2 m2 { nx := P (i + 1), rt := N.rt, bk := N.nx, ct := P (i + 1) } XR)) ∧
      (∀ ds' m', P xs.length ds' m' → N.nx ds' m')
theorem forN {lo : Int} {n : Nat} (P : Nat → DS → Mu → Prop) (h0 : P 0 ds m) (hs : ∀ i ds' m', i < n → P i ds' m' → GtD G g (.d (.int (lo + (i : Nat)))) ds' m' (fun ds2 m2 => StD G W tb ds2 m2 { nx := P (i + 1), rt := N.rt, bk := N.nx, ct := P (i + 1) } XR)) (hd : ∀ ds' m', P n ds' m' → N.nx ds' m') : ForR G W g tb ds N XR (rng lo n) GT m := by
  refine ⟨P, h0, fun _ _ _ _ => trivial, fun i x ds' m' hx p => ?_, fun ds' m' p => hd ds' m' (by rw [rng_len] at p; exact p)⟩
  have hi : i < n := by
    have := (List.getElem?_eq_some_iff.mp hx).1
    rw [rng_len] at this
    exact this
  rw [rng_get hi] at hx
  cases hx
  exact hs i ds' m' hi p
theorem forL {α : Type} {xs : List DV} {gd : Mu → Prop} (ys : List α) (enc : α → DV) (P : List α → DS → Mu → Prop) (hx : xs = ys.map enc) (h0 : P [] ds m) (hs : ∀ pre y post ds' m', ys = pre ++ y :: post → P pre ds' m' → GtD G g (enc y) ds' m' (fun ds2 m2 => StD G W tb ds2 m2 { nx := P (pre ++ [y]), rt := N.rt, bk := N.nx, ct := P (pre ++ [y]) } XR)) (hd : ∀ ds' m', P ys ds' m' → N.nx ds' m')
    (hg : ∀ pre ds' m', P pre ds' m' → gd m' := by exact fun _ _ _ _ => trivial) : ForR G W g tb ds N XR xs gd m := by
  subst hx
  exact for_pre P h0 hg hs hd
theorem st_forl {ta : TE} (h : EvD G W ta ds m (fun d m1 => ∃ xs, d = .d (.lst xs) ∧ ForR G W g tb ds N XR (xs.map DV.d) GT m1) (fun t m1 => XR t ds m1)) : StD G W (tFor (iList G.K ta) g tb) ds m N XR := st_for (ei_list h)
theorem st_fort {ta : TE} (h : EvD G W ta ds m (fun d m1 => ∃ xs, d = .d (.tup xs) ∧ ForR G W g tb ds N XR (xs.map DV.d) GT m1) (fun t m1 => XR t ds m1)) : StD G W (tFor (iTup G.K ta) g tb) ds m N XR := st_for (ei_tup h)
theorem st_fors {ta : TE} (h : EvD G W ta ds m (fun d m1 => ∃ z, d = .d (.str z) ∧ ForR G W g tb ds N XR ((signs z).map DV.d) GT m1) (fun t m1 => XR t ds m1)) : StD G W (tFor (iStr ta) g tb) ds m N XR := st_for (ei_str h)
theorem st_for1 {ta : TA} (h : EvA G W ta ds m (fun es m1 => ∃ n : Int, es = [.d (.int n)] ∧ -(2 ^ 62) ≤ n ∧ n < 2 ^ 62 ∧ ForR G W g tb ds N XR (rng 0 n.toNat) GT m1) (fun t m1 => XR t ds m1)) : StD G W (tFor (iRng1 ta) g tb) ds m N XR := st_for (ei_rng1 h)
theorem st_for2 {ta : TA} (h : EvA G W ta ds m (fun es m1 => ∃ i n : Int, es = [.d (.int i), .d (.int n)] ∧ (-(2 ^ 62) ≤ i ∧ i < 2 ^ 62 ∧ -(2 ^ 62) ≤ n ∧ n < 2 ^ 62) ∧ ForR G W g tb ds N XR (rng i (n - i).toNat) GT m1) (fun t m1 => XR t ds m1)) : StD G W (tFor (iRng2 ta) g tb) ds m N XR := st_for (ei_rng2 h)
end
end Lb

/-! LbS: list.count of data; sorted(set(a list of numbers)). -/
namespace Lb
open PySem L2
section
variable {X : Cx} {G : Ctx}
open PySem.Spec PyProof.Rows in
theorem mt_countD (hu : X.A.units + 65 < cLine) : MtR X "list.count" (rDM G countF) := by
  intro pins s σ H x xs v us Q I rx rxs h
  obtain ⟨dx, es, m, R, s0, r1, r2, h, p⟩ := h
  obtain ⟨val, ys, rfl, e, h1, h2, h⟩ := h
  · cases r2 with
    | cons q1 q2 =>
      cases q2
      have rr := vw_rp s0 r1 e
      cases rr with
      | lst a1 a2 =>
        cases rx
        obtain ⟨uy, rfl, ry⟩ := rxs.one
        obtain ⟨bs, rd⟩ := Dp.reads I _ _ uy (Rp.dp (K := X.K) _ _ (Rp.mono fz_ex _ _ q1)) ry
        have sh := (Sh.lst h1).shaped
        rw [toPy] at sh
        have lay : PyData.canLayAll0 (toPys ys) = true := SeqAt.canLay_of_shaped sh
        have room := PyProof.Rows.room_in_shaped (xs := toPys ys) h2.shaped hu
        obtain ⟨its, rv, ⟨ob, n, ho, hc, hdn, hdt⟩, hlen⟩ := I.list (SqL.of a1)
        obtain ⟨cls, dd, data, sl⟩ := ob
        simp only at hc hdt
        subst hc hdt
        obtain ⟨as, ra⟩ := Dp.readsAll I _ _ its (RpL.dp (K := X.K) _ _ a2) rv
        have hmap : its.map (SeqAt.readOf s.heap) = toPys ys := SeqAt.readsAll_map _ its as lay ra
        refine call_meets PySem.F.slot_list_count ⟨_, ho, rfl⟩ PySem.F.entry_list_count (PySem.F.args_list_count_2 _ _) (SeqAt.list_countAt _ its.toArray n dd sl uy fun u => PyData.eqv (SeqAt.readOf s.heap u) (toPy val)) ⟨ho, SeqAt.items_eqAt (vs := its.toArray) (show ReadsAll s.heap its.toArray.toList (toPys ys) as from ra) rd lay (SeqAt.canLay_of_shaped h2.shaped) room, ?_⟩
        refine ⟨V.int _, H, I.tok _, ⟨s.toks, rfl⟩, ?_⟩
        have ec : its.toArray.toList.countP (fun u => PyData.eqv (SeqAt.readOf s.heap u) (toPy val)) = ys.countP fun y => eqD y val := by
          show its.countP _ = _
          rw [show its.countP (fun u => PyData.eqv (SeqAt.readOf s.heap u) (toPy val)) = (its.map (SeqAt.readOf s.heap)).countP (fun z => PyData.eqv z (toPy val)) by rw [List.countP_map]; rfl, hmap, toPys_map, List.countP_map]
          rfl
        rw [ec]
        exact p.here s0 (RV.dat (Rp.int _)) h
end
section
variable {P : Program} {w : World} {A : Around} {E : Value → Shared → Prop} {s : Shared}
abbrev newSet (w : World) : Obj := { cls := .type "set", dict := none, data := .set #[] 0 (.fresh 0 0 (!w.params.followText "set-order")) }
open PySem.Spec PyProof.Rows in
/-- set(l), l a list of numbers -/
theorem set_of_list {l : Addr} {items : Array Value} (ns : List Int) {Q : Value → Shared → Prop} (hh : A.handled = none) (hl : s.heap.IsList l items) (hit : IntsAre items.toList ns) (hb : ns.length + 1 < scanBound)
    (h : ∀ (hp : Heap) (tk c : Nat), SetR w hp s.heap.objs.size (fun j => decide (j ∈ ns)) c → c ≤ ns.length → (∀ b o, s.heap.get? b = some o → hp.get? b = some o) → Q (.ref s.heap.objs.size) { s with heap := hp, toks := tk }) :
    wpAny (model P w) A (call (.type "set") [.ref l]) Q E s := by
  have size : items.size = ns.length := by have z := IntsAre.length hit; rw [Array.length_toList] at z; exact z
  obtain ⟨c, tl, hmro⟩ := F.called_set.mro
  obtain ⟨hmade, hsub, h1, h2, hct⟩ := And.intro F.called_set.made (And.intro F.called_set.sub (And.intro F.called_set.notType (And.intro F.called_set.canCreate (F.typeCall_set_1 (.ref l)))))
  refine wpAny_call (codeAny_of_tree (wpAny_pure ⟨Code.quiet_builtin _ (by decide +kernel), codeAny_builtin F.entry_type_call ?_⟩))
  rw [Around.under_plain (weight_type_call_type "set" [.ref l] []) rfl]
  repeat (any_goals (first | assumption | wp_step))

  refine codeAny_mono (code_set_led1 (.ref l) (E := E) (Q₁ := fun ob z => ob = .ref s.heap.objs.size ∧ z = { s with heap := s.heap.push (newSet w) }) ⟨rfl, rfl⟩) fun r z hr => ?_
  cases r with
  | error e => exact hr
  | ok fl =>
    cases fl with
    | ret ob =>
      obtain ⟨rfl, rfl⟩ := hr
      have gS : (s.heap.push (newSet w)).get? s.heap.objs.size = some (newSet w) := Heap.get?_push_size _ rfl
      have hT : Shared.TypeIs { s with heap := s.heap.push (newSet w) } (.ref s.heap.objs.size) "set" := ⟨_, gS, rfl⟩
      obtain ⟨hli, hbi⟩ := And.intro F.called_set.init.lookup (F.called_set.init.bind (.ref s.heap.objs.size))
      repeat (any_goals (first | assumption | wp_step))

      refine codeAny_mono (codeAny_call_builtin (R := wants (fun r z => r = .none ∧ ∃ hp tk c, z = { s with heap := hp, toks := tk } ∧ SetR w hp s.heap.objs.size (fun j => decide (j ∈ ns)) c ∧ c ≤ ns.length ∧ (∀ b o, s.heap.get? b = some o → hp.get? b = some o)) E) F.called_set.init.plain F.entry_set_init (check_set_init_1 hT ?inside)) fun r z hr => ?behind
      case inside =>
        obtain ⟨ol, hol, hcl, nl, hdl⟩ := hl
        obtain ⟨ocls, odict, odata, oslots⟩ := ol
        simp only at hcl hdl
        subst hcl hdl
        have hol2 : (s.heap.push (newSet w)).get? l = some { cls := .type "list", dict := odict, data := .seq items nl, slots := oslots } := Heap.get?_push_of_some _ hol
        obtain ⟨hsls, hslf, hne⟩ := And.intro F.sub_list_set (And.intro F.sub_list_frozenset (show (Value.type "list" == Value.type "dict") = false by decide))
        have hl1 : (s.heap.push (newSet w)).IsList l items := ⟨_, hol2, rfl, nl, rfl⟩
        unfold Builtin.«set.__init__» noKeywords Builtin.Frozenset.updateFrom
        generalize hPI : pyIter = PI
        wp_walk
        subst hPI
        refine wpAny_pyIter_list hl1 (wpAny_bind (wpAny_runValue ?_))
        have lS : l < s.heap.objs.size := Heap.lt_size hol
        have sz1 : (s.heap.push (newSet w)).objs.size = s.heap.objs.size + 1 := Heap.size_push ..
        have at_ : ∀ (i : Nat) (v : Value), items[i]? = some v → ∃ k t, ns[i]? = some k ∧ v = .int k t := fun i v hv => by
          have hi : i < ns.length := by rw [← size]; exact (Array.getElem?_eq_some_iff.mp hv).1
          obtain ⟨t, e⟩ := PyProof.Rows.IntsAre.int_at hit i v (by rw [Array.getElem?_toList]; exact hv)
          refine ⟨ns[i], t, List.getElem?_eq_getElem hi, ?_⟩
          rw [e, List.getD_eq_getElem?_getD, List.getElem?_eq_getElem hi]
          rfl
        refine set_update_ints ((Walks.list (by simp [hh]) _ l (by rw [sz1]; exact Nat.ne_of_lt (Nat.lt_succ_of_lt lS)) items).toS) s.heap.objs.size (by rw [sz1, List.mem_cons, List.mem_singleton]; exact fun z => z.elim (Nat.ne_of_lt (Nat.lt_succ_self _)) (Nat.ne_of_gt lS)) ns size hb at_ (items.size - 0) 0 _ (by omega) (Nat.zero_le _) ⟨⟨_, Heap.get?_push_size _ rfl, rfl, rfl⟩, (hl1.push _)⟩ ⟨0, Nat.le_refl 0, setR_new_at (Heap.get?_push_of_some _ gS)⟩ ?last
        intro z k hm hk hS
        obtain ⟨hp, g2, d2, tk2, os2⟩ := z
        obtain rfl : g2 = s.gens := hm.gens
        obtain rfl : d2 = s.drawn := hm.drawn
        obtain rfl : os2 = s.os := hm.os
        show wpAny _ _ _ _ _ _
        refine wpAny_pure ?_
        show wpAny _ _ (ret Value.none) _ _ _
        rw [size] at hk
        refine wpAny_pure ⟨rfl, hp, tk2, k, rfl, hS, hk, fun b o e => ?_⟩
        have hb0 : b < s.heap.objs.size := Heap.lt_size e
        exact hm.heap b o (by rw [sz1, List.mem_cons, List.mem_singleton]; exact fun z => z.elim (Nat.ne_of_lt hb0) (Nat.ne_of_lt (Nat.lt_succ_of_lt hb0))) (Heap.get?_push_of_some _ (Heap.get?_push_of_some _ e))
      case behind =>
        cases r with
        | error e => exact hr
        | ok fl2 =>
          cases fl2 with
          | ret v =>
            obtain ⟨rfl, hp, tk, k, rfl, hS, hk, keep⟩ := hr
            repeat (any_goals (first | assumption | wp_step))
            exact h _ _ _ hS hk keep
          | _ => exact hr.elim
    | _ => exact hr.elim
end
/-- sorted(set(l)) -/
def insI (k : Int) : List Int → List Int
  | [] => [k]
  | x :: xs => if k < x then k :: x :: xs else if k = x then x :: xs else x :: insI k xs
def sset : List Int → List Int
  | [] => []
  | x :: xs => insI x (sset xs)
theorem mem_insI {k j : Int} : ∀ {xs : List Int}, j ∈ insI k xs ↔ j = k ∨ j ∈ xs
  | [] => by simp [insI]
  | x :: xs => by
    unfold insI
    split
    · simp
    · split
      · rename_i h; subst h; simp
      · rw [List.mem_cons, mem_insI (xs := xs), List.mem_cons]
        exact ⟨fun h => h.elim (fun z => .inr (.inl z)) fun z => z.elim .inl fun y => .inr (.inr y), fun h => h.elim (fun z => .inr (.inl z)) fun z => z.elim .inl fun y => .inr (.inr y)⟩
theorem mem_sset {j : Int} : ∀ {xs : List Int}, j ∈ sset xs ↔ j ∈ xs
  | [] => by simp [sset]
  | x :: xs => by rw [sset, mem_insI, mem_sset (xs := xs), List.mem_cons]
theorem insI_pw {k : Int} : ∀ {xs : List Int}, xs.Pairwise (· < ·) → (insI k xs).Pairwise (· < ·)
  | [], _ => by simp [insI]
  | x :: xs, h => by
    obtain ⟨h1, h2⟩ := List.pairwise_cons.mp h
    unfold insI
    split
    · refine List.pairwise_cons.mpr ⟨fun y hy => ?_, h⟩
      rcases List.mem_cons.mp hy with rfl | hy
      · assumption
      · have := h1 y hy; omega
    · split
      · exact h
      · refine List.pairwise_cons.mpr ⟨fun y hy => ?_, insI_pw h2⟩
        rcases mem_insI.mp hy with rfl | hy
        · omega
        · exact h1 y hy
theorem sset_pw : ∀ xs : List Int, (sset xs).Pairwise (· < ·)
  | [] => List.Pairwise.nil
  | x :: xs => insI_pw (sset_pw xs)
theorem pw_unique : ∀ {xs ys : List Int}, xs.Pairwise (· < ·) → ys.Pairwise (· < ·) → (∀ k, k ∈ xs ↔ k ∈ ys) → xs = ys
  | [], [], _, _, _ => rfl
  | [], y :: ys, _, _, h => absurd ((h y).mpr List.mem_cons_self) (by simp)
  | x :: xs, [], _, _, h => absurd ((h x).mp List.mem_cons_self) (by simp)
  | x :: xs, y :: ys, hx, hy, h => by
    obtain ⟨x1, x2⟩ := List.pairwise_cons.mp hx
    obtain ⟨y1, y2⟩ := List.pairwise_cons.mp hy
    have e : x = y := by
      rcases List.mem_cons.mp ((h x).mp List.mem_cons_self) with e | e
      · exact e
      · rcases List.mem_cons.mp ((h y).mpr List.mem_cons_self) with e2 | e2
        · exact e2.symm
        · have := y1 x e; have := x1 y e2; omega
    subst e
    rw [pw_unique x2 y2 fun k => ?_]
    have hk := h k
    rw [List.mem_cons, List.mem_cons] at hk
    refine ⟨fun z => ?_, fun z => ?_⟩
    · rcases hk.mp (.inr z) with e | e
      · have := x1 k z; omega
      · exact e
    · rcases hk.mpr (.inr z) with e | e
      · have := y1 k z; omega
      · exact e
theorem insI_len {k : Int} : ∀ xs : List Int, (insI k xs).length ≤ xs.length + 1
  | [] => by simp [insI]
  | x :: xs => by
    unfold insI
    split
    · simp
    · split
      · simp
      · have := insI_len (k := k) xs; simp; omega
theorem sset_len : ∀ xs : List Int, (sset xs).length ≤ xs.length
  | [] => by simp [sset]
  | x :: xs => by have h1 := sset_len xs; have h2 := insI_len (k := x) (sset xs); rw [sset, List.length_cons]; omega
def ssetF (x : DV) (m : Mu) (R : DV → Mu → Prop) : Prop := ∃ ns : List Int, vw m x = some (dInts ns) ∧ ns.length < 64 ∧ R (.d (dInts (sset ns))) m
/-- the set made of it, and what sorted makes of that -/
def rSetL (G : Ctx) (w : World) : List V → Hp → VK → Prop := fun xs H Q => ∃ x dx m ns, xs = [x] ∧ S0 G H m ∧ RV G (fz H m) x dx ∧ vw m dx = some (dInts ns) ∧ ns.length < 64 ∧ ∀ p c, H p = none → c ≤ ns.length → Q (.ref p) (upd H p (SetO w p (fun j => decide (j ∈ ns)) c))
section
variable {X : Cx} {G : Ctx}
theorem cr_setL (hc : X.calm = true) : CallR X (.type "set") (rSetL G X.w) := by
  intro pins s σ H xs us Q I r h
  obtain ⟨x, dx, m, ns, rfl, s0, r1, e, hz, q⟩ := h
  have rr := vw_rp s0 r1 e
  cases rr with
  | lst a1 a2 =>
    have e2 := a2.ints
    subst e2
    rw [Vals.ref1 r]
    obtain ⟨its, rv, pl, _⟩ := I.list (SqL.of a1)
    refine set_of_list ns (I.ok.hd hc) pl.isList (Vals.ints rv) (by show ns.length + 1 < scanBound; unfold scanBound; omega) fun hp tk c hS hc' keep => ?_
    exact ⟨.ref _, _, I.laid (t' := tk) keep (Nat.le_refl _) (setO_new hS), rfl, q _ c (I.hok.fresh (Nat.le_refl _)) hc'⟩
end
def tSset (G : Ctx) (w : World) (ta : TA) : TE := tCB (rSortedSet w) (tCons (tCB (rSetL G w) ta) tNil)
theorem ev_sset {G : Ctx} {w : World} {W : WX} {ds : DS} {m : Mu} {R : DV → Mu → Prop} {XR : Tag → Mu → Prop} {te : TE} (h : EvD G W te ds m (fun x m1 => ssetF x m1 R) XR) : EvD G W (tSset G w (tCons te tNil)) ds m R XR := fun σ H Q s r p x =>
  h σ H _ s r (fun v H1 d m1 t1 s1 r1 ⟨ns, e, hz, q⟩ => ⟨v, d, m1, ns, rfl, s1, r1, e, hz, fun a c ha hc => by
    refine ⟨a, fun j => decide (j ∈ ns), c, rfl, upd_same, Nat.lt_of_le_of_lt hc hz, fun ks b pw mem _ hb => ?_⟩
    have ek : ks = sset ns := pw_unique pw (sset_pw ns) fun k => by rw [mem k, mem_sset]; simp
    subst ek
    obtain ⟨s2, t2, _⟩ := s1.lay (o := SetO w a (fun j => decide (j ∈ ns)) c) ha
    exact (p.tr (t1.trans t2)).lay s2 hb (RpL.ofInts _) q⟩) x
theorem pe_sset {X : Cx} {G : Ctx} {e : Expr} {ta : TA} {p1 p2 q1 q2 : Pos} (hc : X.calm = true) (g1 : Gl X "sorted") (g2 : Gl X "set") (m1 : X.mg "sorted" = none) (m2 : X.mg "set" = none) (ha : PA X [e] ta)
    (hs : starEach [.Call (.Name "set" p2) [e] [] q2] X.env = (false, eval (.Call (.Name "set" p2) [e] [] q2) X.env) :: starEach [] X.env := by rfl) (he : starEach [e] X.env = (false, eval e X.env) :: starEach [] X.env := by rfl) :
    PE X (.Call (.Name "sorted" p1) [.Call (.Name "set" p2) [e] [] q2] [] q1) (tSset G X.w ta) :=
  pe_callB (cr_sortedSet hc) g1 m1 bt_sorted (pa_cons (pe_callTy (cr_setL hc) g2 m2 bt_set ha (by decide) (by decide) he) pa_nil hs) (by decide) (by decide) hs
/-! ### by the view -/
section
variable {m : Mu} {R : DV → Mu → Prop} {x y : DV} {a b : D} {xs : List D}
theorem v_ne (h1 : vw m x = some a) (h2 : vw m y = some b) (s1 : Sh 63 a) (s2 : Sh 63 b) (k : R (.d (.bl (!eqD a b))) m) : neF x y m R := by
  unfold neF
  split
  · cases h1; cases h2; exact ⟨s1, s2, k⟩
  · exact ⟨a, b, h1, h2, s1, s2, k⟩
theorem v_eq (h1 : vw m x = some a) (h2 : vw m y = some b) (s1 : Sh 63 a) (s2 : Sh 63 b) (k : R (.d (.bl (eqD a b))) m) : eqF x y m R := by
  unfold eqF
  split
  · cases h1; cases h2; exact ⟨s1, s2, k⟩
  · exact ⟨a, b, h1, h2, s1, s2, k⟩
theorem vw_cases (h : vw m x = some (.lst xs)) : x = .d (.lst xs) ∨ ∃ a, x = .r a ∧ m a = some (.lst xs) := by
  cases x with
  | d z => cases h; exact .inl rfl
  | r a =>
    have h : moL (m a) = some (.lst xs) := h
    cases e : m a with
    | none => rw [e] at h; cases h
    | some o =>
      rw [e] at h
      cases o with
      | lst ys => cases h; exact .inr ⟨a, rfl, e⟩
      | ins c fs => cases h
      | exc t => cases h
      | tpl es => cases h
  | scr ns => cases h
theorem v_tru {RB : Bool → Mu → Prop} (h : vw m x = some (.lst xs)) (k : RB (!xs.isEmpty) m) : truF x m RB := by
  rcases vw_cases h with rfl | ⟨a, rfl, e⟩
  · exact k
  · exact ⟨xs, e, k⟩
theorem v_idx {i : Int} {z : D} (h : vw m x = some (.lst xs)) (e : atI xs i = some z) (k : R (.d z) m) : idxF x (.d (.int i)) m R := by
  rcases vw_cases h with rfl | ⟨a, rfl, e2⟩
  · exact ⟨z, e, k⟩
  · exact ⟨xs, e2, z, e, k⟩
theorem v_len (h : vw m x = some (.lst xs)) (k : R (.d (.int xs.length)) m) : lenF [x] m R := by
  rcases vw_cases h with rfl | ⟨a, rfl, e2⟩
  · exact k
  · exact ⟨xs, e2, k⟩
theorem v_in {i : Int} {ns : List Int} (h : vw m x = some (dInts ns)) (k : R (.d (.bl (decide (i ∈ ns)))) m) : inF (.d (.int i)) x m R := by
  rcases vw_cases h with rfl | ⟨a, rfl, e2⟩
  · exact f_in k
  · exact ⟨_, e2, sh_int, sh_ints, by rw [any_int]; exact k⟩
theorem v_list (h : vw m x = some (.lst xs)) (k : R (.d (.lst xs)) m) : listF [x] m R := by
  rcases vw_cases h with rfl | ⟨a, rfl, e2⟩
  · exact k
  · exact ⟨xs, e2, k⟩
end
/-! ### equality of data by kind -/
theorem eqDs_ints : ∀ (a b : List Int), PyData.eqvAll (toPys (a.map D.int)) (toPys (b.map D.int)) = decide (a = b)
  | [], [] => by simp [toPys, PyData.eqvAll]
  | [], y :: ys => by simp [toPys, PyData.eqvAll]
  | x :: xs, [] => by simp [toPys, PyData.eqvAll]
  | x :: xs, y :: ys => by
    have e := eqD_int x y
    unfold eqD at e
    rw [List.map_cons, List.map_cons, toPys, toPys, PyData.eqvAll, eqDs_ints xs ys, e]
    by_cases h1 : x = y
    · subst h1; simp
    · simp [h1]
theorem eqD_ints (a b : List Int) : eqD (dInts a) (dInts b) = decide (a = b) := by
  unfold eqD dInts
  rw [toPy, toPy, PyData.eqv, eqDs_ints]
theorem eqD_tup (a b : List Int) : eqD (dTup a) (dTup b) = decide (a = b) := by
  unfold eqD dTup
  rw [toPy, toPy, PyData.eqv, eqDs_ints]
theorem eqD_str (a b : Str) : eqD (.str a) (.str b) = decide (a = b) := by
  unfold eqD toPy
  rw [PyData.eqv]
  exact Bool.beq_eq_decide_eq a b
end Lb

/-! LbE: the ends. -/
namespace Lb
open PySem L2
/-- a promise that nobody can ask for -/
theorem fnF_none {P : Program} {mg : Str → Option Value} {base : Heap} {G : Ctx} {x qual : Str} {st : Stmt} {ps : List Str} {k : Nat} {S : SpD} (F : DefAt G mg x qual st ps) (no : ∀ es m R XR, S es m R XR → False) : FnF P G mg base k x ps S := by
  obtain ⟨f, fd, F1, b, m⟩ := F
  exact ⟨f, fd, ⟨fun vs H Q E ⟨es, m, R, XR, _, _, h, _⟩ => (no es m R XR h).elim, fun A outer s H args us vs Q E _ _ _ _ ⟨es, m, R, XR, _, _, h, _⟩ => (no es m R XR h).elim⟩, m, F1.kp, b⟩
/-- the law's promise, as the row wants it -/
def sp_law (K : PySem.W.Frag) : Sp := fun vs H Q _ => ∃ (a : Addr) (ns : List Int), vs = [.ref a] ∧ SqL K H a (ns.map V.int) ∧ ns.length ≤ 63 ∧ ∀ H', Q (.bl true) H'
theorem s0_none {G : Ctx} {H : Hp} : S0 G H (fun _ => none) := fun a o h => by cases h
theorem fz_empty {H : Hp} : fz H (fun _ => none) = H := by funext a; rfl
theorem law_end {P : Program} {mg : Str → Option Value} {base : Heap} {G : Ctx} {k : Nat} {f : Addr} {fd : FuncData} {S : SpD} (hS : ∀ (ns : List Int), ns.length ≤ 63 → S [.scr ns] (fun _ => none) (fun d _ => d = .d (.bl true)) (fun _ _ => False))
    (F : FnOk P G.w G.K mg base (L2.CX P G.w) k f fd ["script"] (spL G S)) : FnOk P G.w G.K mg base (L2.CX P G.w) k f fd ["script"] (sp_law G.K) :=
  F.imp fun vs H Q E ⟨a, ns, e, hq, hl, q⟩ => ⟨[.scr ns], fun _ => none, _, _, s0_none, by rw [e, fz_empty]; exact .cons ⟨a, rfl, hq⟩ .nil, hS ns hl, fun v H' d m' _ _ r hd => by
    subst hd
    cases r
    exact q H', fun _ _ _ _ _ _ z => z.elim⟩
theorem no_cx {P : Program} {w : World} {H : Hp} {s s' : Shared} {e : Value} (c : L2.CX P w [] H s (fun _ _ _ => False) e s') : False := by
  obtain ⟨a, B, H', cls, d, _, _, _, _, _, _, _, z⟩ := c
  exact z
end Lb

/-! LbT: lists of texts and the like. -/
namespace Lb
open PySem L2
theorem kit_ll : kitB "list" "list" = some true := by decide +kernel
theorem kit_bb : kitB "bool" "bool" = some true := by decide +kernel
theorem kit_ii : kitB "int" "int" = some true := by decide +kernel
theorem kit_ib : kitB "int" "bool" = some false := by decide +kernel
theorem sh_strs {n : Nat} {ss : List Str} (h : ss.all PyData.strOk = true) : Sh (n + 1) (.lst (ss.map D.str)) := by
  show ∀ x ∈ ss.map D.str, Sh n x
  intro x hx
  obtain ⟨s, hs, rfl⟩ := List.mem_map.mp hx
  have := List.all_eq_true.mp h s hs
  unfold Sh
  exact this
theorem sh_str {n : Nat} {s : Str} (h : PyData.strOk s = true) : Sh n (.str s) := by unfold Sh; exact h
theorem eqD_strs (a b : List Str) : eqD (.lst (a.map D.str)) (.lst (b.map D.str)) = decide (a = b) := by
  unfold eqD
  rw [toPy, toPy, PyData.eqv]
  induction a generalizing b with
  | nil => cases b <;> simp [toPys, PyData.eqvAll]
  | cons x xs ih =>
    cases b with
    | nil => simp [toPys, PyData.eqvAll]
    | cons y ys =>
      have e := eqD_str x y
      unfold eqD at e
      rw [List.map_cons, List.map_cons, toPys, toPys, PyData.eqvAll, ih, e]
      by_cases h : x = y
      · subst h; simp
      · simp [h]
/-- alike lists of texts -/
theorem ne_strs {R : DV → Mu → Prop} {m : Mu} (ss : List Str) (hs : ss.all PyData.strOk = true) {x y : DV} (hx : vw m x = some (.lst (ss.map D.str))) (hy : vw m y = some (.lst (ss.map D.str))) (h : R (.d (.bl false)) m) : neF x y m R := by
  refine v_ne hx hy (sh_strs hs) (sh_strs hs) ?_
  rw [eqD_strs, decide_eq_true rfl]
  exact h
theorem eq_strs {R : DV → Mu → Prop} {m : Mu} (ss : List Str) (hs : ss.all PyData.strOk = true) {x y : DV} (hx : vw m x = some (.lst (ss.map D.str))) (hy : vw m y = some (.lst (ss.map D.str))) (h : R (.d (.bl true)) m) : eqF x y m R := by
  refine v_eq hx hy (sh_strs hs) (sh_strs hs) ?_
  rw [eqD_strs, decide_eq_true rfl]
  exact h
/-! ### xs[::-1] -/
def tRev (G : Ctx) (te : TE) : TE := tRevL G.K te
theorem pe_rev {X : Cx} {G : Ctx} {e : Expr} {te : TE} {k : Nat} {p1 p2 p3 pos : Pos} (hK : X.K = G.K) (h : PE X e te) : PE X (.Subscript e (.Slice none none (some (.UnaryOp .USub (.Constant (.int 1) k p1) p2)) p3) pos) (tRev G te) := by
  unfold tRev
  rw [← hK]
  exact pe_revL h
theorem ev_rev {G : Ctx} {W : WX} {ds : DS} {m : Mu} {R : DV → Mu → Prop} {XR : Tag → Mu → Prop} {te : TE} (h : EvD G W te ds m (fun d m1 => ∃ xs, vw m1 d = some (.lst xs) ∧ R (.d (.lst xs.reverse)) m1) XR) : EvD G W (tRev G te) ds m R XR := fun σ H Q s r p x =>
  h σ H _ s r (fun v H1 d m1 t1 s1 r1 ⟨xs, e, q⟩ => by
    rcases vw_cases e with rfl | ⟨a, rfl, e2⟩
    · cases r1 with
      | lst h1 h2 => exact ⟨_, _, rfl, SqL.of (fz_ex _ _ h1), fun b hb => (p.tr t1).lay s1 hb h2.rev q⟩
    · cases r1
      obtain ⟨vs, h1, h2⟩ := s1 a _ e2
      exact ⟨_, _, rfl, SqL.of h1, fun b hb => (p.tr t1).lay s1 hb h2.rev q⟩) x
theorem f_notin {m : Mu} {R : DV → Mu → Prop} {k : Int} {ns : List Int} (h : R (.d (.bl (!decide (k ∈ ns)))) m) : notinF (.d (.int k)) (.d (dInts ns)) m R := by
  refine ⟨sh_int, sh_ints, ?_⟩
  rw [any_int]
  exact h
end Lb

/-! LbU: small things of use everywhere. -/
namespace Lb
open PySem L2
theorem ev_drop {G : Ctx} {W : WX} {ds : DS} {m : Mu} {R : DV → Mu → Prop} {XR : Tag → Mu → Prop} {te : TE} (h : EvD G W te ds m (fun d m1 => ∃ m2, Sub m2 m1 ∧ R d m2) XR) : EvD G W te ds m R XR := fun σ H Q s r p x =>
  h σ H _ s r (fun v H1 d m1 t1 s1 r1 ⟨m2, b, q⟩ => by
    obtain ⟨s2, t2⟩ := s1.sub b
    exact p v H1 d m2 (t1.trans t2) s2 (r1.mono t2) q) x
theorem sub_mset {m : Mu} {a : Addr} {o : MO} (h : m a = none) : Sub m (mset m a o) := fun b => by
  by_cases e : b = a
  · subst e; exact .inl h
  · exact .inr (mset_ne e).symm
theorem flatten_rep {α : Type} (x : α) : ∀ n : Nat, (List.replicate n [x]).flatten = List.replicate n x
  | 0 => rfl
  | n + 1 => by rw [List.replicate_succ, List.flatten_cons, flatten_rep x n]; rfl
theorem atI_lst {α : Type} {xs : List α} {x : α} (h : xs.getLast? = some x) : atI xs (-1) = some x := by
  have hl : 0 < xs.length := by
    cases xs with
    | nil => cases h
    | cons _ _ => exact Nat.succ_pos _
  unfold atI ixN
  rw [if_neg (by decide), if_pos (by omega)]
  have e : (-1 + (xs.length : Int)).toNat = xs.length - 1 := by omega
  rw [e]
  rw [List.getLast?_eq_getElem?] at h
  exact h
theorem map_set_range (f : Nat → D) (v : D) (n j : Nat) : ((List.range n).map f).set j v = (List.range n).map fun k => if k = j then v else f k := by
  apply List.ext_getElem?
  intro i
  by_cases hj : j = i
  · subst hj
    by_cases hi : j < n
    · rw [List.getElem?_set_self (by rw [List.length_map, List.length_range]; exact hi), List.getElem?_map, List.getElem?_range hi]
      simp
    · rw [List.getElem?_eq_none (by rw [List.length_set, List.length_map, List.length_range]; omega), List.getElem?_eq_none (by rw [List.length_map, List.length_range]; omega)]
  · rw [List.getElem?_set_ne hj, List.getElem?_map, List.getElem?_map]
    by_cases hi : i < n
    · rw [List.getElem?_range hi]
      simp [Ne.symm hj]
    · rw [List.getElem?_eq_none (by rw [List.length_range]; omega)]
      rfl
theorem atI_map_range (f : Nat → D) {n k : Nat} (h : k < n) : atI ((List.range n).map f) ((k : Nat) : Int) = some (f k) := by
  apply atI_nat
  rw [List.getElem?_map, List.getElem?_range h]
  rfl
theorem ixN_in {n j : Nat} (hj : j < n) : ixN n (j : Int) = some j := by
  unfold ixN
  rw [if_pos (by omega), if_pos (by omega), Int.toNat_natCast]
theorem atI_is {cs : List Int} {k : Nat} (h : k < cs.length) : atI (cs.map D.int) (0 + (k : Int)) = some (.int (cs.getD k 0)) := by
  rw [Int.zero_add]
  apply atI_nat
  rw [List.getElem?_map, List.getD_eq_getElem?_getD, List.getElem?_eq_getElem h]
  rfl
theorem getD_mem {cs : List Int} {k : Nat} (h : k < cs.length) : cs.getD k 0 ∈ cs := by
  rw [List.getD_eq_getElem?_getD, List.getElem?_eq_getElem h]
  exact List.getElem_mem h
theorem range_cons {α : Type} (f : Nat → α) (n : Nat) : (List.range (n + 1)).map f = f 0 :: (List.range n).map fun k => f (k + 1) := by
  rw [List.range_succ_eq_map, List.map_cons, List.map_map]
  rfl
theorem getD_map_range (f : Nat → Int) {n k : Nat} (h : k < n) : ((List.range n).map f).getD k 0 = f k := by
  rw [List.getD_eq_getElem?_getD, List.getElem?_map, List.getElem?_range h]
  rfl
structure Two (m : Mu) (a b : Addr) (Y N : List D) (m' : Mu) : Prop where
  y : m' a = some (.lst Y)
  n : m' b = some (.lst N)
  o : ∀ c, c ≠ a → c ≠ b → m' c = m c
theorem Two.setY {m m' : Mu} {a b : Addr} {Y N : List D} (t : Two m a b Y N m') (h : a ≠ b) (Z : List D) : Two m a b Z N (mset m' a (.lst Z)) := ⟨mset_same, by rw [mset_ne h.symm]; exact t.n, fun c h1 h2 => by rw [mset_ne h1]; exact t.o c h1 h2⟩
theorem Two.setN {m m' : Mu} {a b : Addr} {Y N : List D} (t : Two m a b Y N m') (h : a ≠ b) (Z : List D) : Two m a b Y Z (mset m' b (.lst Z)) := ⟨by rw [mset_ne h]; exact t.y, mset_same, fun c h1 h2 => by rw [mset_ne h2]; exact t.o c h1 h2⟩
theorem Two.done {m m' : Mu} {a b : Addr} {Y N : List D} (t : Two m a b Y N m') (ha : m a = none) (hb : m b = none) : mdel (mdel m' a) b = m := by
  funext c
  by_cases h2 : c = b
  · subst h2; rw [mdel_same, hb]
  · rw [mdel_ne h2]
    by_cases h1 : c = a
    · subst h1; rw [mdel_same, ha]
    · rw [mdel_ne h1]; exact t.o c h1 h2
theorem atI_js {cs : List Int} {k : Nat} (h : k < cs.length) : atI (cs.map D.int) (k : Int) = some (.int (cs.getD k 0)) := by
  have := atI_is h
  rwa [Int.zero_add] at this
def XAll (G : Ctx) : Prop := ∀ t, G.has t = true → PySem.W.exmOne G.K (.ref (G.ex t)) (.ref G.le) = some true
abbrev NL (R : DV → Mu → Prop) : EndsD := { nx := fun _ m' => R (.d .non) m', rt := R }
abbrev dBls (bs : List Bool) : D := .lst (bs.map D.bl)
theorem atI_qs {qs : List (List Int)} {t : Nat} (ht : t < qs.length) : atI (qs.map dInts) (0 + (t : Int)) = some (dInts (qs.getD t [])) := by
  rw [Int.zero_add]
  apply atI_nat
  rw [List.getElem?_map, List.getD_eq_getElem?_getD, List.getElem?_eq_getElem ht]
  rfl
theorem atI_bs {bs : List Bool} {t : Nat} (ht : t < bs.length) : atI (bs.map D.bl) (0 + (t : Int)) = some (D.bl (bs.getD t false)) := by
  rw [Int.zero_add]
  apply atI_nat
  rw [List.getElem?_map, List.getD_eq_getElem?_getD, List.getElem?_eq_getElem ht]
  rfl
theorem snoc_ind {α : Type} {P : List α → Prop} (nil : P []) (snoc : ∀ xs x, P xs → P (xs ++ [x])) (xs : List α) : P xs := by
  have h : ∀ ys : List α, P ys.reverse := by
    intro ys
    induction ys with
    | nil => exact nil
    | cons y ys ih => rw [List.reverse_cons]; exact snoc _ _ ih
  have := h xs.reverse
  rwa [List.reverse_reverse] at this
theorem cut_from {α : Type} (xs : List α) (k : Nat) : cut xs (some (k : Int)) none = xs.drop k := by
  unfold cut
  rw [HT.sIx_nat, HT.sIx_none]
  by_cases h : k ≤ xs.length
  · rw [Nat.min_eq_left h, List.take_of_length_le (by rw [List.length_drop]; exact Nat.le_refl _)]
  · rw [Nat.min_eq_right (by omega), List.drop_of_length_le (Nat.le_refl _), List.drop_of_length_le (by omega), List.take_nil]
theorem cut_tail {α : Type} (x : α) (xs : List α) : cut (x :: xs) (some 1) none = xs := cut_from (x :: xs) 1
theorem foldl_range_succ {α : Type} (f : α → Nat → α) (a : α) (n : Nat) : (List.range (n + 1)).foldl f a = f ((List.range n).foldl f a) n := by
  rw [List.range_succ, List.foldl_append]
  rfl
end Lb

/-! LbV: tuples that hold lists of our own. -/
namespace Lb
open PySem L2
theorem RVs.len {G : Ctx} {F : Hp} : ∀ {vs : List V} {es : List DV}, RVs G F vs es → vs.length = es.length
  | _, _, .nil => rfl
  | _, _, .cons _ t => by rw [List.length_cons, List.length_cons, RVs.len t]
theorem RVs.get {G : Ctx} {F : Hp} : ∀ {vs : List V} {ds : List DV} {i : Nat} {d : DV}, RVs G F vs ds → ds[i]? = some d → ∃ v, vs[i]? = some v ∧ RV G F v d
  | _, _, _, _, .nil, e => by simp at e
  | _, _, 0, _, .cons r _, e => by simp at e; subst e; exact ⟨_, rfl, r⟩
  | _, _, i + 1, d, .cons _ t, e => by
    obtain ⟨u, h1, h2⟩ := RVs.get (i := i) (d := d) t (by simpa using e)
    exact ⟨u, by simpa using h1, h2⟩
section
variable {G : Ctx} {W : WX} {ds : DS} {m : Mu} {R : DV → Mu → Prop} {XR : Tag → Mu → Prop}
/-- a tuple of which some things are our own -/
theorem ev_tupO {t : TA} (h : EvA G W t ds m (fun es m1 => es.length ≤ 100000 ∧ ∀ a, m1 a = none → R (.r a) (mset m1 a (.tpl es))) XR) : EvD G W (tTup t) ds m R XR := fun σ H Q s r p x =>
  h σ H _ s r (fun vs H1 es m1 t1 s1 r1 ⟨l, q⟩ => by
    refine ⟨sz_of (by rw [r1.len]; exact l), fun a ha => ?_⟩
    have ma := s1.free ha
    obtain ⟨s2, t2⟩ := s1.put (p := a) (o := .tup vs) (x := .tpl es) (by rw [fz_none ma]; exact ha) ⟨_, upd_same, r1⟩
    exact p _ _ (.r a) _ (t1.trans t2) s2 rfl (q a ma)) x
/-- a pair of a list of our own and data becomes data -/
theorem ev_frT {te : TE} (h : EvD G W te ds m (fun d m1 => ∃ a b xs x, d = .r b ∧ m1 b = some (.tpl [.r a, .d x]) ∧ m1 a = some (.lst xs) ∧ R (.d (.tup [.lst xs, x])) (mdel (mdel m1 a) b)) XR) : EvD G W te ds m R XR := fun σ H Q s r p x =>
  h σ H _ s r (fun v H1 d m1 t1 s1 r1 ⟨a, b, xs, x, e, eb, ea, q⟩ => by
    subst e
    cases r1
    obtain ⟨vs, e1, e2⟩ := s1 a _ ea
    obtain ⟨us, f1, f2⟩ := s1 b _ eb
    obtain ⟨s', tr⟩ := s1.del (p := a)
    obtain ⟨s2, tr2⟩ := s'.del (p := b)
    have hab : a ≠ b := fun z => by rw [z, eb] at ea; cases ea
    cases f2 with
    | cons g1 f2 =>
      cases f2 with
      | cons g2 f2 =>
        cases f2
        cases g1
        have t3 := tr.trans tr2
        refine p _ H1 _ _ (t1.trans t3) s2 (RV.dat (Rp.tup (by rw [fz_none mdel_same]; exact f1) (.cons (Rp.lst (by rw [fz_none (by rw [mdel_ne hab]; exact mdel_same)]; exact e1) (RpL.mono t3 _ _ e2)) (.cons (Rp.mono t3 _ _ g2) .nil)))) q) x
end
def idxT : F2
  | .r a, .d (.int i), m, R => ∃ es e, m a = some (.tpl es) ∧ atI es i = some e ∧ R e m
  | _, _, _, _ => False
theorem atI_rv {G : Ctx} {F : Hp} {vs : List V} {es : List DV} {i : Int} {e : DV} (r : RVs G F vs es) (h : atI es i = some e) : ∃ v, atI vs i = some v ∧ RV G F v e := by
  unfold atI at h ⊢
  rw [r.len]
  cases q : ixN es.length i with
  | none => rw [q] at h; cases h
  | some j =>
    rw [q] at h
    exact r.get h
theorem ix_T {X : Cx} {G : Ctx} : IxR X (rD2 G idxT) := by
  intro ve se pins s σ H x y v u Q I rx ry h hsub
  obtain ⟨dx, dy, m, R, s0, r1, r2, h, p⟩ := h
  unfold idxT at h
  split at h
  · obtain ⟨es, e, em, ee, h⟩ := h
    cases r2
    cases r1
    obtain ⟨vs, h1, h2⟩ := s0 _ _ em
    obtain ⟨z, e2, rz⟩ := atI_rv h2 ee
    exact ix_tup ve se pins s σ H _ _ v u Q I rx ry ⟨_, _, _, z, rfl, rfl, SqT.of h1, e2, p.here s0 rz h⟩ hsub
  · exact h.elim
end Lb

/-! SmA: what the small helpers of a law do. -/
namespace Lb
open PySem L2
local macro_rules | `(tactic| walk_at "v") => `(tactic| ((with_reducible refine ev_var (d := ?dv) ?hv ?_); (case hv => exact rfl)))
local macro_rules | `(tactic| walk_at "f") => `(tactic| first
  | with_reducible refine f_in ?_
  | with_reducible refine f_notin ?_
  | with_reducible refine f_add_i ?_
  | with_reducible refine f_add_s ?_
  | with_reducible refine f_add_l ?_
  | with_reducible refine f_add_t ?_
  | with_reducible refine f_sub ?_
  | with_reducible refine f_mul_i ?_
  | with_reducible refine f_mul_l ?_
  | with_reducible refine f_mul_t ?_
  | with_reducible refine f_div ?_
  | with_reducible refine f_mod ?_
  | with_reducible refine f_pow ?_
  | with_reducible refine f_lt ?_
  | with_reducible refine f_le ?_
  | with_reducible refine f_gt ?_
  | with_reducible refine f_ge ?_
  | with_reducible refine f_eq_i ?_
  | with_reducible refine f_ne_i ?_
  | with_reducible refine f_eq_b ?_
  | with_reducible refine f_ne_b ?_
  | with_reducible refine f_is_n ?_
  | with_reducible refine f_isnot_n ?_
  | with_reducible refine f_is_i ?_
  | with_reducible refine f_isnot_i ?_
  | with_reducible refine f_is_b ?_
  | with_reducible refine f_isnot_b ?_
  | with_reducible refine f_is_s ?_
  | with_reducible refine f_isnot_s ?_
  | with_reducible refine f_is_l ?_
  | with_reducible refine f_isnot_l ?_
  | with_reducible refine f_is_t ?_
  | with_reducible refine f_isnot_t ?_
  | with_reducible refine f_is_r ?_
  | with_reducible refine f_isnot_r ?_
  | with_reducible refine f_is ?_
  | with_reducible refine f_isnot ?_
  | with_reducible refine f_neg ?_
  | with_reducible refine f_len_ml ?_
  | with_reducible refine f_len_mt ?_
  | with_reducible refine f_sum_l ?_
  | with_reducible refine f_sum_t ?_
  | with_reducible refine f_all ?_
  | with_reducible refine f_any ?_
  | with_reducible refine f_len_l ?_
  | with_reducible refine f_len_t ?_
  | with_reducible refine f_len_c ?_
  | with_reducible refine f_abs ?_
  | with_reducible refine f_min2 ?_
  | with_reducible refine f_max2 ?_
  | with_reducible refine f_list_l ?_
  | with_reducible refine f_list_t ?_
  | with_reducible refine f_tup_l ?_
  | with_reducible refine f_tup_t ?_
  | with_reducible refine f_int_i ?_
  | with_reducible refine f_int_b ?_
  | with_reducible refine f_sl_l ?_
  | with_reducible refine f_sl_t ?_
  | with_reducible refine f_tr_n ?_
  | with_reducible refine f_tr_b ?_
  | with_reducible refine f_tr_i ?_
  | with_reducible refine f_tr_l ?_
  | with_reducible refine f_tr_t ?_
  | with_reducible refine f_tr_c ?_)
local macro_rules | `(tactic| walk_at "w") => `(tactic| first
  | walk_at "v"
  | with_reducible refine ev_rev ?_
  | with_reducible refine ev_sset ?_
  | with_reducible refine ev_lcl ?_
  | with_reducible refine ev_lct ?_
  | with_reducible refine ev_lcs ?_
  | with_reducible refine ev_lc1 ?_
  | with_reducible refine ev_lc2 ?_
  | with_reducible refine st_forl ?_
  | with_reducible refine st_fort ?_
  | with_reducible refine st_fors ?_
  | with_reducible refine st_for1 ?_
  | with_reducible refine st_for2 ?_
  | with_reducible refine ex_bl ?_
  | with_reducible refine ex_in ?_
  | with_reducible refine ex_ls ?_
  | with_reducible refine ex_tu ?_
  | with_reducible refine ex_st ?_
  | with_reducible refine ex_d0 ?_
  | with_reducible refine ex_d1 ?_
  | with_reducible refine ex_d2 ?_
  | with_reducible refine ex_d3 ?_
  | with_reducible refine ex_d4 ?_
  | with_reducible refine ex_d5 ?_
  | with_reducible refine ex_d6 ?_
  | with_reducible refine ex_d7 ?_
  | with_reducible refine ex_d8 ?_
  | with_reducible refine m_and ?_
  | with_reducible refine i_t ?_
  | with_reducible refine i_f ?_
  | with_reducible refine i_nt ?_
  | with_reducible refine i_nf ?_
  | with_reducible refine ev_tup ?_
  | with_reducible refine ev_lst ?_
  | with_reducible refine ev_int ?_
  | with_reducible refine ea_cons ?_
  | with_reducible refine ea_nil ?_
  | with_reducible refine ev_op ?_
  | with_reducible refine st_seq ?_
  | with_reducible refine st_asg ?_
  | with_reducible refine ev_call ?_
  | with_reducible refine ev_cb ?_
  | with_reducible refine st_if ?_
  | with_reducible refine et_test ?_
  | with_reducible refine et_not ?_
  | with_reducible refine et_or ?_
  | with_reducible refine et_and ?_
  | with_reducible refine et_tru ?_
  | with_reducible refine et_yes ?_
  | with_reducible refine et_B ?_
  | with_reducible refine ev_chain ?_
  | with_reducible refine ev_chain3 ?_
  | with_reducible refine ev_un ?_
  | with_reducible refine ev_if ?_
  | with_reducible refine ev_bl ?_
  | with_reducible refine ev_non ?_
  | with_reducible refine ev_str ?_
  | with_reducible refine ev_andV ?_
  | with_reducible refine ev_orV ?_
  | with_reducible refine ev_notV ?_
  | with_reducible refine ev_isB ?_
  | with_reducible refine ev_isE ?_
  | with_reducible refine ev_sl2 ?_
  | with_reducible refine ev_slA ?_
  | with_reducible refine ev_slB ?_
  | with_reducible refine ev_bmL ?_
  | with_reducible refine ev_bmL0 ?_
  | with_reducible refine st_ret ?_
  | with_reducible refine st_drop ?_
  | with_reducible refine st_next ?_
  | with_reducible refine st_setL ?_
  | with_reducible refine st_asgG ?_
  | with_reducible refine st_raise ?_
  | with_reducible refine gt_name ?_
  | with_reducible refine gt_tup2 ?_
  | with_reducible refine gt_tup3 ?_
  | walk_at "f")
local macro_rules | `(tactic| walk_at "r") => `(tactic| repeat walk_at "w")

/-! ### the script -/
def cellN (ns : List Int) (k : Int) : Int := (ns[(k % (ns.length : Int)).toNat]?).getD 0
def mixN (ns : List Int) (k : Int) : Int :=
  let a := (cellN ns k + 104729 * (k + 1)) % 4294967291
  let b := a ^ 5 % 4294967279
  (b / 64 * 69621 + b) % 4294967231
theorem mixN_nn (ns : List Int) (k : Int) : 0 ≤ mixN ns k := Int.emod_nonneg _ (by decide)
theorem mixN_lt (ns : List Int) (k : Int) : mixN ns k < 4294967231 := Int.emod_lt_of_pos _ (by decide)
def S_law_cell : SpD := fun es m R _ => ∃ ns k, es = [.scr ns, .d (.int k)] ∧ 0 ≤ k ∧ R (.d (.int (cellN ns k))) m
def rd_law_cell (G : Ctx) (W : WX) : TS :=
  tSeq (tIfS (tTru G.K (tVar 0)) (tRet (tOp (rD2 G idxF) (tVar 0) (tOp (rD2 G modF) (tVar 1) (tCB (rDn G lenF) (tCons (tVar 0) (tNil)))))) (tNext))
  (tRet (tC (.int 0)))

theorem len_law_cell : ∀ es m R XR, S_law_cell es m R XR → es.length = 2 := by
  rintro es m R XR ⟨ns, k, rfl, _⟩
  rfl
theorem atI_mod {ns : List Int} {k : Int} (hn : ns ≠ []) : atI ns (k % (ns.length : Int)) = some (cellN ns k) := by
  have hp : 0 < ns.length := List.length_pos_iff.mpr hn
  have h1 : 0 ≤ k % (ns.length : Int) := Int.emod_nonneg _ (by omega)
  have h2 : k % (ns.length : Int) < ns.length := Int.emod_lt_of_pos _ (by omega)
  obtain ⟨j, hj⟩ := Int.eq_ofNat_of_zero_le h1
  unfold cellN
  rw [hj] at h2 ⊢
  have hl : j < ns.length := by omega
  have e : ns[j]? = some ns[j] := List.getElem?_eq_getElem hl
  rw [Int.toNat_natCast, e]
  exact atI_nat e
theorem sem_law_cell (G : Ctx) : BodyD G 2 (rd_law_cell G) S_law_cell := by
  rintro W es m R XR ⟨ns, k, rfl, hk, h⟩
  unfold rd_law_cell
  walk_at "r"
  cases ns with
  | nil => 
    refine i_f ?_
    walk_at "r"
    exact h
  | cons n ns =>
    refine i_t ?_
    walk_at "r"
    exact ⟨by simp, _, atI_mod (by simp), h⟩
def S_law_mix : SpD := fun es m R _ => ∃ ns k, es = [.scr ns, .d (.int k)] ∧ 0 ≤ k ∧ k ≤ 1000000 ∧ R (.d (.int (mixN ns k))) m
def rd_law_mix (G : Ctx) (W : WX) : TS :=
  tSeq (tAsg (tOp (rD2 G modF) (tOp (rD2 G addF) (tCallS (spL G S_law_cell) (WE W) (tCons (tVar 0) (tCons (tVar 1) (tNil)))) (tOp (rD2 G mulF) (tC (.int 104729)) (tOp (rD2 G addF) (tVar 1) (tC (.int 1))))) (tC (.int 4294967291))) (gName 2))
  (tSeq (tAsg (tOp (rD2 G modF) (tOp (rD2 G powF) (tVar 2) (tC (.int 5))) (tC (.int 4294967279))) (gName 2))
  (tRet (tOp (rD2 G modF) (tOp (rD2 G addF) (tOp (rD2 G mulF) (tOp (rD2 G divF) (tVar 2) (tC (.int 64))) (tC (.int 69621))) (tVar 2)) (tC (.int 4294967231)))))

theorem len_law_mix : ∀ es m R XR, S_law_mix es m R XR → es.length = 2 := by
  rintro es m R XR ⟨ns, k, rfl, _⟩
  rfl
theorem sem_law_mix (G : Ctx) : BodyD G 3 (rd_law_mix G) S_law_mix := by
  rintro W es m R XR ⟨ns, k, rfl, hk, hk2, h⟩
  unfold rd_law_mix
  walk_at "r"
  refine ⟨ns, k, rfl, hk, ?_⟩
  walk_at "r"
  refine ⟨.inl (by omega), ?_⟩
  walk_at "r"
  refine ⟨by decide, ?_⟩
  walk_at "r"
  have a1 : 0 ≤ (cellN ns k + 104729 * (k + 1)) % 4294967291 := Int.emod_nonneg _ (by decide)
  have a2 : (cellN ns k + 104729 * (k + 1)) % 4294967291 < 4294967291 := Int.emod_lt_of_pos _ (by decide)
  refine ⟨⟨by decide, by decide, by omega⟩, ?_⟩
  walk_at "r"
  refine ⟨by decide, ?_⟩
  walk_at "r"
  refine ⟨⟨by decide, by decide⟩, ?_⟩
  walk_at "r"
  refine ⟨.inr ⟨by decide, by decide⟩, ?_⟩
  walk_at "r"
  refine ⟨by decide, ?_⟩
  exact h
/-! ### games -/
def GameOk (n l : Int) : Prop := 1 ≤ n ∧ n ≤ 64 ∧ 0 ≤ l ∧ l ≤ 4
instance (n l : Int) : Decidable (GameOk n l) := by unfold GameOk; infer_instance
def S_look_game : SpD := fun es m R XR => ∃ n l : Int, es = [.d (.int n), .d (.int l)] ∧ (GameOk n l → R (.d .non) m) ∧ (¬ GameOk n l → XR .game m)
def rd_look_game (G : Ctx) (W : WX) : TS :=
  tIfS (tOr (tNot (tTest (tChain (rD2 G leF) (rD2 G leF) (tC (.int 1)) (tVar 0) (tC (.int 64))))) (tNot (tTest (tChain (rD2 G leF) (rD2 G leF) (tC (.int 0)) (tVar 1) (tC (.int 4)))))) (tRaise W (G.has .game) (G.ex .game)) (tNext)

theorem len_look_game : ∀ es m R XR, S_look_game es m R XR → es.length = 2 := by
  rintro es m R XR ⟨ns, k, rfl, _⟩
  rfl
theorem sem_look_game (G : Ctx) : BodyD G 2 (rd_look_game G) S_look_game := by
  rintro W es m R XR ⟨n, l, rfl, h1, h2⟩
  unfold rd_look_game
  walk_at "r"
  refine i_d (fun a1 => ?_) (fun a1 => ?_)
  · walk_at "r"
    refine i_nd (fun a2 => ?_) (fun a2 => ?_)
    · walk_at "r"
      exact h2 fun q => a2 q.2.1
    · walk_at "r"
      refine i_d (fun a3 => ?_) (fun a3 => ?_)
      · walk_at "r"
        refine i_nd (fun a4 => ?_) (fun a4 => ?_)
        · walk_at "r"
          exact h2 fun q => a4 q.2.2.2
        · walk_at "r"
          exact h1 ⟨a1, a2, a3, a4⟩
      · walk_at "r"
        exact h2 fun q => a3 q.2.2.1
  · walk_at "r"
    exact h2 fun q => a1 q.1
/-- a question: things, rising -/
def QOk (n : Int) (q : List Int) : Prop := q.Pairwise (· < ·) ∧ ∀ k ∈ q, 0 ≤ k ∧ k < n
instance (n : Int) (q : List Int) : Decidable (QOk n q) := by unfold QOk; infer_instance
def S_look_question : SpD := fun es m R XR => ∃ (n : Int) (q : List Int) (x : DV), es = [.d (.int n), x] ∧ vw m x = some (dInts q) ∧ q.length < 64 ∧ (QOk n q → R (.d .non) m) ∧ (¬ QOk n q → XR .question m)
def rd_look_question (G : Ctx) (W : WX) : TS :=
  tIfS (tOr (tTest (tOp (rD2 G neF) (tVar 1) (tSset G G.w (tCons (tVar 1) (tNil))))) (tAnd (tTru G.K (tVar 1)) (tNot (tTest (tChain3 (rD2 G leF) (rD2 G leF) (rD2 G ltF) (tC (.int 0)) (tOp (rD2 G idxF) (tVar 1) (tC (.int 0))) (tOp (rD2 G idxF) (tVar 1) (tUn (rD1 G negF) (tC (.int 1)))) (tVar 0)))))) (tRaise W (G.has .question) (G.ex .question)) (tNext)

theorem len_look_question : ∀ es m R XR, S_look_question es m R XR → es.length = 2 := by
  rintro es m R XR ⟨ns, k, x, rfl, _⟩
  rfl
theorem sset_self {q : List Int} (h : q.Pairwise (· < ·)) : sset q = q := pw_unique (sset_pw q) h fun _ => mem_sset
theorem pw_last : ∀ {x : Int} {xs : List Int} {z : Int}, (x :: xs).Pairwise (· < ·) → (x :: xs).getLast? = some z → ∀ k ∈ x :: xs, x ≤ k ∧ k ≤ z
  | x, [], z, _, hz => fun k hk => by
    simp at hz hk
    omega
  | x, y :: ys, z, h, hz => fun k hk => by
    obtain ⟨h1, h2⟩ := List.pairwise_cons.mp h
    have hz2 : (y :: ys).getLast? = some z := by rw [List.getLast?_cons_cons] at hz; exact hz
    have ih := pw_last h2 hz2
    rcases List.mem_cons.mp hk with rfl | hk
    · have a := h1 y List.mem_cons_self
      have b := (ih y List.mem_cons_self).2
      omega
    · have a := h1 k hk
      have b := (ih k hk).2
      omega
theorem sem_look_question (G : Ctx) : BodyD G 2 (rd_look_question G) S_look_question := by
  rintro W es m R XR ⟨n, q, x, rfl, hx, hz, h1, h2⟩
  unfold rd_look_question
  walk_at "r"
  refine ⟨q, hx, hz, ?_⟩
  refine v_ne hx rfl sh_dInts sh_dInts ?_
  walk_at "r"
  rw [eqD_ints]
  by_cases e : q = sset q
  · rw [decide_eq_true e]
    refine i_f ?_
    walk_at "r"
    refine v_tru hx ?_
    have pw : q.Pairwise (· < ·) := by rw [e]; exact sset_pw q
    cases q with
    | nil =>
      refine i_f ?_
      walk_at "r"
      exact h1 ⟨List.Pairwise.nil, fun k hk => nomatch hk⟩
    | cons y ys =>
      refine i_t ?_
      walk_at "r"
      refine v_idx hx (z := .int y) (atI_nat (j := 0) rfl) ?_
      walk_at "r"
      refine i_d (fun a1 => ?_) (fun a1 => ?_)
      · walk_at "r"
        have el : (y :: ys).getLast? = some ((y :: ys).getLast (by simp)) := List.getLast?_eq_some_getLast (by simp)
        have es : y :: ys = (y :: ys).dropLast ++ [(y :: ys).getLast (by simp)] := (List.dropLast_concat_getLast (by simp)).symm
        refine v_idx hx (z := .int ((y :: ys).getLast (by simp))) ?_ ?_
        · have := atI_map (f := D.int) (atI_last (y :: ys).dropLast ((y :: ys).getLast (by simp)))
          rw [← es] at this
          exact this
        generalize hl : (y :: ys).getLast (by simp) = z at el
        have bd := pw_last pw el
        have zin : z ∈ y :: ys := by rw [← hl]; exact List.getLast_mem _
        walk_at "r"
        refine i_d (fun a2 => ?_) (fun a2 => ?_)
        · walk_at "r"
          refine i_nd (fun a3 => ?_) (fun a3 => ?_)
          · walk_at "r"
            exact h2 fun g => a3 (g.2 z zin).2
          · walk_at "r"
            exact h1 ⟨pw, fun k hk => by have := bd k hk; omega⟩
        · walk_at "r"
          exact absurd (bd z zin).1 a2
      · walk_at "r"
        exact h2 fun g => a1 (g.2 y List.mem_cons_self).1
  · rw [decide_eq_false e]
    refine i_t ?_
    walk_at "r"
    exact h2 fun g => e (sset_self g.1).symm
/-! ### errors told -/
def tagS : Tag → Str
  | .counts => Str.ofString "counts"
  | .game => Str.ofString "game"
  | .plan => Str.ofString "plan"
  | .question => Str.ofString "question"
  | .liar => Str.ofString "liar"
  | .text => Str.ofString "text"
  | .row => Str.ofString "row"
end Lb

/-! SmB: questions told at once. -/
namespace Lb
open PySem L2
local macro_rules | `(tactic| walk_at "v") => `(tactic| ((with_reducible refine ev_var (d := ?dv) ?hv ?_); (case hv => exact rfl)))
local macro_rules | `(tactic| walk_at "f") => `(tactic| first
  | with_reducible refine f_in ?_
  | with_reducible refine f_notin ?_
  | with_reducible refine f_add_i ?_
  | with_reducible refine f_add_s ?_
  | with_reducible refine f_add_l ?_
  | with_reducible refine f_add_t ?_
  | with_reducible refine f_sub ?_
  | with_reducible refine f_mul_i ?_
  | with_reducible refine f_mul_l ?_
  | with_reducible refine f_mul_t ?_
  | with_reducible refine f_div ?_
  | with_reducible refine f_mod ?_
  | with_reducible refine f_pow ?_
  | with_reducible refine f_lt ?_
  | with_reducible refine f_le ?_
  | with_reducible refine f_gt ?_
  | with_reducible refine f_ge ?_
  | with_reducible refine f_eq_i ?_
  | with_reducible refine f_ne_i ?_
  | with_reducible refine f_eq_b ?_
  | with_reducible refine f_ne_b ?_
  | with_reducible refine f_is_n ?_
  | with_reducible refine f_isnot_n ?_
  | with_reducible refine f_is_i ?_
  | with_reducible refine f_isnot_i ?_
  | with_reducible refine f_is_b ?_
  | with_reducible refine f_isnot_b ?_
  | with_reducible refine f_is_s ?_
  | with_reducible refine f_isnot_s ?_
  | with_reducible refine f_is_l ?_
  | with_reducible refine f_isnot_l ?_
  | with_reducible refine f_is_t ?_
  | with_reducible refine f_isnot_t ?_
  | with_reducible refine f_is_r ?_
  | with_reducible refine f_isnot_r ?_
  | with_reducible refine f_is ?_
  | with_reducible refine f_isnot ?_
  | with_reducible refine f_neg ?_
  | with_reducible refine f_len_ml ?_
  | with_reducible refine f_len_mt ?_
  | with_reducible refine f_sum_l ?_
  | with_reducible refine f_sum_t ?_
  | with_reducible refine f_all ?_
  | with_reducible refine f_any ?_
  | with_reducible refine f_len_l ?_
  | with_reducible refine f_len_t ?_
  | with_reducible refine f_len_c ?_
  | with_reducible refine f_abs ?_
  | with_reducible refine f_min2 ?_
  | with_reducible refine f_max2 ?_
  | with_reducible refine f_list_l ?_
  | with_reducible refine f_list_t ?_
  | with_reducible refine f_tup_l ?_
  | with_reducible refine f_tup_t ?_
  | with_reducible refine f_int_i ?_
  | with_reducible refine f_int_b ?_
  | with_reducible refine f_sl_l ?_
  | with_reducible refine f_sl_t ?_
  | with_reducible refine f_tr_n ?_
  | with_reducible refine f_tr_b ?_
  | with_reducible refine f_tr_i ?_
  | with_reducible refine f_tr_l ?_
  | with_reducible refine f_tr_t ?_
  | with_reducible refine f_tr_c ?_)
local macro_rules | `(tactic| walk_at "w") => `(tactic| first
  | walk_at "v"
  | with_reducible refine ev_rev ?_
  | with_reducible refine ev_sset ?_
  | with_reducible refine ev_lcl ?_
  | with_reducible refine ev_lct ?_
  | with_reducible refine ev_lcs ?_
  | with_reducible refine ev_lc1 ?_
  | with_reducible refine ev_lc2 ?_
  | with_reducible refine st_forl ?_
  | with_reducible refine st_fort ?_
  | with_reducible refine st_fors ?_
  | with_reducible refine st_for1 ?_
  | with_reducible refine st_for2 ?_
  | with_reducible refine ex_bl ?_
  | with_reducible refine ex_in ?_
  | with_reducible refine ex_ls ?_
  | with_reducible refine ex_tu ?_
  | with_reducible refine ex_st ?_
  | with_reducible refine ex_d0 ?_
  | with_reducible refine ex_d1 ?_
  | with_reducible refine ex_d2 ?_
  | with_reducible refine ex_d3 ?_
  | with_reducible refine ex_d4 ?_
  | with_reducible refine ex_d5 ?_
  | with_reducible refine ex_d6 ?_
  | with_reducible refine ex_d7 ?_
  | with_reducible refine ex_d8 ?_
  | with_reducible refine m_and ?_
  | with_reducible refine i_t ?_
  | with_reducible refine i_f ?_
  | with_reducible refine i_nt ?_
  | with_reducible refine i_nf ?_
  | with_reducible refine ev_tup ?_
  | with_reducible refine ev_lst ?_
  | with_reducible refine ev_int ?_
  | with_reducible refine ea_cons ?_
  | with_reducible refine ea_nil ?_
  | with_reducible refine ev_op ?_
  | with_reducible refine st_seq ?_
  | with_reducible refine st_asg ?_
  | with_reducible refine ev_call ?_
  | with_reducible refine ev_cb ?_
  | with_reducible refine st_if ?_
  | with_reducible refine et_test ?_
  | with_reducible refine et_not ?_
  | with_reducible refine et_or ?_
  | with_reducible refine et_and ?_
  | with_reducible refine et_tru ?_
  | with_reducible refine et_yes ?_
  | with_reducible refine et_B ?_
  | with_reducible refine ev_chain ?_
  | with_reducible refine ev_chain3 ?_
  | with_reducible refine ev_un ?_
  | with_reducible refine ev_if ?_
  | with_reducible refine ev_bl ?_
  | with_reducible refine ev_non ?_
  | with_reducible refine ev_str ?_
  | with_reducible refine ev_andV ?_
  | with_reducible refine ev_orV ?_
  | with_reducible refine ev_notV ?_
  | with_reducible refine ev_isB ?_
  | with_reducible refine ev_isE ?_
  | with_reducible refine ev_sl2 ?_
  | with_reducible refine ev_slA ?_
  | with_reducible refine ev_slB ?_
  | with_reducible refine ev_bmL ?_
  | with_reducible refine ev_bmL0 ?_
  | with_reducible refine st_ret ?_
  | with_reducible refine st_drop ?_
  | with_reducible refine st_next ?_
  | with_reducible refine st_setL ?_
  | with_reducible refine st_asgG ?_
  | with_reducible refine st_raise ?_
  | with_reducible refine gt_name ?_
  | with_reducible refine gt_tup2 ?_
  | with_reducible refine gt_tup3 ?_
  | walk_at "f")
local macro_rules | `(tactic| walk_at "r") => `(tactic| repeat walk_at "w")

def S_look_all : SpD := fun es m R XR => ∃ (n l : Int) (qs : List (List Int)), es = [.d (.int n), .d (.int l), .d (dQs qs)] ∧ (∀ q ∈ qs, q.length < 64) ∧
  (¬ GameOk n l → XR .game m) ∧ (GameOk n l → ¬ (qs.length ≤ 40 ∧ ∀ q ∈ qs, QOk n q) → XR .question m) ∧ (GameOk n l → qs.length ≤ 40 → (∀ q ∈ qs, QOk n q) → R (.d .non) m)
def rd_look_all (G : Ctx) (W : WX) : TS :=
  tSeq (tDrop (tCallS (spL G S_look_game) (WE W) (tCons (tVar 0) (tCons (tVar 1) (tNil)))))
  (tSeq (tIfS (tTest (tOp (rD2 G gtF) (tCB (rDn G lenF) (tCons (tVar 2) (tNil))) (tC (.int 40)))) (tRaise W (G.has .question) (G.ex .question)) (tNext))
  (tFor (iList G.K (tVar 2)) (gName 3) (tDrop (tCallS (spL G S_look_question) (WE W) (tCons (tVar 0) (tCons (tVar 3) (tNil)))))))

theorem len_look_all : ∀ es m R XR, S_look_all es m R XR → es.length = 3 := by
  rintro es m R XR ⟨a, b, qs, rfl, _⟩
  rfl
theorem sem_look_all (G : Ctx) : BodyD G 4 (rd_look_all G) S_look_all := by
  rintro W es m R XR ⟨n, l, qs, rfl, hq, h1, h2, h3⟩
  unfold rd_look_all
  walk_at "r"
  refine ⟨n, l, rfl, fun g => ?_, fun g => h1 g⟩
  walk_at "r"
  refine i_d (fun a => ?_) (fun a => ?_)
  · walk_at "r"
    exact h2 g fun q => by omega
  · walk_at "r"
    refine forL qs (fun q => .d (dInts q)) (fun pre ds' m' => m = m' ∧ (∀ q ∈ pre, QOk n q) ∧ ∃ o, ds' = [some (.d (.int n)), some (.d (.int l)), some (.d (dQs qs)), o]) (by rw [List.map_map]; rfl) ⟨rfl, (fun _ z => nomatch z), none, rfl⟩ ?_ ?_
    · rintro pre q post ds' m' e ⟨rfl, hp, o, rfl⟩
      walk_at "r"
      refine ⟨n, q, _, rfl, rfl, hq q (by rw [e]; simp), fun k => ?_, fun k => ?_⟩
      · exact ⟨rfl, fun z hz => by
          rcases List.mem_append.mp hz with y | y
          · exact hp z y
          · rw [List.mem_singleton.mp y]; exact k, _, rfl⟩
      · exact h2 g fun z => k (z.2 q (by rw [e]; simp))
    · rintro ds' m' ⟨rfl, hp, _⟩
      exact h3 g (by omega) hp
/-! ### how far two things are apart -/
def farN (a b : Int) (qs : List (List Int)) : Nat := (qs.filter fun q => decide (a ∈ q) != decide (b ∈ q)).length
def S_far : SpD := fun es m R _ => ∃ (a b : Int) (qs : List (List Int)), es = [.d (.int a), .d (.int b), .d (dQs qs)] ∧ qs.length ≤ 50000 ∧ R (.d (.int (farN a b qs))) m
def rd_far (G : Ctx) (W : WX) : TS :=
  tRet (tCB (rDn G lenF) (tCons (tLc (iList G.K (tVar 2)) (gName 3) (tTest (tOp (rD2 G neF) (tOp (rD2 G inF) (tVar 0) (tVar 3)) (tOp (rD2 G inF) (tVar 1) (tVar 3)))) (tVar 3) [3]) (tNil)))

theorem len_far : ∀ es m R XR, S_far es m R XR → es.length = 3 := by
  rintro es m R XR ⟨a, b, qs, rfl, _⟩
  rfl
theorem sem_far (G : Ctx) : BodyD G 4 (rd_far G) S_far := by
  rintro W es m R XR ⟨a, b, qs, rfl, hl, h⟩
  unfold rd_far
  walk_at "r"
  refine lcF qs (fun q => .d (dInts q)) (fun q => decide (a ∈ q) != decide (b ∈ q)) dInts (by rw [List.map_map]; rfl) hl (fun q M hq hM => ⟨_, .name (by decide), ?_, fun _ => ?_⟩) ?_
  · walk_at "r"
    exact rfl
  · walk_at "r"
    exact rfl
  · walk_at "r"
    exact h
/-! ### the nearest two -/
def nearAt (qs : List (List Int)) (best : Option (List Int)) (other one : Nat) : Option (List Int) :=
  match best with
  | none => some [(farN one other qs : Int), one, other]
  | some b => if HT.lexLt [(farN one other qs : Int), one, other] b then some [(farN one other qs : Int), one, other] else some b
def nearIn (qs : List (List Int)) (best : Option (List Int)) (other k : Nat) : Option (List Int) := (List.range k).foldl (fun b one => nearAt qs b other one) best
def nearN (n : Nat) (qs : List (List Int)) : Option (List Int) := (List.range n).foldl (fun b other => nearIn qs b other other) none
def dOpt : Option (List Int) → D
  | none => .non
  | some ns => dTup ns
def S_nearest : SpD := fun es m R _ => ∃ (n : Nat) (qs : List (List Int)), es = [.d (.int n), .d (dQs qs)] ∧ n ≤ 64 ∧ qs.length ≤ 50000 ∧ R (.d (dOpt (nearN n qs))) m
def rd_nearest (G : Ctx) (W : WX) : TS :=
  tSeq (tAsg (tC .non) (gName 2))
  (tSeq (tFor (iRng1 (tCons (tVar 0) (tNil))) (gName 3) (tFor (iRng1 (tCons (tVar 3) (tNil))) (gName 4) (tSeq (tAsg (tTup (tCons (tCallS (spL G S_far) (WE W) (tCons (tVar 4) (tCons (tVar 3) (tCons (tVar 1) (tNil))))) (tCons (tVar 4) (tCons (tVar 3) (tNil))))) (gName 5))
  (tAsg (tIf (tOr (tTest (tOp (rD2 G isF) (tVar 2) (tC .non))) (tTest (tOp (rD2 G ltF) (tVar 5) (tVar 2)))) (tVar 5) (tVar 2)) (gName 2)))))
  (tRet (tVar 2)))

theorem len_nearest : ∀ es m R XR, S_nearest es m R XR → es.length = 2 := by
  rintro es m R XR ⟨a, qs, rfl, _⟩
  rfl
theorem nearIn_succ (qs : List (List Int)) (b : Option (List Int)) (i k : Nat) : nearIn qs b i (k + 1) = nearAt qs (nearIn qs b i k) i k := foldl_range_succ _ _ _
theorem sem_nearest (G : Ctx) : BodyD G 6 (rd_nearest G) S_nearest := by
  rintro W es m R XR ⟨n, qs, rfl, hn, hl, h⟩
  unfold rd_nearest
  walk_at "r"
  refine ⟨_, rfl, by omega, by omega, forN (fun i ds' m' => m = m' ∧ ∃ o1 o2 o3, ds' = [some (.d (.int n)), some (.d (dQs qs)), some (.d (dOpt ((List.range i).foldl (fun b other => nearIn qs b other other) none))), o1, o2, o3]) ⟨rfl, none, none, none, rfl⟩ ?_ ?_⟩
  · rintro i ds' m' hi ⟨rfl, o1, o2, o3, rfl⟩
    walk_at "r"
    rw [Int.zero_add]
    rw [foldl_range_succ]
    generalize (List.range i).foldl (fun b other => nearIn qs b other other) none = best
    refine ⟨_, rfl, by omega, by omega, ?_⟩
    rw [Int.toNat_natCast]
    refine forN (fun k ds' m' => m = m' ∧ ∃ o2 o3, ds' = [some (.d (.int n)), some (.d (dQs qs)), some (.d (dOpt (nearIn qs best i k))), some (.d (.int (i : Nat))), o2, o3]) ⟨rfl, o2, o3, rfl⟩ ?_ ?_
    · rintro k ds' m' hk ⟨rfl, o4, o5, rfl⟩
      walk_at "r"
      rw [Int.zero_add]
      refine ⟨_, _, qs, rfl, hl, ?_⟩
      rw [nearIn_succ]
      generalize nearIn qs best i k = b
      cases b with
      | none =>
        dsimp only [dOpt]
        walk_at "r"
        exact ⟨_, _, rfl⟩
      | some b =>
        dsimp only [dOpt]
        walk_at "r"
        refine ⟨[(farN k i qs : Int), k, i], b, rfl, rfl, ?_⟩
        walk_at "r"
        refine i_b (fun e => ?_) (fun e => ?_)
        · rw [show nearAt qs (some b) i k = some [(farN k i qs : Int), k, i] from if_pos e]
          walk_at "r"
          exact ⟨_, _, rfl⟩
        · rw [show nearAt qs (some b) i k = some b from if_neg (by rw [e]; decide)]
          walk_at "r"
          exact ⟨_, _, rfl⟩
    · rintro ds' m' ⟨rfl, o4, o5, rfl⟩
      exact ⟨rfl, _, _, _, rfl⟩
  · rintro ds' m' ⟨rfl, o1, o2, o3, rfl⟩
    walk_at "r"
    exact h
/-! ### whether questions work -/
def worksN (n : Nat) (l : Int) (qs : List (List Int)) : Bool :=
  match nearN n qs with
  | none => true
  | some b => decide (2 * l < b.headD 0)
theorem nearAt_len {qs : List (List Int)} {b : Option (List Int)} {i k : Nat} (h : ∀ x, b = some x → x.length = 3) : ∀ x, nearAt qs b i k = some x → x.length = 3 := by
  intro x e
  unfold nearAt at e
  split at e
  · cases e; rfl
  · split at e
    · cases e; rfl
    · cases e; exact h _ rfl
theorem nearIn_len {qs : List (List Int)} {b : Option (List Int)} {i : Nat} (h : ∀ x, b = some x → x.length = 3) : ∀ k x, nearIn qs b i k = some x → x.length = 3
  | 0, x, e => h x e
  | k + 1, x, e => by rw [nearIn_succ] at e; exact nearAt_len (nearIn_len h k) x e
theorem nearN_len {n : Nat} {qs : List (List Int)} : ∀ x, nearN n qs = some x → x.length = 3 := by
  unfold nearN
  induction n with
  | zero => intro x e; cases e
  | succ n ih => rw [foldl_range_succ]; exact nearIn_len ih n
def S_works : SpD := fun es m R XR => ∃ (n l : Int) (qs : List (List Int)), es = [.d (.int n), .d (.int l), .d (dQs qs)] ∧ (∀ q ∈ qs, q.length < 64) ∧
  (¬ GameOk n l → XR .game m) ∧ (GameOk n l → ¬ (qs.length ≤ 40 ∧ ∀ q ∈ qs, QOk n q) → XR .question m) ∧ (GameOk n l → qs.length ≤ 40 → (∀ q ∈ qs, QOk n q) → R (.d (.bl (worksN n.toNat l qs))) m)
def rd_works (G : Ctx) (W : WX) : TS :=
  tSeq (tDrop (tCallS (spL G S_look_all) (WE W) (tCons (tVar 0) (tCons (tVar 1) (tCons (tVar 2) (tNil))))))
  (tSeq (tAsg (tCallS (spL G S_nearest) (WE W) (tCons (tVar 0) (tCons (tVar 2) (tNil)))) (gName 3))
  (tRet (tOrV (tOp (rD2 G isF) (tVar 3) (tC .non)) (tOp (rD2 G gtF) (tOp (rD2 G idxF) (tVar 3) (tC (.int 0))) (tOp (rD2 G mulF) (tC (.int 2)) (tVar 1))))))

theorem len_works : ∀ es m R XR, S_works es m R XR → es.length = 3 := by
  rintro es m R XR ⟨a, b, qs, rfl, _⟩
  rfl
theorem sem_works (G : Ctx) : BodyD G 4 (rd_works G) S_works := by
  rintro W es m R XR ⟨n, l, qs, rfl, hq, h1, h2, h3⟩
  unfold rd_works
  walk_at "r"
  refine ⟨n, l, qs, rfl, hq, h1, h2, fun g a b => ?_⟩
  obtain ⟨g1, g2, g3, g4⟩ := id g
  obtain ⟨k, rfl⟩ := Int.eq_ofNat_of_zero_le (show 0 ≤ n by omega)
  walk_at "r"
  refine ⟨k, qs, rfl, by omega, by omega, ?_⟩
  have hh := h3 g a b
  rw [Int.toNat_natCast] at hh
  unfold worksN at hh
  cases e : nearN k qs with
  | none =>
    rw [e] at hh
    dsimp only [dOpt]
    walk_at "r"
    exact hh
  | some t =>
    rw [e] at hh
    have hl := nearN_len t e
    dsimp only [dOpt]
    walk_at "r"
    cases t with
    | nil => cases hl
    | cons x xs =>
      refine ⟨.int x, atI_nat (j := 0) rfl, ?_⟩
      walk_at "r"
      refine ⟨.inl ⟨by decide, by decide⟩, ?_⟩
      walk_at "r"
      exact hh
end Lb

/-! MaF: what is reckoned by the law of questions told at once: plain. -/
namespace Lb
open PySem L2
theorem lex_le {x y : Int} {xs ys : List Int} (h : HT.lexLt (x :: xs) (y :: ys) = true) : x ≤ y := by
  rw [HT.lexLt_cons] at h
  split at h
  · omega
  · have := of_decide_eq_true h
    omega
theorem lex_ge {x y : Int} {xs ys : List Int} (h : ¬ HT.lexLt (x :: xs) (y :: ys) = true) : y ≤ x := by
  rw [HT.lexLt_cons] at h
  split at h
  · omega
  · have : ¬ x < y := fun z => h (decide_eq_true z)
    omega
/-- the nearest of some pairs -/
def PN (qs : List (List Int)) (S : Nat → Nat → Prop) : Option (List Int) → Prop
  | none => ∀ o p, ¬ S o p
  | some b => ∃ o p : Nat, S o p ∧ b = [(farN o p qs : Int), o, p] ∧ ∀ o' p' : Nat, S o' p' → farN o p qs ≤ farN o' p' qs
theorem PN.congr {qs : List (List Int)} {S T : Nat → Nat → Prop} {b : Option (List Int)} (h : PN qs S b) (e : ∀ o p, T o p ↔ S o p) : PN qs T b := by
  have : T = S := by funext o p; exact propext (e o p)
  rw [this]; exact h
theorem PN.step {qs : List (List Int)} {S : Nat → Nat → Prop} {b : Option (List Int)} (h : PN qs S b) (i k : Nat) : PN qs (fun o p => S o p ∨ (o = k ∧ p = i)) (nearAt qs b i k) := by
  cases b with
  | none =>
    refine ⟨k, i, .inr ⟨rfl, rfl⟩, rfl, fun o' p' z => ?_⟩
    rcases z with z | ⟨rfl, rfl⟩
    · exact absurd z (h o' p')
    · exact Nat.le_refl _
  | some b =>
    obtain ⟨o, p, hs, rfl, hm⟩ := h
    unfold nearAt
    dsimp only
    split
    · rename_i c
      have c := lex_le c
      refine ⟨k, i, .inr ⟨rfl, rfl⟩, rfl, fun o' p' z => ?_⟩
      rcases z with z | ⟨rfl, rfl⟩
      · have := hm o' p' z
        omega
      · exact Nat.le_refl _
    · rename_i c
      have c := lex_ge c
      refine ⟨o, p, .inl hs, rfl, fun o' p' z => ?_⟩
      rcases z with z | ⟨rfl, rfl⟩
      · exact hm o' p' z
      · omega
theorem PN.inn {qs : List (List Int)} {S : Nat → Nat → Prop} {b : Option (List Int)} (h : PN qs S b) (i : Nat) : ∀ k, PN qs (fun o p => S o p ∨ (o < k ∧ p = i)) (nearIn qs b i k)
  | 0 => h.congr fun o p => ⟨fun z => z.elim id fun z => absurd z.1 (Nat.not_lt_zero _), .inl⟩
  | k + 1 => by
    rw [nearIn_succ]
    exact ((PN.inn h i k).step i k).congr fun o p => by
      constructor
      · rintro (z | z)
        · exact .inl (.inl z)
        · by_cases e : o = k
          · exact .inr ⟨e, z.2⟩
          · exact .inl (.inr ⟨by omega, z.2⟩)
      · rintro ((z | z) | z)
        · exact .inl z
        · exact .inr ⟨by omega, z.2⟩
        · exact .inr ⟨by omega, z.2⟩
theorem PN.all (qs : List (List Int)) : ∀ n, PN qs (fun o p => o < p ∧ p < n) (nearN n qs)
  | 0 => fun o p z => by omega
  | n + 1 => by
    have h := (PN.all qs n).inn n n
    have e : nearN (n + 1) qs = nearIn qs (nearN n qs) n n := by
      unfold nearN
      rw [foldl_range_succ]
    rw [e]
    exact h.congr fun o p => by omega
theorem works_iff {n : Nat} {l : Int} {qs : List (List Int)} : worksN n l qs = true ↔ ∀ o p : Nat, o < p → p < n → 2 * l < (farN o p qs : Int) := by
  have h := PN.all qs n
  unfold worksN
  cases e : nearN n qs with
  | none =>
    rw [e] at h
    exact ⟨fun _ o p h1 h2 => absurd ⟨h1, h2⟩ (h o p), fun _ => rfl⟩
  | some b =>
    rw [e] at h
    obtain ⟨o, p, hs, rfl, hm⟩ := h
    constructor
    · intro z o' p' h1 h2
      have z := of_decide_eq_true z
      have := hm o' p' ⟨h1, h2⟩
      have z2 : 2 * l < (farN o p qs : Int) := z
      omega
    · intro z
      exact decide_eq_true (z o p hs.1 hs.2)
def lworksN (n : Nat) (l : Int) (qs : List (List Int)) : Bool := (List.range n).all fun p => (List.range p).all fun o => decide (2 * l < (farN o p qs : Int))
theorem lworks_eq (n : Nat) (l : Int) (qs : List (List Int)) : lworksN n l qs = worksN n l qs := by
  rw [Bool.eq_iff_iff, works_iff]
  unfold lworksN
  simp only [List.all_eq_true, List.mem_range, decide_eq_true_eq]
  exact ⟨fun h o p h1 h2 => h p h2 o h1, fun h p h2 o h1 => h o p h1 h2⟩
/-! ### lies -/
def liedN (qs : List (List Int)) (bs : List Bool) (t : Int) : Nat := ((List.range bs.length).filter fun k => decide (t ∈ qs.getD k []) != bs.getD k false).length
def liedZ (t : Int) : List (List Int) → List Bool → Nat
  | q :: qs, b :: bs => (if (decide (t ∈ q) != b) = true then 1 else 0) + liedZ t qs bs
  | _, _ => 0
theorem liedN_eq (t : Int) : ∀ (qs : List (List Int)) (bs : List Bool), qs.length = bs.length → liedN qs bs t = liedZ t qs bs
  | [], [], _ => rfl
  | q :: qs, b :: bs, h => by
    have ih := liedN_eq t qs bs (by simpa using h)
    unfold liedN at ih ⊢
    rw [List.length_cons, List.range_succ_eq_map, List.filter_cons, List.filter_map]
    have e : ((fun k => decide (t ∈ (q :: qs).getD k []) != (b :: bs).getD k false) ∘ Nat.succ) = fun k => decide (t ∈ qs.getD k []) != bs.getD k false := by
      funext k
      simp
    rw [e]
    have e0 : (decide (t ∈ (q :: qs).getD 0 []) != (b :: bs).getD 0 false) = (decide (t ∈ q) != b) := rfl
    rw [e0]
    show _ = (if (decide (t ∈ q) != b) = true then 1 else 0) + liedZ t qs bs
    rw [← ih]
    by_cases c : (decide (t ∈ q) != b) = true
    · rw [if_pos c, if_pos c, List.length_cons, List.length_map]
      omega
    · rw [if_neg c, if_neg c, List.length_map]
      omega
theorem liedZ_app (t : Int) (q : List Int) (b : Bool) : ∀ (qs : List (List Int)) (bs : List Bool), qs.length = bs.length → liedZ t (qs ++ [q]) (bs ++ [b]) = liedZ t qs bs + (if (decide (t ∈ q) != b) = true then 1 else 0)
  | [], [], _ => by simp [liedZ]
  | x :: qs, y :: bs, h => by
    have ih := liedZ_app t q b qs bs (by simpa using h)
    simp only [List.cons_append, liedZ, ih]
    omega
theorem farN_app (a b : Int) (qs : List (List Int)) (q : List Int) : farN a b (qs ++ [q]) = farN a b qs + (if (decide (a ∈ q) != decide (b ∈ q)) = true then 1 else 0) := by
  unfold farN
  rw [List.filter_append, List.length_append, List.filter_cons, List.filter_nil]
  split <;> rfl
theorem farN_cons (a b : Int) (qs : List (List Int)) (q : List Int) : farN a b (q :: qs) = (if (decide (a ∈ q) != decide (b ∈ q)) = true then 1 else 0) + farN a b qs := by
  unfold farN
  rw [List.filter_cons]
  split
  · rw [List.length_cons]; omega
  · omega
/-- three sides -/
theorem far_le (a b : Int) : ∀ (qs : List (List Int)) (bs : List Bool), qs.length = bs.length → farN a b qs ≤ liedZ a qs bs + liedZ b qs bs
  | [], [], _ => Nat.le_refl _
  | q :: qs, c :: bs, h => by
    have ih := far_le a b qs bs (by simpa using h)
    rw [farN_cons]
    simp only [liedZ]
    generalize decide (a ∈ q) = x
    generalize decide (b ∈ q) = y
    cases x <;> cases y <;> cases c <;> simp <;> omega
theorem far_sym (a b : Int) (qs : List (List Int)) : farN a b qs = farN b a qs := by
  unfold farN
  congr 1
  apply List.filter_congr
  intro q _
  cases decide (a ∈ q) <;> cases decide (b ∈ q) <;> rfl
theorem lied_word (t : Int) : ∀ qs : List (List Int), liedZ t qs (qs.map fun q => decide (t ∈ q)) = 0
  | [] => rfl
  | q :: qs => by
    rw [List.map_cons, liedZ, lied_word t qs]
    simp
theorem lied_set (t : Int) (c : Bool) : ∀ (qs : List (List Int)) (bs : List Bool) (j : Nat), liedZ t qs (bs.set j c) ≤ liedZ t qs bs + 1
  | [], bs, j => by simp [liedZ]
  | q :: qs, [], j => by simp [liedZ]
  | q :: qs, b :: bs, 0 => by
    simp only [List.set_cons_zero, liedZ]
    split <;> split <;> omega
  | q :: qs, b :: bs, j + 1 => by
    have := lied_set t c qs bs j
    simp only [List.set_cons_succ, liedZ]
    omega
def decN (n : Nat) (l : Int) (qs : List (List Int)) (bs : List Bool) : List Int := ((List.range n).filter fun t => decide ((liedN qs bs (t : Nat) : Int) ≤ l)).map fun t => ((t : Nat) : Int)
theorem filter_one (h : Nat) : ∀ n : Nat, (List.range n).filter (fun t => decide (t = h)) = if h < n then [h] else []
  | 0 => rfl
  | n + 1 => by
    rw [List.range_succ, List.filter_append, filter_one h n, List.filter_cons, List.filter_nil]
    by_cases a : h < n
    · have b : ¬ n = h := by omega
      have c : h < n + 1 := by omega
      simp [a, b, c]
    · by_cases b : n = h
      · subst b
        simp
      · have c : ¬ h < n + 1 := by omega
        simp [a, b, c]
theorem dec_one {n h : Nat} {l : Int} {qs : List (List Int)} {bs : List Bool} (hw : worksN n l qs = true) (hl : qs.length = bs.length) (hh : h < n) (hb : (liedN qs bs (h : Int) : Int) ≤ l) : decN n l qs bs = [(h : Int)] := by
  unfold decN
  have e : (List.range n).filter (fun t => decide ((liedN qs bs (t : Nat) : Int) ≤ l)) = (List.range n).filter (fun t => decide (t = h)) := by
    apply List.filter_congr
    intro t ht
    have ht := List.mem_range.mp ht
    by_cases c : t = h
    · rw [decide_eq_true c, c, decide_eq_true hb]
    · rw [decide_eq_false c]
      apply decide_eq_false
      intro z
      have w := works_iff.mp hw
      have f := far_le (t : Int) (h : Int) qs bs hl
      rw [← liedN_eq _ _ _ hl, ← liedN_eq _ _ _ hl] at f
      rcases Nat.lt_or_gt_of_ne c with c | c
      · have := w t h c hh
        omega
      · have := w h t c ht
        rw [far_sym] at this
        omega
  rw [e, filter_one, if_pos hh]
  rfl
/-! ### fooled -/
def ansStep (many : Int) (one other : Int) (s : List Bool × Int) (q : List Int) : List Bool × Int :=
  if ((decide (one ∈ q) != decide (other ∈ q)) && decide (s.2 < (many + 1) / 2)) = true then (s.1 ++ [!decide (one ∈ q)], s.2 + 1) else (s.1 ++ [decide (one ∈ q)], s.2)
def ansN (many one other : Int) (qs : List (List Int)) : List Bool × Int := qs.foldl (ansStep many one other) ([], 0)
theorem ansN_app (many one other : Int) (qs : List (List Int)) (q : List Int) : ansN many one other (qs ++ [q]) = ansStep many one other (ansN many one other qs) q := by
  unfold ansN
  rw [List.foldl_append]
  rfl
def fooledN (n : Nat) (l : Int) (qs : List (List Int)) : Option (Int × Int × List Bool) :=
  match nearN n qs with
  | none => none
  | some b => if 2 * l < b.headD 0 then none else some (b.getD 1 0, b.getD 2 0, (ansN (b.headD 0) (b.getD 1 0) (b.getD 2 0) qs).1)
theorem ans_inv (many one other : Int) (hm : 0 ≤ many) : ∀ (qs : List (List Int)), (ansN many one other qs).1.length = qs.length ∧ (liedZ one qs (ansN many one other qs).1 : Int) = (ansN many one other qs).2 ∧
    (liedZ other qs (ansN many one other qs).1 : Int) = farN one other qs - (ansN many one other qs).2 ∧ (ansN many one other qs).2 ≤ (many + 1) / 2 ∧ ((ansN many one other qs).2 < (many + 1) / 2 → (ansN many one other qs).2 = farN one other qs) := by
  intro qs
  induction qs using snoc_ind with
  | nil =>
    refine ⟨rfl, rfl, rfl, ?_, fun _ => rfl⟩
    show (0 : Int) ≤ (many + 1) / 2
    omega
  | snoc qs q ih =>
    rw [ansN_app]
    revert ih
    generalize ansN many one other qs = s
    obtain ⟨bs, k⟩ := s
    rintro ⟨h1, h2, h3, h4, h5⟩
    have h1 : bs.length = qs.length := h1
    have h2 : (liedZ one qs bs : Int) = k := h2
    have h3 : (liedZ other qs bs : Int) = farN one other qs - k := h3
    have h4 : k ≤ (many + 1) / 2 := h4
    have h5 : k < (many + 1) / 2 → k = farN one other qs := h5
    unfold ansStep
    dsimp only
    rw [farN_app]
    by_cases c : k < (many + 1) / 2
    · have h5 := h5 c
      rw [decide_eq_true c, Bool.and_true]
      by_cases d : (decide (one ∈ q) != decide (other ∈ q)) = true
      · rw [if_pos d, if_pos d]
        refine ⟨by simp [h1], ?_, ?_, ?_, fun _ => ?_⟩
        · show ((liedZ one (qs ++ [q]) (bs ++ [!decide (one ∈ q)]) : Nat) : Int) = k + 1
          rw [liedZ_app _ _ _ _ _ h1.symm, if_pos (by cases decide (one ∈ q) <;> rfl)]
          omega
        · show ((liedZ other (qs ++ [q]) (bs ++ [!decide (one ∈ q)]) : Nat) : Int) = _ - (k + 1)
          rw [liedZ_app _ _ _ _ _ h1.symm, if_neg (by revert d; cases decide (one ∈ q) <;> cases decide (other ∈ q) <;> decide)]
          omega
        · show k + 1 ≤ _
          omega
        · show k + 1 = _
          omega
      · rw [if_neg d, if_neg d]
        refine ⟨by simp [h1], ?_, ?_, h4, fun _ => ?_⟩
        · show ((liedZ one (qs ++ [q]) (bs ++ [decide (one ∈ q)]) : Nat) : Int) = k
          rw [liedZ_app _ _ _ _ _ h1.symm, if_neg (by cases decide (one ∈ q) <;> decide)]
          omega
        · show ((liedZ other (qs ++ [q]) (bs ++ [decide (one ∈ q)]) : Nat) : Int) = _ - k
          rw [liedZ_app _ _ _ _ _ h1.symm, if_neg (by revert d; cases decide (one ∈ q) <;> cases decide (other ∈ q) <;> decide)]
          omega
        · show k = _
          omega
    · rw [decide_eq_false c, Bool.and_false, if_neg Bool.false_ne_true]
      refine ⟨by simp [h1], ?_, ?_, h4, fun z => absurd z c⟩
      · show ((liedZ one (qs ++ [q]) (bs ++ [decide (one ∈ q)]) : Nat) : Int) = k
        rw [liedZ_app _ _ _ _ _ h1.symm, if_neg (by cases decide (one ∈ q) <;> decide)]
        omega
      · show ((liedZ other (qs ++ [q]) (bs ++ [decide (one ∈ q)]) : Nat) : Int) = _ - k
        rw [liedZ_app _ _ _ _ _ h1.symm]
        by_cases d : (decide (one ∈ q) != decide (other ∈ q)) = true
        · rw [if_pos d, if_pos (by revert d; cases decide (one ∈ q) <;> cases decide (other ∈ q) <;> decide)]
          omega
        · rw [if_neg d, if_neg (by revert d; cases decide (one ∈ q) <;> cases decide (other ∈ q) <;> decide)]
          omega
theorem fooled_none {n : Nat} {l : Int} {qs : List (List Int)} : fooledN n l qs = none ↔ worksN n l qs = true := by
  unfold fooledN worksN
  cases e : nearN n qs with
  | none => simp
  | some b =>
    dsimp only
    split
    · rename_i c
      simp only [c, decide_true]
    · rename_i c
      constructor
      · intro z; cases z
      · intro z; exact absurd (of_decide_eq_true z) c
theorem fooled_some {n : Nat} {l : Int} {qs : List (List Int)} {a b : Int} {bs : List Bool} (h : fooledN n l qs = some (a, b, bs)) : 0 ≤ a ∧ a < b ∧ b < n ∧ bs.length = qs.length ∧ (liedN qs bs a : Int) ≤ l ∧ (liedN qs bs b : Int) ≤ l := by
  have pn := PN.all qs n
  unfold fooledN at h
  cases e : nearN n qs with
  | none => rw [e] at h; cases h
  | some t =>
    rw [e] at h pn
    obtain ⟨o, p, hs, rfl, hm⟩ := pn
    dsimp only at h
    split at h
    · cases h
    · rename_i c
      have c : ¬ 2 * l < (farN o p qs : Int) := c
      have h := Option.some.inj h
      obtain ⟨e1, h⟩ := Prod.mk.inj h
      obtain ⟨e2, e3⟩ := Prod.mk.inj h
      subst e1 e2 e3
      have g : (ansN (farN o p qs : Int) (o : Int) (p : Int) qs).1.length = qs.length ∧ _ := ans_inv (farN o p qs : Int) (o : Int) (p : Int) (by omega) qs
      show 0 ≤ (o : Int) ∧ (o : Int) < (p : Int) ∧ (p : Int) < n ∧ (ansN (farN o p qs : Int) (o : Int) (p : Int) qs).1.length = qs.length ∧ (liedN qs (ansN (farN o p qs : Int) (o : Int) (p : Int) qs).1 (o : Int) : Int) ≤ l ∧ (liedN qs (ansN (farN o p qs : Int) (o : Int) (p : Int) qs).1 (p : Int) : Int) ≤ l
      rw [liedN_eq _ _ _ g.1.symm, liedN_eq _ _ _ g.1.symm]
      obtain ⟨g1, g2, g3, g4, g5⟩ := g
      refine ⟨by omega, by omega, by omega, g1, ?_, ?_⟩
      · omega
      · by_cases z : (ansN (farN o p qs : Int) (o : Int) (p : Int) qs).2 < ((farN o p qs : Int) + 1) / 2
        · have := g5 z
          omega
        · omega
end Lb

/-! SmF: questions told at once: what the defs do. -/
namespace Lb
open PySem L2
local macro_rules | `(tactic| walk_at "v") => `(tactic| ((with_reducible refine ev_var (d := ?dv) ?hv ?_); (case hv => exact rfl)))
local macro_rules | `(tactic| walk_at "f") => `(tactic| first
  | with_reducible refine f_in ?_
  | with_reducible refine f_notin ?_
  | with_reducible refine f_add_i ?_
  | with_reducible refine f_add_s ?_
  | with_reducible refine f_add_l ?_
  | with_reducible refine f_add_t ?_
  | with_reducible refine f_sub ?_
  | with_reducible refine f_mul_i ?_
  | with_reducible refine f_mul_l ?_
  | with_reducible refine f_mul_t ?_
  | with_reducible refine f_div ?_
  | with_reducible refine f_mod ?_
  | with_reducible refine f_pow ?_
  | with_reducible refine f_lt ?_
  | with_reducible refine f_le ?_
  | with_reducible refine f_gt ?_
  | with_reducible refine f_ge ?_
  | with_reducible refine f_eq_i ?_
  | with_reducible refine f_ne_i ?_
  | with_reducible refine f_eq_b ?_
  | with_reducible refine f_ne_b ?_
  | with_reducible refine f_is_n ?_
  | with_reducible refine f_isnot_n ?_
  | with_reducible refine f_is_i ?_
  | with_reducible refine f_isnot_i ?_
  | with_reducible refine f_is_b ?_
  | with_reducible refine f_isnot_b ?_
  | with_reducible refine f_is_s ?_
  | with_reducible refine f_isnot_s ?_
  | with_reducible refine f_is_l ?_
  | with_reducible refine f_isnot_l ?_
  | with_reducible refine f_is_t ?_
  | with_reducible refine f_isnot_t ?_
  | with_reducible refine f_is_r ?_
  | with_reducible refine f_isnot_r ?_
  | with_reducible refine f_is ?_
  | with_reducible refine f_isnot ?_
  | with_reducible refine f_neg ?_
  | with_reducible refine f_len_ml ?_
  | with_reducible refine f_len_mt ?_
  | with_reducible refine f_sum_l ?_
  | with_reducible refine f_sum_t ?_
  | with_reducible refine f_all ?_
  | with_reducible refine f_any ?_
  | with_reducible refine f_len_l ?_
  | with_reducible refine f_len_t ?_
  | with_reducible refine f_len_c ?_
  | with_reducible refine f_abs ?_
  | with_reducible refine f_min2 ?_
  | with_reducible refine f_max2 ?_
  | with_reducible refine f_list_l ?_
  | with_reducible refine f_list_t ?_
  | with_reducible refine f_tup_l ?_
  | with_reducible refine f_tup_t ?_
  | with_reducible refine f_int_i ?_
  | with_reducible refine f_int_b ?_
  | with_reducible refine f_sl_l ?_
  | with_reducible refine f_sl_t ?_
  | with_reducible refine f_tr_n ?_
  | with_reducible refine f_tr_b ?_
  | with_reducible refine f_tr_i ?_
  | with_reducible refine f_tr_l ?_
  | with_reducible refine f_tr_t ?_
  | with_reducible refine f_tr_c ?_)
local macro_rules | `(tactic| walk_at "w") => `(tactic| first
  | walk_at "v"
  | with_reducible refine ev_rev ?_
  | with_reducible refine ev_sset ?_
  | with_reducible refine ev_lcl ?_
  | with_reducible refine ev_lct ?_
  | with_reducible refine ev_lcs ?_
  | with_reducible refine ev_lc1 ?_
  | with_reducible refine ev_lc2 ?_
  | with_reducible refine st_forl ?_
  | with_reducible refine st_fort ?_
  | with_reducible refine st_fors ?_
  | with_reducible refine st_for1 ?_
  | with_reducible refine st_for2 ?_
  | with_reducible refine ex_bl ?_
  | with_reducible refine ex_in ?_
  | with_reducible refine ex_ls ?_
  | with_reducible refine ex_tu ?_
  | with_reducible refine ex_st ?_
  | with_reducible refine ex_d0 ?_
  | with_reducible refine ex_d1 ?_
  | with_reducible refine ex_d2 ?_
  | with_reducible refine ex_d3 ?_
  | with_reducible refine ex_d4 ?_
  | with_reducible refine ex_d5 ?_
  | with_reducible refine ex_d6 ?_
  | with_reducible refine ex_d7 ?_
  | with_reducible refine ex_d8 ?_
  | with_reducible refine m_and ?_
  | with_reducible refine i_t ?_
  | with_reducible refine i_f ?_
  | with_reducible refine i_nt ?_
  | with_reducible refine i_nf ?_
  | with_reducible refine ev_tup ?_
  | with_reducible refine ev_lst ?_
  | with_reducible refine ev_int ?_
  | with_reducible refine ea_cons ?_
  | with_reducible refine ea_nil ?_
  | with_reducible refine ev_op ?_
  | with_reducible refine st_seq ?_
  | with_reducible refine st_asg ?_
  | with_reducible refine ev_call ?_
  | with_reducible refine ev_cb ?_
  | with_reducible refine st_if ?_
  | with_reducible refine et_test ?_
  | with_reducible refine et_not ?_
  | with_reducible refine et_or ?_
  | with_reducible refine et_and ?_
  | with_reducible refine et_tru ?_
  | with_reducible refine et_yes ?_
  | with_reducible refine et_B ?_
  | with_reducible refine ev_chain ?_
  | with_reducible refine ev_chain3 ?_
  | with_reducible refine ev_un ?_
  | with_reducible refine ev_if ?_
  | with_reducible refine ev_bl ?_
  | with_reducible refine ev_non ?_
  | with_reducible refine ev_str ?_
  | with_reducible refine ev_andV ?_
  | with_reducible refine ev_orV ?_
  | with_reducible refine ev_notV ?_
  | with_reducible refine ev_isB ?_
  | with_reducible refine ev_isE ?_
  | with_reducible refine ev_sl2 ?_
  | with_reducible refine ev_slA ?_
  | with_reducible refine ev_slB ?_
  | with_reducible refine ev_bmL ?_
  | with_reducible refine ev_bmL0 ?_
  | with_reducible refine st_ret ?_
  | with_reducible refine st_drop ?_
  | with_reducible refine st_next ?_
  | with_reducible refine st_setL ?_
  | with_reducible refine st_asgG ?_
  | with_reducible refine st_raise ?_
  | with_reducible refine gt_name ?_
  | with_reducible refine gt_tup2 ?_
  | with_reducible refine gt_tup3 ?_
  | walk_at "f")
local macro_rules | `(tactic| walk_at "r") => `(tactic| repeat walk_at "w")

/-! ### fooled -/
def dFool : Option (Int × Int × List Bool) → D
  | none => .non
  | some (a, b, bs) => .tup [.int a, .int b, dBls bs]
def S_fooled : SpD := fun es m R XR => ∃ (n l : Int) (qs : List (List Int)), es = [.d (.int n), .d (.int l), .d (dQs qs)] ∧ (∀ q ∈ qs, q.length < 64) ∧
  (¬ GameOk n l → XR .game m) ∧ (GameOk n l → ¬ (qs.length ≤ 40 ∧ ∀ q ∈ qs, QOk n q) → XR .question m) ∧ (GameOk n l → qs.length ≤ 40 → (∀ q ∈ qs, QOk n q) → R (.d (dFool (fooledN n.toNat l qs))) m)
def rd_fooled (G : Ctx) (W : WX) : TS :=
  tSeq (tDrop (tCallS (spL G S_look_all) (WE W) (tCons (tVar 0) (tCons (tVar 1) (tCons (tVar 2) (tNil))))))
  (tSeq (tAsg (tCallS (spL G S_nearest) (WE W) (tCons (tVar 0) (tCons (tVar 2) (tNil)))) (gName 3))
  (tSeq (tIfS (tOr (tTest (tOp (rD2 G isF) (tVar 3) (tC .non))) (tTest (tOp (rD2 G gtF) (tOp (rD2 G idxF) (tVar 3) (tC (.int 0))) (tOp (rD2 G mulF) (tC (.int 2)) (tVar 1))))) (tRet (tC .non)) (tNext))
  (tSeq (tAsg (tVar 3) (gTup G.K 3 (gCons (gName 4) (gCons (gName 5) (gCons (gName 6) (gNil))))))
  (tSeq (tAsg (tLst (tNil)) (gName 7))
  (tSeq (tAsg (tC (.int 0)) (gName 8))
  (tSeq (tFor (iList G.K (tVar 2)) (gName 9) (tSeq (tAsg (tOp (rD2 G inF) (tVar 5) (tVar 9)) (gName 10))
  (tSeq (tIfS (tAnd (tTest (tOp (rD2 G neF) (tVar 10) (tOp (rD2 G inF) (tVar 6) (tVar 9)))) (tTest (tOp (rD2 G ltF) (tVar 8) (tOp (rD2 G divF) (tOp (rD2 G addF) (tVar 4) (tC (.int 1))) (tC (.int 2)))))) (tSeq (tAsg (tOp (rD2 G addF) (tVar 8) (tC (.int 1))) (gName 8))
  (tAsg (tNotV (tVar 10)) (gName 10))) (tNext))
  (tDrop (tBM G.K "list" (rDM G appendF) (tVar 7) (tCons (tVar 10) (tNil)))))))
  (tRet (tTup (tCons (tVar 5) (tCons (tVar 6) (tCons (tVar 7) (tNil))))))))))))

theorem len_fooled : ∀ es m R XR, S_fooled es m R XR → es.length = 3 := by
  rintro es m R XR ⟨a, b, qs, rfl, _⟩
  rfl
theorem sem_fooled (G : Ctx) : BodyD G 11 (rd_fooled G) S_fooled := by
  rintro W es m R XR ⟨n, l, qs, rfl, hq, h1, h2, h3⟩
  unfold rd_fooled
  walk_at "r"
  refine ⟨n, l, qs, rfl, hq, h1, h2, fun g a b => ?_⟩
  obtain ⟨g1, g2, g3, g4⟩ := id g
  obtain ⟨k, rfl⟩ := Int.eq_ofNat_of_zero_le (show 0 ≤ n by omega)
  walk_at "r"
  refine ⟨k, qs, rfl, by omega, by omega, ?_⟩
  have hh := h3 g a b
  rw [Int.toNat_natCast] at hh
  unfold fooledN at hh
  have pn := PN.all qs k
  cases e : nearN k qs with
  | none =>
    rw [e] at hh
    dsimp only [dOpt]
    walk_at "r"
    exact hh
  | some t =>
    rw [e] at hh pn
    obtain ⟨o, p, hs, rfl, _⟩ := pn
    dsimp only [dOpt]
    walk_at "r"
    refine ⟨.int (farN o p qs), atI_nat (j := 0) rfl, ?_⟩
    walk_at "r"
    refine ⟨.inl ⟨by decide, by decide⟩, ?_⟩
    walk_at "r"
    refine i_d (fun c => ?_) (fun c => ?_)
    · walk_at "r"
      dsimp only at hh
      rw [if_pos (show 2 * l < [(farN o p qs : Int), o, p].headD 0 from c)] at hh
      exact hh
    · refine st_next ?_
      refine st_seq (st_asgG (ev_var rfl (gt_tup3 (x := .int (farN o p qs)) (y := .int o) (z := .int p) ?_)))
      refine st_seq (st_asg (ev_lstO ?_))
      walk_at "r"
      intro ad ha
      walk_at "r"
      dsimp only at hh
      rw [if_neg (show ¬ 2 * l < [(farN o p qs : Int), o, p].headD 0 from c)] at hh
      refine forL qs (fun q => .d (dInts q)) (fun pre ds' m' => mset m ad (.lst ((ansN (farN o p qs) o p pre).1.map D.bl)) = m' ∧ ∃ o9 o10, ds' = [some (.d (.int k)), some (.d (.int l)), some (.d (dQs qs)), some (.d (dTup [(farN o p qs : Int), o, p])), some (.d (.int (farN o p qs))), some (.d (.int o)), some (.d (.int p)), some (.r ad), some (.d (.int (ansN (farN o p qs) o p pre).2)), o9, o10]) (by rw [List.map_map]; rfl) ⟨rfl, none, none, rfl⟩ ?_ ?_
      · rintro pre q post ds' m' e2 ⟨rfl, o9, o10, rfl⟩
        have hb := (ans_inv (farN o p qs) o p (by omega) pre).1
        have hp : pre.length ≤ 40 := by
          have := congrArg List.length e2
          simp at this
          omega
        walk_at "r"
        rw [ansN_app]
        revert hb
        generalize ansN (farN o p qs) o p pre = s
        obtain ⟨bs, c2⟩ := s
        intro hb
        have hb : bs.length = pre.length := hb
        refine i_b (fun d1 => ?_) (fun d1 => ?_)
        · walk_at "r"
          refine ⟨⟨by decide, by decide⟩, ?_⟩
          walk_at "r"
          refine i_d (fun d2 => ?_) (fun d2 => ?_)
          · have eS : ansStep (farN o p qs) o p (bs, c2) q = (bs ++ [!decide ((o : Int) ∈ q)], c2 + 1) := if_pos (by rw [d1, decide_eq_true d2]; rfl)
            rw [eS]
            walk_at "r"
            refine ⟨⟨_, mset_same⟩, ?_⟩
            walk_at "r"
            refine ⟨_, mset_same, by rw [List.length_map]; show bs.length < 100000; omega, ?_, _, _, rfl⟩
            rw [mset_mset, List.map_append]
            rfl
          · have eS : ansStep (farN o p qs) o p (bs, c2) q = (bs ++ [decide ((o : Int) ∈ q)], c2) := if_neg (by rw [d1, decide_eq_false d2]; decide)
            rw [eS]
            walk_at "r"
            refine ⟨⟨_, mset_same⟩, ?_⟩
            walk_at "r"
            refine ⟨_, mset_same, by rw [List.length_map]; show bs.length < 100000; omega, ?_, _, _, rfl⟩
            rw [mset_mset, List.map_append]
            rfl
        · have eS : ansStep (farN o p qs) o p (bs, c2) q = (bs ++ [decide ((o : Int) ∈ q)], c2) := if_neg (by rw [d1]; exact Bool.false_ne_true)
          rw [eS]
          walk_at "r"
          refine ⟨⟨_, mset_same⟩, ?_⟩
          walk_at "r"
          refine ⟨_, mset_same, by rw [List.length_map]; show bs.length < 100000; omega, ?_, _, _, rfl⟩
          rw [mset_mset, List.map_append]
          rfl
      · rintro ds' m' ⟨rfl, o9, o10, rfl⟩
        refine st_frz 7 rfl mset_same ?_
        walk_at "r"
        rw [mdel_mset ha]
        exact hh
/-! ### decoded -/
def S_decoded : SpD := fun es m R XR => ∃ (n l : Int) (qs : List (List Int)) (bs : List Bool), es = [.d (.int n), .d (.int l), .d (dQs qs), .d (dBls bs)] ∧ (∀ q ∈ qs, q.length < 64) ∧ bs.length ≤ 1000 ∧
  (¬ GameOk n l → XR .game m) ∧ (GameOk n l → ¬ (qs.length ≤ 40 ∧ ∀ q ∈ qs, QOk n q) → XR .question m) ∧ (GameOk n l → qs.length ≤ 40 → (∀ q ∈ qs, QOk n q) → bs.length ≠ qs.length → XR .question m) ∧
  (GameOk n l → qs.length ≤ 40 → (∀ q ∈ qs, QOk n q) → bs.length = qs.length → R (.d (dInts (decN n.toNat l qs bs))) m)
def rd_decoded (G : Ctx) (W : WX) : TS :=
  tSeq (tDrop (tCallS (spL G S_look_all) (WE W) (tCons (tVar 0) (tCons (tVar 1) (tCons (tVar 2) (tNil))))))
  (tSeq (tIfS (tTest (tOp (rD2 G neF) (tCB (rDn G lenF) (tCons (tVar 3) (tNil))) (tCB (rDn G lenF) (tCons (tVar 2) (tNil))))) (tRaise W (G.has .question) (G.ex .question)) (tNext))
  (tSeq (tAsg (tLst (tNil)) (gName 4))
  (tSeq (tFor (iRng1 (tCons (tVar 0) (tNil))) (gName 5) (tIfS (tTest (tOp (rD2 G leF) (tCB (rDn G lenF) (tCons (tLc (iRng1 (tCons (tCB (rDn G lenF) (tCons (tVar 3) (tNil))) (tNil))) (gName 6) (tTest (tOp (rD2 G neF) (tOp (rD2 G inF) (tVar 5) (tOp (rD2 G idxF) (tVar 2) (tVar 6))) (tOp (rD2 G idxF) (tVar 3) (tVar 6)))) (tVar 6) [6]) (tNil))) (tVar 1))) (tDrop (tBM G.K "list" (rDM G appendF) (tVar 4) (tCons (tVar 5) (tNil)))) (tNext)))
  (tRet (tVar 4)))))

theorem len_decoded : ∀ es m R XR, S_decoded es m R XR → es.length = 4 := by
  rintro es m R XR ⟨a, b, qs, bs, rfl, _⟩
  rfl
theorem decN_succ (i : Nat) (l : Int) (qs : List (List Int)) (bs : List Bool) : decN (i + 1) l qs bs = decN i l qs bs ++ if decide ((liedN qs bs (i : Nat) : Int) ≤ l) = true then [(i : Int)] else [] := by
  unfold decN
  rw [List.range_succ, List.filter_append, List.map_append, List.filter_cons, List.filter_nil]
  split <;> rfl
theorem decN_len (i : Nat) (l : Int) (qs : List (List Int)) (bs : List Bool) : (decN i l qs bs).length ≤ i := by
  unfold decN
  rw [List.length_map]
  exact Nat.le_trans (List.length_filter_le _ _) (by rw [List.length_range]; exact Nat.le_refl _)
theorem sem_decoded (G : Ctx) : BodyD G 7 (rd_decoded G) S_decoded := by
  rintro W es m R XR ⟨n, l, qs, bs, rfl, hq, hbs, h1, h2, h3, h4⟩
  unfold rd_decoded
  walk_at "r"
  refine ⟨n, l, qs, rfl, hq, h1, h2, fun g a b => ?_⟩
  obtain ⟨g1, g2, g3, g4⟩ := id g
  obtain ⟨k, rfl⟩ := Int.eq_ofNat_of_zero_le (show 0 ≤ n by omega)
  walk_at "r"
  refine i_nd (fun c => ?_) (fun c => ?_)
  · walk_at "r"
    exact h3 g a b fun z => c (by rw [z])
  · have c : bs.length = qs.length := by omega
    have hh := h4 g a b c
    rw [Int.toNat_natCast] at hh
    refine st_next ?_
    refine st_seq (st_asg (ev_lstO ?_))
    walk_at "r"
    intro ad ha
    walk_at "r"
    refine ⟨_, rfl, by omega, by omega, ?_⟩
    rw [Int.toNat_natCast]
    refine forN (fun i ds' m' => mset m ad (.lst ((decN i l qs bs).map D.int)) = m' ∧ ∃ o5 o6, ds' = [some (.d (.int k)), some (.d (.int l)), some (.d (dQs qs)), some (.d (dBls bs)), some (.r ad), o5, o6]) ⟨rfl, none, none, rfl⟩ ?_ ?_
    · rintro i ds' m' hi ⟨rfl, o5, o6, rfl⟩
      walk_at "r"
      refine ⟨_, rfl, by omega, by omega, ?_⟩
      rw [Int.toNat_natCast]
      refine lcF (List.range bs.length) (fun t => .d (.int (0 + (t : Nat)))) (fun t => decide (((i : Nat) : Int) ∈ qs.getD t []) != bs.getD t false) (fun t => .int (0 + (t : Nat))) rfl (by rw [List.length_range]; omega) (fun t M ht hM => ⟨_, .name (by decide), ?_, fun _ => ?_⟩) ?_
      · have ht := List.mem_range.mp ht
        walk_at "r"
        refine ⟨_, atI_qs (by omega), ?_⟩
        walk_at "r"
        refine ⟨_, atI_bs ht, ?_⟩
        walk_at "r"
        rw [Int.zero_add]
      · walk_at "r"
        exact rfl
      · walk_at "r"
        rw [decN_succ]
        have hl := decN_len i l qs bs
        refine i_d (fun d => ?_) (fun d => ?_)
        · rw [if_pos (decide_eq_true (show (liedN qs bs (i : Nat) : Int) ≤ l from d))]
          walk_at "r"
          refine ⟨⟨_, mset_same⟩, ?_⟩
          walk_at "r"
          refine ⟨_, mset_same, by rw [List.length_map]; omega, ?_, _, _, rfl⟩
          rw [mset_mset, List.map_append, Int.zero_add]
          rfl
        · rw [if_neg (by rw [decide_eq_true_eq]; exact d), List.append_nil]
          walk_at "r"
          exact ⟨_, _, rfl⟩
    · rintro ds' m' ⟨rfl, o5, o6, rfl⟩
      refine st_frz 4 rfl mset_same ?_
      walk_at "r"
      rw [mdel_mset ha]
      exact hh
/-! ### the law's own look -/
def S_law_lied : SpD := fun es m R _ => ∃ (qs : List (List Int)) (bs : List Bool) (t : Int), es = [.d (dQs qs), .d (dBls bs), .d (.int t)] ∧ bs.length ≤ qs.length ∧ bs.length ≤ 1000 ∧ R (.d (.int (liedN qs bs t))) m
def rd_law_lied (G : Ctx) (W : WX) : TS :=
  tRet (tCB (rDn G lenF) (tCons (tLc (iRng1 (tCons (tCB (rDn G lenF) (tCons (tVar 1) (tNil))) (tNil))) (gName 3) (tTest (tOp (rD2 G neF) (tOp (rD2 G inF) (tVar 2) (tOp (rD2 G idxF) (tVar 0) (tVar 3))) (tOp (rD2 G idxF) (tVar 1) (tVar 3)))) (tVar 3) [3]) (tNil)))

theorem len_law_lied : ∀ es m R XR, S_law_lied es m R XR → es.length = 3 := by
  rintro es m R XR ⟨a, b, qs, rfl, _⟩
  rfl
theorem sem_law_lied (G : Ctx) : BodyD G 4 (rd_law_lied G) S_law_lied := by
  rintro W es m R XR ⟨qs, bs, t, rfl, hl, hb, h⟩
  unfold rd_law_lied
  walk_at "r"
  refine ⟨_, rfl, by omega, by omega, ?_⟩
  rw [Int.toNat_natCast]
  refine lcF (List.range bs.length) (fun t => .d (.int (0 + (t : Nat)))) (fun k => decide (t ∈ qs.getD k []) != bs.getD k false) (fun t => .int (0 + (t : Nat))) rfl (by rw [List.length_range]; omega) (fun t M ht hM => ⟨_, .name (by decide), ?_, fun _ => ?_⟩) ?_
  · have ht := List.mem_range.mp ht
    walk_at "r"
    refine ⟨_, atI_qs (by omega), ?_⟩
    walk_at "r"
    refine ⟨_, atI_bs ht, ?_⟩
    walk_at "r"
    exact rfl
  · walk_at "r"
    exact rfl
  · walk_at "r"
    exact h
def S_law_works : SpD := fun es m R _ => ∃ (n : Nat) (l : Int) (qs : List (List Int)), es = [.d (.int n), .d (.int l), .d (dQs qs)] ∧ n ≤ 64 ∧ 0 ≤ l ∧ l ≤ 4 ∧ qs.length ≤ 1000 ∧ R (.d (.bl (worksN n l qs))) m
def rd_law_works (G : Ctx) (W : WX) : TS :=
  tSeq (tFor (iRng1 (tCons (tVar 0) (tNil))) (gName 3) (tFor (iRng1 (tCons (tVar 3) (tNil))) (gName 4) (tSeq (tAsg (tCB (rDn G lenF) (tCons (tLc (iList G.K (tVar 2)) (gName 6) (tTest (tOp (rD2 G neF) (tOp (rD2 G inF) (tVar 4) (tVar 6)) (tOp (rD2 G inF) (tVar 3) (tVar 6)))) (tC (.int 1)) [6]) (tNil))) (gName 5))
  (tIfS (tTest (tOp (rD2 G leF) (tVar 5) (tOp (rD2 G mulF) (tC (.int 2)) (tVar 1)))) (tRet (tC (.bl false))) (tNext)))))
  (tRet (tC (.bl true)))

theorem len_law_works : ∀ es m R XR, S_law_works es m R XR → es.length = 3 := by
  rintro es m R XR ⟨a, b, qs, rfl, _⟩
  rfl
theorem works_no {n : Nat} {l : Int} {qs : List (List Int)} {o p : Nat} (h1 : o < p) (h2 : p < n) (h : (farN o p qs : Int) ≤ 2 * l) : worksN n l qs = false := by
  cases e : worksN n l qs with
  | false => rfl
  | true =>
    have := works_iff.mp e o p h1 h2
    omega
theorem sem_law_works (G : Ctx) : BodyD G 7 (rd_law_works G) S_law_works := by
  rintro W es m R XR ⟨n, l, qs, rfl, hn, hl0, hl4, hl, h⟩
  unfold rd_law_works
  walk_at "r"
  refine ⟨_, rfl, by omega, by omega, ?_⟩
  rw [Int.toNat_natCast]
  refine forN (fun i ds' m' => m = m' ∧ (∀ o p : Nat, o < p → p < i → 2 * l < (farN o p qs : Int)) ∧ ∃ o3 o4 o5 o6, ds' = [some (.d (.int n)), some (.d (.int l)), some (.d (dQs qs)), o3, o4, o5, o6]) ⟨rfl, fun o p h1 h2 => absurd h2 (Nat.not_lt_zero _), none, none, none, none, rfl⟩ ?_ ?_
  · rintro i ds' m' hi ⟨rfl, hi2, o3, o4, o5, o6, rfl⟩
    walk_at "r"
    refine ⟨_, rfl, by omega, by omega, ?_⟩
    rw [Int.zero_add, Int.toNat_natCast]
    refine forN (fun k ds' m' => m = m' ∧ (∀ o : Nat, o < k → 2 * l < (farN o i qs : Int)) ∧ ∃ o4 o5 o6, ds' = [some (.d (.int n)), some (.d (.int l)), some (.d (dQs qs)), some (.d (.int (i : Nat))), o4, o5, o6]) ⟨rfl, fun o h1 => absurd h1 (Nat.not_lt_zero _), o4, o5, o6, rfl⟩ ?_ ?_
    · rintro k ds' m' hk ⟨rfl, hk2, o4, o5, o6, rfl⟩
      walk_at "r"
      rw [Int.zero_add]
      refine lcF qs (fun q => .d (dInts q)) (fun q => decide ((k : Int) ∈ q) != decide ((i : Int) ∈ q)) (fun _ => .int 1) (by rw [List.map_map]; rfl) (by omega) (fun q M hq hM => ⟨_, .name (by decide), ?_, fun _ => ?_⟩) ?_
      · walk_at "r"
        exact rfl
      · walk_at "r"
        exact rfl
      · walk_at "r"
        refine ⟨.inl ⟨by decide, by decide⟩, ?_⟩
        walk_at "r"
        refine i_d (fun d => ?_) (fun d => ?_)
        · walk_at "r"
          rw [works_no hk hi d] at h
          exact h
        · walk_at "r"
          refine ⟨fun o ho => ?_, _, _, _, rfl⟩
          by_cases e : o = k
          · rw [e]
            have d : ¬ ((farN k i qs : Nat) : Int) ≤ 2 * l := d
            omega
          · exact hk2 o (by omega)
    · rintro ds' m' ⟨rfl, hk2, o4, o5, o6, rfl⟩
      refine ⟨rfl, fun o p h1 h2 => ?_, _, _, _, _, rfl⟩
      by_cases e : p = i
      · rw [e]; exact hk2 o (by omega)
      · exact hi2 o p h1 (by omega)
  · rintro ds' m' ⟨rfl, hi2, o3, o4, o5, o6, rfl⟩
    walk_at "r"
    rw [works_iff.mpr hi2] at h
    exact h
def S_law_is_fooled : SpD := fun es m R _ => ∃ (n l : Int) (qs : List (List Int)) (a b : Int) (bs : List Bool), es = [.d (.int n), .d (.int l), .d (dQs qs), .d (.tup [.int a, .int b, dBls bs])] ∧ 0 ≤ a ∧ a < b ∧ b < n ∧ bs.length = qs.length ∧ bs.length ≤ 1000 ∧ (liedN qs bs a : Int) ≤ l ∧ (liedN qs bs b : Int) ≤ l ∧ R (.d (.bl true)) m
def rd_law_is_fooled (G : Ctx) (W : WX) : TS :=
  tSeq (tAsg (tVar 3) (gTup G.K 3 (gCons (gName 4) (gCons (gName 5) (gCons (gName 6) (gNil))))))
  (tSeq (tIfS (tOr (tNot (tTest (tChain3 (rD2 G leF) (rD2 G ltF) (rD2 G ltF) (tC (.int 0)) (tVar 4) (tVar 5) (tVar 0)))) (tTest (tOp (rD2 G neF) (tCB (rDn G lenF) (tCons (tVar 6) (tNil))) (tCB (rDn G lenF) (tCons (tVar 2) (tNil)))))) (tRet (tC (.bl false))) (tNext))
  (tRet (tOp (rD2 G leF) (tCB (rDn G maxF) (tCons (tCallS (spL G S_law_lied) (WE W) (tCons (tVar 2) (tCons (tVar 6) (tCons (tVar 4) (tNil))))) (tCons (tCallS (spL G S_law_lied) (WE W) (tCons (tVar 2) (tCons (tVar 6) (tCons (tVar 5) (tNil))))) (tNil)))) (tVar 1))))

theorem len_law_is_fooled : ∀ es m R XR, S_law_is_fooled es m R XR → es.length = 4 := by
  rintro es m R XR ⟨a, b, qs, x, y, z, rfl, _⟩
  rfl
theorem sem_law_is_fooled (G : Ctx) : BodyD G 7 (rd_law_is_fooled G) S_law_is_fooled := by
  rintro W es m R XR ⟨n, l, qs, a, b, bs, rfl, h1, h2, h3, h4, h5, h6, h7, h⟩
  unfold rd_law_is_fooled
  walk_at "r"
  refine i_d (fun _ => ?_) (fun z => absurd h1 z)
  walk_at "r"
  refine i_d (fun _ => ?_) (fun z => absurd h2 z)
  walk_at "r"
  refine i_nd (fun z => absurd h3 z) (fun _ => ?_)
  walk_at "r"
  refine i_nd (fun z => absurd (by rw [h4]) z) (fun _ => ?_)
  walk_at "r"
  refine ⟨qs, bs, a, rfl, by omega, h5, ?_⟩
  walk_at "r"
  refine ⟨qs, bs, b, rfl, by omega, h5, ?_⟩
  walk_at "r"
  rw [decide_eq_true (by split <;> assumption)]
  exact h
end Lb

/-! MaW: ways to lie and weights: plain. -/
namespace Lb
open PySem L2
def bin : Nat → Nat → Nat
  | _, 0 => 1
  | 0, _ + 1 => 0
  | n + 1, k + 1 => bin n k + bin n (k + 1)
theorem bin_zero (n : Nat) : bin n 0 = 1 := by cases n <;> rfl
theorem bin_over : ∀ (n k : Nat), n < k → bin n k = 0
  | 0, k + 1, _ => rfl
  | n + 1, k + 1, h => by
    show bin n k + bin n (k + 1) = 0
    rw [bin_over n k (by omega), bin_over n (k + 1) (by omega)]
theorem bin_mul : ∀ (n k : Nat), (k + 1) * bin n (k + 1) + k * bin n k = n * bin n k
  | 0, 0 => rfl
  | 0, k + 1 => by simp [bin]
  | n + 1, 0 => by
    have ih := bin_mul n 0
    rw [bin_zero] at ih ⊢
    show (0 + 1) * (bin n 0 + bin n (0 + 1)) + 0 * 1 = (n + 1) * 1
    rw [bin_zero]
    omega
  | n + 1, k + 1 => by
    have h1 := bin_mul n k
    have h2 := bin_mul n (k + 1)
    show (k + 1 + 1) * (bin n (k + 1) + bin n (k + 1 + 1)) + (k + 1) * (bin n k + bin n (k + 1)) = (n + 1) * (bin n k + bin n (k + 1))
    simp only [Nat.mul_add, Nat.add_mul, Nat.one_mul] at h1 h2 ⊢
    omega
/-- of so many questions at most so many lied at -/
def cumN (m : Nat) : Nat → Nat
  | 0 => bin m 0
  | j + 1 => cumN m j + bin m (j + 1)
theorem cum_zero (m : Nat) : cumN m 0 = 1 := bin_zero m
theorem cum_succ (m : Nat) : ∀ j, cumN (m + 1) (j + 1) = cumN m (j + 1) + cumN m j
  | 0 => by
    show bin (m + 1) 0 + (bin m 0 + bin m 1) = (bin m 0 + bin m 1) + bin m 0
    rw [bin_zero, bin_zero]
    omega
  | j + 1 => by
    have ih := cum_succ m j
    show cumN (m + 1) (j + 1) + (bin m (j + 1) + bin m (j + 2)) = (cumN m (j + 1) + bin m (j + 2)) + (cumN m j + bin m (j + 1))
    rw [ih]
    omega
theorem cum_pos (m : Nat) : ∀ j, 1 ≤ cumN m j
  | 0 => by rw [cum_zero]; exact Nat.le_refl _
  | j + 1 => Nat.le_trans (cum_pos m j) (Nat.le_add_right _ _)
theorem cum_over (m : Nat) : ∀ j d, m ≤ j → cumN m (j + d) = cumN m j
  | j, 0, _ => rfl
  | j, d + 1, h => by
    show cumN m (j + d) + bin m (j + d + 1) = _
    rw [cum_over m j d h, bin_over m (j + d + 1) (by omega)]
    rfl
/-- the program's loop -/
def chStep (many : Nat) (s : Int × Int) (k : Nat) : Int × Int := (s.1 + s.2, s.2 * ((many : Int) - (k : Int)) / ((k : Int) + 1))
theorem ch_loop (many : Nat) : ∀ k, k ≤ many + 1 → (List.range k).foldl (chStep many) (0, 1) = (((match k with | 0 => 0 | j + 1 => cumN many j : Nat) : Int), ((bin many k : Nat) : Int))
  | 0, _ => by rw [bin_zero]; rfl
  | k + 1, h => by
    rw [List.range_succ, List.foldl_append, ch_loop many k (by omega)]
    show chStep many _ k = _
    unfold chStep
    refine Prod.ext ?_ ?_
    · dsimp only
      cases k with
      | zero => rw [bin_zero, cum_zero]; rfl
      | succ j => show ((cumN many j : Nat) : Int) + ((bin many (j + 1) : Nat) : Int) = ((cumN many j + bin many (j + 1) : Nat) : Int); omega
    · dsimp only
      have e := bin_mul many k
      have e2 : ((bin many k : Nat) : Int) * ((many : Int) - (k : Int)) = ((k : Int) + 1) * ((bin many (k + 1) : Nat) : Int) := by
        have e3 : ((((k + 1) * bin many (k + 1) + k * bin many k : Nat)) : Int) = ((many * bin many k : Nat) : Int) := by rw [e]
        rw [Int.natCast_add, Int.natCast_mul, Int.natCast_mul, Int.natCast_mul, Int.natCast_add] at e3
        rw [Int.mul_sub, Int.mul_comm _ (many : Int), Int.mul_comm _ (k : Int)]
        have e4 : ((1 : Nat) : Int) = 1 := rfl
        rw [e4] at e3
        omega
      rw [e2, Int.mul_ediv_cancel_left _ (by omega)]
/-- the law's rows -/
def rowN (most : Nat) : Nat → List Int
  | 0 => 1 :: List.replicate most 0
  | m + 1 => (List.range (most + 1)).map fun j => (rowN most m).getD j 0 + if 0 < j then (rowN most m).getD (j - 1) 0 else 0
theorem row_eq (most : Nat) : ∀ m, rowN most m = (List.range (most + 1)).map fun j => ((bin m j : Nat) : Int)
  | 0 => by
    show 1 :: List.replicate most 0 = _
    rw [List.range_succ_eq_map, List.map_cons, List.map_map, bin_zero]
    congr 1
    apply List.ext_getElem
    · simp
    · intro i h1 h2
      simp [bin]
  | m + 1 => by
    show (List.range (most + 1)).map _ = _
    apply List.map_congr_left
    intro j hj
    have hj := List.mem_range.mp hj
    rw [row_eq most m]
    have at_ : ∀ i, i < most + 1 → ((List.range (most + 1)).map fun j => ((bin m j : Nat) : Int)).getD i 0 = ((bin m i : Nat) : Int) := fun i hi => by
      rw [List.getD_eq_getElem?_getD, List.getElem?_map, List.getElem?_range hi]
      rfl
    rw [at_ j hj]
    cases j with
    | zero => rw [if_neg (by decide), bin_zero, bin_zero]; rfl
    | succ i =>
      rw [if_pos (Nat.succ_pos _), show i + 1 - 1 = i from rfl, at_ i (by omega)]
      show _ = ((bin m i + bin m (i + 1) : Nat) : Int)
      omega
theorem sum_range (f : Nat → Int) : ∀ n, ((List.range (n + 1)).map f).sum = ((List.range n).map f).sum + f n := fun n => by
  rw [List.range_succ, List.map_append, List.sum_append]
  simp
theorem row_sum (m : Nat) : ∀ most, ((List.range (most + 1)).map fun j => ((bin m j : Nat) : Int)).sum = ((cumN m most : Nat) : Int)
  | 0 => by simp [cumN]
  | j + 1 => by
    rw [sum_range, row_sum m j]
    show _ = ((cumN m j + bin m (j + 1) : Nat) : Int)
    omega
/-! ### weights -/
def wL (m : Nat) : List Int → Int
  | [] => 0
  | c :: cs => c * ((cumN m cs.length : Nat) : Int) + wL m cs
def yesL (x : Int) : List Int → List Int → List Int
  | c :: cs, p :: ps => (p + x) :: yesL (c - p) cs ps
  | _, _ => []
def noL (y : Int) : List Int → List Int → List Int
  | c :: cs, p :: ps => (c - p + y) :: noL p cs ps
  | _, _ => []
theorem yes_len : ∀ (x : Int) (cs ps : List Int), cs.length = ps.length → (yesL x cs ps).length = cs.length
  | _, [], [], _ => rfl
  | x, c :: cs, p :: ps, h => by
    show (yesL (c - p) cs ps).length + 1 = _
    rw [yes_len _ cs ps (by simpa using h)]
    rfl
theorem no_len : ∀ (x : Int) (cs ps : List Int), cs.length = ps.length → (noL x cs ps).length = cs.length
  | _, [], [], _ => rfl
  | x, c :: cs, p :: ps, h => by
    show (noL p cs ps).length + 1 = _
    rw [no_len _ cs ps (by simpa using h)]
    rfl
theorem w_both (m : Nat) : ∀ (cs ps : List Int) (x y : Int), cs.length = ps.length → wL m (yesL x cs ps) + wL m (noL y cs ps) = wL (m + 1) cs + (match cs with | [] => 0 | _ :: t => (x + y) * ((cumN m t.length : Nat) : Int))
  | [], [], x, y, _ => rfl
  | c :: cs, p :: ps, x, y, h => by
    have hl : cs.length = ps.length := by simpa using h
    have ih := w_both m cs ps (c - p) p hl
    show ((p + x) * ((cumN m (yesL (c - p) cs ps).length : Nat) : Int) + wL m (yesL (c - p) cs ps)) + ((c - p + y) * ((cumN m (noL p cs ps).length : Nat) : Int) + wL m (noL p cs ps)) = (c * ((cumN (m + 1) cs.length : Nat) : Int) + wL (m + 1) cs) + (x + y) * ((cumN m cs.length : Nat) : Int)
    rw [yes_len _ _ _ hl, no_len _ _ _ hl]
    cases cs with
    | nil =>
      cases ps with
      | cons _ _ => cases hl
      | nil =>
        show ((p + x) * ((cumN m 0 : Nat) : Int) + 0) + ((c - p + y) * ((cumN m 0 : Nat) : Int) + 0) = (c * ((cumN (m + 1) 0 : Nat) : Int) + 0) + (x + y) * ((cumN m 0 : Nat) : Int)
        rw [cum_zero, cum_zero]
        show ((p + x) * 1 + 0) + ((c - p + y) * 1 + 0) = (c * 1 + 0) + (x + y) * 1
        omega
    | cons d ds =>
      have ih : wL m (yesL (c - p) (d :: ds) ps) + wL m (noL p (d :: ds) ps) = wL (m + 1) (d :: ds) + (c - p + p) * ((cumN m ds.length : Nat) : Int) := ih
      rw [show (d :: ds).length = ds.length + 1 from rfl, cum_succ, Int.natCast_add, Int.mul_add, show c - p + p = c by omega] at *
      rw [Int.add_mul, Int.add_mul, Int.add_mul, Int.sub_mul]
      omega
end Lb

/-! Ma60: rows of answers, as numbers. -/
namespace Lb
open PySem L2
def rowsN : Nat → List (List Bool)
  | 0 => [[]]
  | k + 1 => (rowsN k).flatMap fun r => [r ++ [false], r ++ [true]]
theorem rows_mem : ∀ (k : Nat) (r : List Bool), r ∈ rowsN k → r.length = k
  | 0, r, h => by
    rw [List.mem_singleton.mp h]; rfl
  | k + 1, r, h => by
    obtain ⟨s, hs, h⟩ := List.mem_flatMap.mp h
    have := rows_mem k s hs
    simp at h
    rcases h with rfl | rfl <;> simp [this]
theorem flat2_len (f g : List Bool → List Bool) : ∀ xs : List (List Bool), (xs.flatMap fun r => [f r, g r]).length = 2 * xs.length
  | [] => rfl
  | x :: xs => by rw [List.flatMap_cons, List.length_append, flat2_len f g xs, List.length_cons]; simp; omega
theorem rows_len : ∀ k : Nat, (rowsN k).length = 2 ^ k
  | 0 => rfl
  | k + 1 => by rw [rowsN, flat2_len, rows_len k, Nat.pow_succ]; omega
theorem count2 (f g : List Bool → List Bool) (P A B : List Bool → Bool) : ∀ xs : List (List Bool), (∀ r ∈ xs, (if P (f r) then 1 else 0) + (if P (g r) then 1 else 0) = (if A r then 1 else 0) + (if B r then 1 else 0 : Nat)) → (xs.flatMap fun r => [f r, g r]).countP P = xs.countP A + xs.countP B
  | [], _ => rfl
  | x :: xs, h => by
    have h1 := h x List.mem_cons_self
    have ih := count2 f g P A B xs fun r hr => h r (List.mem_cons_of_mem _ hr)
    rw [List.flatMap_cons, List.countP_append, ih]
    simp only [List.countP_cons, List.countP_nil]
    omega
theorem count_rows (t : Int) (qs : List (List Int)) : ∀ j : Nat, (rowsN qs.length).countP (fun r => decide (liedZ t qs r ≤ j)) = cumN qs.length j := by
  refine snoc_ind (P := fun qs => ∀ j : Nat, (rowsN qs.length).countP (fun r => decide (liedZ t qs r ≤ j)) = cumN qs.length j) ?_ ?_ qs
  · intro j
    show (if decide (liedZ t [] [] ≤ j) then 1 else 0) = cumN 0 j
    have e : liedZ t [] [] = 0 := rfl
    rw [e]
    have e2 : cumN 0 j = cumN 0 0 := by have := cum_over 0 0 j (Nat.le_refl _); rwa [Nat.zero_add] at this
    rw [e2, cum_zero]
    simp
  · intro qs q ih j
    rw [List.length_append]
    show (rowsN (qs.length + 1)).countP _ = cumN (qs.length + 1) j
    rw [rowsN]
    cases j with
    | zero =>
      rw [count2 _ _ _ (fun r => decide (liedZ t qs r ≤ 0)) (fun _ => false)]
      · rw [ih 0, cum_zero, cum_zero]; simp
      · intro r hr
        have hl := rows_mem _ _ hr
        rw [liedZ_app _ _ _ _ _ hl.symm, liedZ_app _ _ _ _ _ hl.symm]
        cases decide (t ∈ q) <;> simp
    | succ j =>
      rw [count2 _ _ _ (fun r => decide (liedZ t qs r ≤ j + 1)) (fun r => decide (liedZ t qs r ≤ j)), ih, ih, cum_succ]
      intro r hr
      have hl := rows_mem _ _ hr
      rw [liedZ_app _ _ _ _ _ hl.symm, liedZ_app _ _ _ _ _ hl.symm]
      cases decide (t ∈ q) <;> simp <;> omega
theorem sum_map_add {α : Type} (f g : α → Nat) : ∀ xs : List α, (xs.map fun x => f x + g x).sum = (xs.map f).sum + (xs.map g).sum
  | [] => rfl
  | x :: xs => by simp only [List.map_cons, List.sum_cons]; rw [sum_map_add f g xs]; omega
theorem sum_map_if {α : Type} (c : α → Bool) : ∀ xs : List α, (xs.map fun x => if c x = true then 1 else 0).sum = xs.countP c
  | [] => rfl
  | x :: xs => by
    simp only [List.map_cons, List.sum_cons, List.countP_cons]
    rw [sum_map_if c xs]
    omega
theorem sum_dec (l : Nat) (qs : List (List Int)) : ∀ n : Nat, ((rowsN qs.length).map fun r => (decN n l qs r).length).sum = n * cumN qs.length l
  | 0 => by
    have : ∀ xs : List (List Bool), (xs.map fun r => (decN 0 l qs r).length).sum = 0 := fun xs => by
      induction xs with
      | nil => rfl
      | cons x xs ih => rw [List.map_cons, List.sum_cons, ih]; rfl
    rw [this, Nat.zero_mul]
  | n + 1 => by
    have e : ((rowsN qs.length).map fun r => (decN (n + 1) l qs r).length) = (rowsN qs.length).map fun r => (decN n l qs r).length + if decide (liedZ (n : Nat) qs r ≤ l) = true then 1 else 0 := by
      apply List.map_congr_left
      intro r hr
      have hl := rows_mem _ _ hr
      rw [decN_succ, List.length_append, liedN_eq _ _ _ hl.symm]
      by_cases c : liedZ (n : Nat) qs r ≤ l
      · rw [if_pos (decide_eq_true (by omega)), if_pos (decide_eq_true c)]; rfl
      · rw [if_neg (by rw [decide_eq_true_eq]; omega), if_neg (by rw [decide_eq_true_eq]; omega)]; rfl
    rw [e, sum_map_add, sum_dec l qs n, sum_map_if (fun r => decide (liedZ (n : Nat) qs r ≤ l)), count_rows, Nat.succ_mul]
theorem mem_dec {n : Nat} {l : Int} {qs : List (List Int)} {bs : List Bool} {t : Nat} : (t : Int) ∈ decN n l qs bs ↔ t < n ∧ (liedN qs bs (t : Int) : Int) ≤ l := by
  unfold decN
  rw [List.mem_map]
  constructor
  · rintro ⟨s, hs, e⟩
    have : s = t := by omega
    subst this
    have := List.mem_filter.mp hs
    exact ⟨List.mem_range.mp this.1, of_decide_eq_true this.2⟩
  · rintro ⟨h1, h2⟩
    exact ⟨t, List.mem_filter.mpr ⟨List.mem_range.mpr h1, decide_eq_true h2⟩, rfl⟩
theorem dec_few {n : Nat} {l : Int} {qs : List (List Int)} {bs : List Bool} (hw : worksN n l qs = true) (hl : qs.length = bs.length) : (decN n l qs bs).length ≤ 1 := by
  cases e : decN n l qs bs with
  | nil => simp
  | cons x xs =>
    have hx : x ∈ decN n l qs bs := by rw [e]; exact List.mem_cons_self
    obtain ⟨t, ht, rfl⟩ := List.mem_map.mp (show x ∈ List.map _ _ from hx)
    have h2 := mem_dec.mp hx
    have := dec_one hw hl h2.1 h2.2
    rw [← e, this]
    simp
/-! ### how many rows so many things have -/
def incAt (xs : List Nat) (m : Nat) : List Nat := (List.range (max xs.length (m + 1))).map fun i => xs.getD i 0 + if i = m then 1 else 0
def spreadN (ms : List Nat) : List Nat := ms.foldl incAt []
def topN (ms : List Nat) : Nat := ms.foldl (fun a m => max a (m + 1)) 0
theorem spread_snoc (ms : List Nat) (m : Nat) : spreadN (ms ++ [m]) = incAt (spreadN ms) m := by unfold spreadN; rw [List.foldl_append]; rfl
theorem top_snoc (ms : List Nat) (m : Nat) : topN (ms ++ [m]) = max (topN ms) (m + 1) := by unfold topN; rw [List.foldl_append]; rfl
theorem top_mem (ms : List Nat) : ∀ m ∈ ms, m < topN ms := by
  refine snoc_ind (P := fun ms => ∀ m ∈ ms, m < topN ms) (fun _ h => nomatch h) (fun ms m ih k hk => ?_) ms
  rw [top_snoc]
  rcases List.mem_append.mp hk with h | h
  · have := ih k h; omega
  · rw [List.mem_singleton.mp h]; omega
theorem top_is (ms : List Nat) : topN ms = 0 ∧ ms = [] ∨ ∃ m ∈ ms, topN ms = m + 1 := by
  refine snoc_ind (P := fun ms => topN ms = 0 ∧ ms = [] ∨ ∃ m ∈ ms, topN ms = m + 1) (.inl ⟨rfl, rfl⟩) (fun ms m ih => .inr ?_) ms
  rw [top_snoc]
  rcases ih with ⟨h, _⟩ | ⟨k, hk, h⟩
  · exact ⟨m, by simp, by omega⟩
  · by_cases c : k ≤ m
    · exact ⟨m, by simp, by omega⟩
    · exact ⟨k, by simp [hk], by omega⟩
theorem spread_eq (ms : List Nat) : spreadN ms = (List.range (topN ms)).map fun k => ms.count k := by
  refine snoc_ind (P := fun ms => spreadN ms = (List.range (topN ms)).map fun k => ms.count k) rfl (fun ms m ih => ?_) ms
  rw [spread_snoc, top_snoc, incAt, ih, List.length_map, List.length_range]
  apply List.map_congr_left
  intro k hk
  rw [List.count_append, List.getD_eq_getElem?_getD, List.getElem?_map]
  have e2 : List.count k [m] = if k = m then 1 else 0 := by
    rw [List.count_singleton]
    by_cases c : k = m
    · simp [c]
    · simp [c, Ne.symm c]
  rw [e2]
  congr 1
  by_cases c : k < topN ms
  · rw [List.getElem?_range c]; rfl
  · rw [List.getElem?_eq_none (by rw [List.length_range]; omega)]
    show 0 = _
    symm
    apply List.count_eq_zero.mpr
    intro h
    exact c (top_mem ms k h)
theorem spread_len (ms : List Nat) : (spreadN ms).length = topN ms := by rw [spread_eq]; simp
theorem sum_count : ∀ (ms : List Nat) (n : Nat), (∀ m ∈ ms, m < n + 1) → ((List.range n).map fun k => ms.count (k + 1)).sum = ms.countP fun m => m != 0
  | [], n, _ => by
    have : ∀ xs : List Nat, (xs.map fun k => List.count (k + 1) ([] : List Nat)).sum = 0 := fun xs => by
      induction xs with
      | nil => rfl
      | cons x xs ih => rw [List.map_cons, List.sum_cons, ih]; rfl
    rw [this]; rfl
  | m :: ms, n, h => by
    have ih := sum_count ms n fun k hk => h k (List.mem_cons_of_mem _ hk)
    have h1 := h m List.mem_cons_self
    have e : ((List.range n).map fun k => (m :: ms).count (k + 1)) = (List.range n).map fun k => ms.count (k + 1) + if decide (m = k + 1) = true then 1 else 0 := by
      apply List.map_congr_left
      intro k _
      rw [List.count_cons]
      by_cases c : m = k + 1
      · simp [c]
      · simp [c]
    rw [e, sum_map_add, ih, sum_map_if (fun k => decide (m = k + 1)), List.countP_cons]
    congr 1
    cases m with
    | zero =>
      rw [List.countP_eq_zero.mpr]
      · rfl
      · intro a _; simp
    | succ m =>
      have : (List.range n).countP (fun k => decide (m + 1 = k + 1)) = 1 := by
        have e2 : (fun k => decide (m + 1 = k + 1)) = fun k : Nat => decide (k = m) := by
          funext k
          by_cases c : k = m
          · simp [c]
          · simp [c, Ne.symm c]
        rw [e2, List.countP_eq_length_filter, filter_one, if_pos (by omega)]
        rfl
      rw [this]
      simp
theorem sum_ones : ∀ (ms : List Nat), (∀ m ∈ ms, m ≤ 1) → ms.countP (fun m => m != 0) = ms.sum
  | [], _ => rfl
  | m :: ms, h => by
    have ih := sum_ones ms fun k hk => h k (List.mem_cons_of_mem _ hk)
    have h1 := h m List.mem_cons_self
    rw [List.countP_cons, ih, List.sum_cons]
    match m, h1 with
    | 0, _ => simp
    | 1, _ => simp; omega
/-- what the law sums up -/
theorem sum_spread {ms : List Nat} (hm : ∀ m ∈ ms, m ≤ 1) (hne : ms ≠ []) : (spreadN ms).tail.sum = ms.sum := by
  rw [spread_eq]
  rcases top_is ms with ⟨_, h⟩ | ⟨m, _, h⟩
  · exact absurd h hne
  · rw [h, List.range_succ_eq_map, List.map_cons, List.tail_cons, List.map_map]
    rw [← sum_ones ms hm]
    exact sum_count ms m fun k hk => by have := top_mem ms k hk; omega
/-! ### the nearest things -/
structure Near (L : Nat → Nat) (i : Nat) (ts : List Nat) (d : Nat) : Prop where
  le : ∀ t, t < i → d ≤ L t
  at_ : ∃ t, t < i ∧ L t = d
  eq : ts = (List.range i).filter fun t => decide (L t = d)
theorem Near.first {L : Nat → Nat} : Near L 1 [0] (L 0) := ⟨fun t ht => by obtain rfl : t = 0 := by omega
                                                                           exact Nat.le_refl _, ⟨0, by omega, rfl⟩, by simp⟩
theorem filter_none {L : Nat → Nat} {d i : Nat} (h : ∀ t, t < i → d < L t) : (List.range i).filter (fun t => decide (L t = d)) = [] := by
  apply List.filter_eq_nil_iff.mpr
  intro t ht
  have := h t (List.mem_range.mp ht)
  rw [decide_eq_true_eq]
  omega
theorem near_lt {L : Nat → Nat} {i : Nat} (h : ∀ t, t < i → L i < L t) : Near L (i + 1) [i] (L i) :=
  ⟨fun t ht => by
    by_cases c : t = i
    · subst c; exact Nat.le_refl _
    · have := h t (by omega); omega, ⟨i, by omega, rfl⟩, by rw [List.range_succ, List.filter_append, filter_none h]; simp⟩
theorem Near.eqs {L : Nat → Nat} {i d : Nat} {ts : List Nat} (n : Near L i ts d) (h : L i = d) : Near L (i + 1) (ts ++ [i]) d :=
  ⟨fun t ht => by
    by_cases c : t = i
    · subst c; omega
    · exact n.le t (by omega), ⟨i, by omega, h⟩, by rw [List.range_succ, List.filter_append, ← n.eq]; simp [h]⟩
theorem Near.gt {L : Nat → Nat} {i d : Nat} {ts : List Nat} (n : Near L i ts d) (h : d < L i) : Near L (i + 1) ts d :=
  ⟨fun t ht => by
    by_cases c : t = i
    · subst c; omega
    · exact n.le t (by omega), by obtain ⟨t, h1, h2⟩ := n.at_; exact ⟨t, by omega, h2⟩, by rw [List.range_succ, List.filter_append, ← n.eq]; simp; omega⟩
theorem Near.uniq {L : Nat → Nat} {i d d' : Nat} {ts ts' : List Nat} (n : Near L i ts d) (n' : Near L i ts' d') : d = d' ∧ ts = ts' := by
  obtain ⟨t, h1, h2⟩ := n.at_
  obtain ⟨t', h3, h4⟩ := n'.at_
  have a := n.le t' h3
  have b := n'.le t h1
  have : d = d' := by omega
  subst this
  exact ⟨rfl, n.eq.trans n'.eq.symm⟩
end Lb

/-! Sm60a: rows of answers: what the defs do. -/
namespace Lb
open PySem L2
local macro_rules | `(tactic| walk_at "v") => `(tactic| ((with_reducible refine ev_var (d := ?dv) ?hv ?_); (case hv => exact rfl)))
local macro_rules | `(tactic| walk_at "f") => `(tactic| first
  | with_reducible refine f_in ?_
  | with_reducible refine f_notin ?_
  | with_reducible refine f_add_i ?_
  | with_reducible refine f_add_s ?_
  | with_reducible refine f_add_l ?_
  | with_reducible refine f_add_t ?_
  | with_reducible refine f_sub ?_
  | with_reducible refine f_mul_i ?_
  | with_reducible refine f_mul_l ?_
  | with_reducible refine f_mul_t ?_
  | with_reducible refine f_div ?_
  | with_reducible refine f_mod ?_
  | with_reducible refine f_pow ?_
  | with_reducible refine f_lt ?_
  | with_reducible refine f_le ?_
  | with_reducible refine f_gt ?_
  | with_reducible refine f_ge ?_
  | with_reducible refine f_eq_i ?_
  | with_reducible refine f_ne_i ?_
  | with_reducible refine f_eq_b ?_
  | with_reducible refine f_ne_b ?_
  | with_reducible refine f_is_n ?_
  | with_reducible refine f_isnot_n ?_
  | with_reducible refine f_is_i ?_
  | with_reducible refine f_isnot_i ?_
  | with_reducible refine f_is_b ?_
  | with_reducible refine f_isnot_b ?_
  | with_reducible refine f_is_s ?_
  | with_reducible refine f_isnot_s ?_
  | with_reducible refine f_is_l ?_
  | with_reducible refine f_isnot_l ?_
  | with_reducible refine f_is_t ?_
  | with_reducible refine f_isnot_t ?_
  | with_reducible refine f_is_r ?_
  | with_reducible refine f_isnot_r ?_
  | with_reducible refine f_is ?_
  | with_reducible refine f_isnot ?_
  | with_reducible refine f_neg ?_
  | with_reducible refine f_len_ml ?_
  | with_reducible refine f_len_mt ?_
  | with_reducible refine f_sum_l ?_
  | with_reducible refine f_sum_t ?_
  | with_reducible refine f_all ?_
  | with_reducible refine f_any ?_
  | with_reducible refine f_len_l ?_
  | with_reducible refine f_len_t ?_
  | with_reducible refine f_len_c ?_
  | with_reducible refine f_abs ?_
  | with_reducible refine f_min2 ?_
  | with_reducible refine f_max2 ?_
  | with_reducible refine f_list_l ?_
  | with_reducible refine f_list_t ?_
  | with_reducible refine f_tup_l ?_
  | with_reducible refine f_tup_t ?_
  | with_reducible refine f_int_i ?_
  | with_reducible refine f_int_b ?_
  | with_reducible refine f_sl_l ?_
  | with_reducible refine f_sl_t ?_
  | with_reducible refine f_tr_n ?_
  | with_reducible refine f_tr_b ?_
  | with_reducible refine f_tr_i ?_
  | with_reducible refine f_tr_l ?_
  | with_reducible refine f_tr_t ?_
  | with_reducible refine f_tr_c ?_)
local macro_rules | `(tactic| walk_at "w") => `(tactic| first
  | walk_at "v"
  | with_reducible refine ev_rev ?_
  | with_reducible refine ev_sset ?_
  | with_reducible refine ev_lcl ?_
  | with_reducible refine ev_lct ?_
  | with_reducible refine ev_lcs ?_
  | with_reducible refine ev_lc1 ?_
  | with_reducible refine ev_lc2 ?_
  | with_reducible refine st_forl ?_
  | with_reducible refine st_fort ?_
  | with_reducible refine st_fors ?_
  | with_reducible refine st_for1 ?_
  | with_reducible refine st_for2 ?_
  | with_reducible refine ex_bl ?_
  | with_reducible refine ex_in ?_
  | with_reducible refine ex_ls ?_
  | with_reducible refine ex_tu ?_
  | with_reducible refine ex_st ?_
  | with_reducible refine ex_d0 ?_
  | with_reducible refine ex_d1 ?_
  | with_reducible refine ex_d2 ?_
  | with_reducible refine ex_d3 ?_
  | with_reducible refine ex_d4 ?_
  | with_reducible refine ex_d5 ?_
  | with_reducible refine ex_d6 ?_
  | with_reducible refine ex_d7 ?_
  | with_reducible refine ex_d8 ?_
  | with_reducible refine m_and ?_
  | with_reducible refine i_t ?_
  | with_reducible refine i_f ?_
  | with_reducible refine i_nt ?_
  | with_reducible refine i_nf ?_
  | with_reducible refine ev_tup ?_
  | with_reducible refine ev_lst ?_
  | with_reducible refine ev_int ?_
  | with_reducible refine ea_cons ?_
  | with_reducible refine ea_nil ?_
  | with_reducible refine ev_op ?_
  | with_reducible refine st_seq ?_
  | with_reducible refine st_asg ?_
  | with_reducible refine ev_call ?_
  | with_reducible refine ev_cb ?_
  | with_reducible refine st_if ?_
  | with_reducible refine et_test ?_
  | with_reducible refine et_not ?_
  | with_reducible refine et_or ?_
  | with_reducible refine et_and ?_
  | with_reducible refine et_tru ?_
  | with_reducible refine et_yes ?_
  | with_reducible refine et_B ?_
  | with_reducible refine ev_chain ?_
  | with_reducible refine ev_chain3 ?_
  | with_reducible refine ev_un ?_
  | with_reducible refine ev_if ?_
  | with_reducible refine ev_bl ?_
  | with_reducible refine ev_non ?_
  | with_reducible refine ev_str ?_
  | with_reducible refine ev_andV ?_
  | with_reducible refine ev_orV ?_
  | with_reducible refine ev_notV ?_
  | with_reducible refine ev_isB ?_
  | with_reducible refine ev_isE ?_
  | with_reducible refine ev_sl2 ?_
  | with_reducible refine ev_slA ?_
  | with_reducible refine ev_slB ?_
  | with_reducible refine ev_bmL ?_
  | with_reducible refine ev_bmL0 ?_
  | with_reducible refine st_ret ?_
  | with_reducible refine st_drop ?_
  | with_reducible refine st_next ?_
  | with_reducible refine st_setL ?_
  | with_reducible refine st_asgG ?_
  | with_reducible refine st_raise ?_
  | with_reducible refine gt_name ?_
  | with_reducible refine gt_tup2 ?_
  | with_reducible refine gt_tup3 ?_
  | walk_at "f")
local macro_rules | `(tactic| walk_at "r") => `(tactic| repeat walk_at "w")

abbrev dNats (ns : List Nat) : D := .lst (ns.map fun n => D.int ((n : Nat) : Int))
theorem dNats_eq (ns : List Nat) : dNats ns = dInts (ns.map fun n => ((n : Nat) : Int)) := by
  show D.lst _ = D.lst _
  rw [List.map_map]
  rfl
abbrev dRows (rs : List (List Bool)) : D := .lst (rs.map dBls)
def S_look_few : SpD := fun es m R XR => ∃ (n l : Int) (qs : List (List Int)), es = [.d (.int n), .d (.int l), .d (dQs qs)] ∧ (∀ q ∈ qs, q.length < 64) ∧
  (¬ GameOk n l → XR .game m) ∧ (GameOk n l → ¬ (qs.length ≤ 12 ∧ ∀ q ∈ qs, QOk n q) → XR .question m) ∧ (GameOk n l → qs.length ≤ 12 → (∀ q ∈ qs, QOk n q) → R (.d .non) m)
def rd_look_few (G : Ctx) (W : WX) : TS :=
  tSeq (tDrop (tCallS (spL G S_look_all) (WE W) (tCons (tVar 0) (tCons (tVar 1) (tCons (tVar 2) (tNil))))))
  (tIfS (tTest (tOp (rD2 G gtF) (tCB (rDn G lenF) (tCons (tVar 2) (tNil))) (tC (.int 12)))) (tRaise W (G.has .question) (G.ex .question)) (tNext))

theorem len_look_few : ∀ es m R XR, S_look_few es m R XR → es.length = 3 := by
  rintro es m R XR ⟨a, b, qs, rfl, _⟩
  rfl
theorem sem_look_few (G : Ctx) : BodyD G 3 (rd_look_few G) S_look_few := by
  rintro W es m R XR ⟨n, l, qs, rfl, hq, h1, h2, h3⟩
  unfold rd_look_few
  walk_at "r"
  refine ⟨n, l, qs, rfl, hq, h1, fun g z => h2 g fun y => z ⟨by omega, y.2⟩, fun g a b => ?_⟩
  walk_at "r"
  refine i_d (fun c => ?_) (fun c => ?_)
  · walk_at "r"
    exact h2 g fun z => by omega
  · walk_at "r"
    exact h3 g (by omega) b
def twoR (r : List Bool) : List (List Bool) := [r ++ [false], r ++ [true]]
theorem rowsN_succ (k : Nat) : rowsN (k + 1) = (rowsN k).flatMap twoR := rfl
theorem two_len (xs : List (List Bool)) : (xs.flatMap twoR).length = 2 * xs.length := flat2_len _ _ xs
theorem pow_rows {i n : Nat} (h1 : i < n) (h2 : n ≤ 12) : 2 ^ i ≤ 2048 := by
  have : 2 ^ i ≤ 2 ^ 11 := Nat.pow_le_pow_right (by decide) (by omega)
  simpa using this
def S_all_answers : SpD := fun es m R _ => ∃ n : Nat, es = [.d (.int n)] ∧ n ≤ 12 ∧ R (.d (dRows (rowsN n))) m
def rd_all_answers (G : Ctx) (W : WX) : TS :=
  tSeq (tAsg (tLst (tCons (tLst (tNil)) (tNil))) (gName 1))
  (tSeq (tFor (iRng1 (tCons (tVar 0) (tNil))) (gName 2) (tSeq (tAsg (tLst (tNil)) (gName 3))
  (tSeq (tFor (iList G.K (tVar 1)) (gName 4) (tDrop (tBM G.K "list" (rDM G extendF) (tVar 3) (tCons (tLst (tCons (tOp (rD2 G addF) (tVar 4) (tLst (tCons (tC (.bl false)) (tNil)))) (tCons (tOp (rD2 G addF) (tVar 4) (tLst (tCons (tC (.bl true)) (tNil)))) (tNil)))) (tNil)))))
  (tAsg (tVar 3) (gName 1)))))
  (tRet (tVar 1)))

theorem len_all_answers : ∀ es m R XR, S_all_answers es m R XR → es.length = 1 := by
  rintro es m R XR ⟨a, rfl, _⟩
  rfl
theorem sem_all_answers (G : Ctx) : BodyD G 5 (rd_all_answers G) S_all_answers := by
  rintro W es m R XR ⟨n, rfl, hn, h⟩
  unfold rd_all_answers
  walk_at "r"
  refine ⟨_, rfl, by omega, by omega, ?_⟩
  rw [Int.toNat_natCast]
  refine forN (fun i ds' m' => m = m' ∧ ∃ o2 o3 o4, ds' = [some (.d (.int n)), some (.d (dRows (rowsN i))), o2, o3, o4]) ⟨rfl, none, none, none, rfl⟩ ?_ ?_
  · rintro i ds' m' hi ⟨rfl, o2, o3, o4, rfl⟩
    have hp := pow_rows hi hn
    have hl := rows_len i
    refine gt_name ?_
    refine st_seq (st_asg (ev_lstO ?_))
    walk_at "r"
    intro a ha
    refine st_seq ?_
    walk_at "r"
    refine forL (rowsN i) (fun r => .d (dBls r)) (fun pre ds' m' => mset m a (.lst ((pre.flatMap twoR).map dBls)) = m' ∧ ∃ o4, ds' = [some (.d (.int n)), some (.d (dRows (rowsN i))), some (.d (.int (0 + (i : Nat)))), some (.r a), o4]) (by rw [List.map_map]; rfl) ⟨rfl, o4, rfl⟩ ?_ ?_
    · rintro pre r post ds' m' e ⟨rfl, o4, rfl⟩
      have hr : r.length = i := rows_mem _ _ (by rw [e]; simp)
      have hpl : pre.length ≤ 2048 := by
        have := congrArg List.length e
        simp at this
        omega
      walk_at "r"
      refine ⟨⟨_, mset_same⟩, ?_⟩
      walk_at "r"
      refine ⟨by rw [List.length_map]; show r.length + 1 ≤ _; omega, ?_⟩
      walk_at "r"
      refine ⟨by rw [List.length_map]; show r.length + 1 ≤ _; omega, ?_⟩
      walk_at "r"
      refine ⟨_, mset_same, by rw [List.length_map, two_len]; show 2 * pre.length + 2 ≤ _; omega, ?_⟩
      refine ⟨?_, _, rfl⟩
      rw [mset_mset, List.flatMap_append, List.map_append]
      congr 3
      simp only [List.flatMap_cons, List.flatMap_nil, List.append_nil, twoR, List.map_cons, List.map_nil, dBls, List.map_append]
    · rintro ds' m' ⟨rfl, o4, rfl⟩
      refine st_asg (ev_varF rfl mset_same ?_)
      rw [mdel_mset ha]
      exact ⟨rfl, _, _, _, rfl⟩
  · rintro ds' m' ⟨rfl, o2, o3, o4, rfl⟩
    walk_at "r"
    exact h
def S_rows_of : SpD := fun es m R XR => ∃ (n l : Int) (qs : List (List Int)) (t : Int), es = [.d (.int n), .d (.int l), .d (dQs qs), .d (.int t)] ∧ (∀ q ∈ qs, q.length < 64) ∧
  (¬ GameOk n l → XR .game m) ∧ (GameOk n l → ¬ ((qs.length ≤ 12 ∧ ∀ q ∈ qs, QOk n q) ∧ 0 ≤ t ∧ t < n) → XR .question m) ∧
  (GameOk n l → qs.length ≤ 12 → (∀ q ∈ qs, QOk n q) → 0 ≤ t → t < n → R (.d (dRows ((rowsN qs.length).filter fun r => decide ((liedN qs r t : Int) ≤ l)))) m)
def rd_rows_of (G : Ctx) (W : WX) : TS :=
  tSeq (tDrop (tCallS (spL G S_look_few) (WE W) (tCons (tVar 0) (tCons (tVar 1) (tCons (tVar 2) (tNil))))))
  (tSeq (tIfS (tNot (tTest (tChain (rD2 G leF) (rD2 G ltF) (tC (.int 0)) (tVar 3) (tVar 0)))) (tRaise W (G.has .question) (G.ex .question)) (tNext))
  (tRet (tLc (iList G.K (tCallS (spL G S_all_answers) (WE W) (tCons (tCB (rDn G lenF) (tCons (tVar 2) (tNil))) (tNil)))) (gName 4) (tTest (tOp (rD2 G inF) (tVar 3) (tCallS (spL G S_decoded) (WE WF) (tCons (tVar 0) (tCons (tVar 1) (tCons (tVar 2) (tCons (tVar 4) (tNil)))))))) (tVar 4) [4])))

theorem len_rows_of : ∀ es m R XR, S_rows_of es m R XR → es.length = 4 := by
  rintro es m R XR ⟨a, b, c, d, rfl, _⟩
  rfl
theorem sem_rows_of (G : Ctx) : BodyD G 5 (rd_rows_of G) S_rows_of := by
  rintro W es m R XR ⟨n, l, qs, t, rfl, hq, h1, h2, h3⟩
  unfold rd_rows_of
  walk_at "r"
  refine ⟨n, l, qs, rfl, hq, h1, fun g z => h2 g fun y => z y.1, fun g a b => ?_⟩
  walk_at "r"
  refine i_d (fun c => ?_) (fun c => ?_)
  · walk_at "r"
    refine i_nd (fun d => ?_) (fun d => ?_)
    · walk_at "r"
      exact h2 g fun z => d z.2.2
    · walk_at "r"
      refine ⟨qs.length, rfl, a, ?_⟩
      walk_at "r"
      have hl := rows_len qs.length
      have hp : 2 ^ qs.length ≤ 4096 := by
        have : 2 ^ qs.length ≤ 2 ^ 12 := Nat.pow_le_pow_right (by decide) a
        simpa using this
      obtain ⟨j, rfl⟩ := Int.eq_ofNat_of_zero_le c
      obtain ⟨k, rfl⟩ := Int.eq_ofNat_of_zero_le (show 0 ≤ n by omega)
      refine lcF (rowsN qs.length) (fun r => .d (dBls r)) (fun r => decide ((liedN qs r j : Int) ≤ l)) dBls (by rw [List.map_map]; rfl) (by omega) (fun r M hr hM => ⟨_, .name (by decide), ?_, fun _ => ?_⟩) ?_
      · have hr := rows_mem _ _ hr
        walk_at "r"
        refine ⟨_, l, qs, r, rfl, hq, by omega, fun z => absurd g z, fun _ z => absurd ⟨by omega, b⟩ z, fun _ _ _ z => absurd hr z, fun _ _ _ _ => ?_⟩
        walk_at "r"
        rw [Int.toNat_natCast]
        apply decide_eq_decide.mpr
        rw [mem_dec]
        exact ⟨fun z => z.2, fun z => ⟨by omega, z⟩⟩
      · walk_at "r"
        exact rfl
      · walk_at "r"
        exact h3 g a b c d
  · walk_at "r"
    exact h2 g fun z => c z.2.1
/-- how many things each row has -/
def manyN (n : Nat) (l : Int) (qs : List (List Int)) : List Nat := (rowsN qs.length).map fun r => (decN n l qs r).length
def S_spread : SpD := fun es m R XR => ∃ (n l : Int) (qs : List (List Int)), es = [.d (.int n), .d (.int l), .d (dQs qs)] ∧ (∀ q ∈ qs, q.length < 64) ∧
  (¬ GameOk n l → XR .game m) ∧ (GameOk n l → ¬ (qs.length ≤ 12 ∧ ∀ q ∈ qs, QOk n q) → XR .question m) ∧ (GameOk n l → qs.length ≤ 12 → (∀ q ∈ qs, QOk n q) → R (.d (dNats (spreadN (manyN n.toNat l qs)))) m)
def rd_spread (G : Ctx) (W : WX) : TS :=
  tSeq (tDrop (tCallS (spL G S_look_few) (WE W) (tCons (tVar 0) (tCons (tVar 1) (tCons (tVar 2) (tNil))))))
  (tSeq (tAsg (tLst (tNil)) (gName 3))
  (tSeq (tFor (iList G.K (tCallS (spL G S_all_answers) (WE W) (tCons (tCB (rDn G lenF) (tCons (tVar 2) (tNil))) (tNil)))) (gName 4) (tSeq (tAsg (tCB (rDn G lenF) (tCons (tCallS (spL G S_decoded) (WE W) (tCons (tVar 0) (tCons (tVar 1) (tCons (tVar 2) (tCons (tVar 4) (tNil)))))) (tNil))) (gName 5))
  (tSeq (tWhile (tTest (tOp (rD2 G leF) (tCB (rDn G lenF) (tCons (tVar 3) (tNil))) (tVar 5))) (tDrop (tBM G.K "list" (rDM G appendF) (tVar 3) (tCons (tC (.int 0)) (tNil)))))
  (tAsg (tOp (rD2 G addF) (tOp (rD2 G idxF) (tVar 3) (tVar 5)) (tC (.int 1))) (gSub (tVar 3) (tVar 5) L2.rSetL)))))
  (tRet (tVar 3))))

theorem len_spread : ∀ es m R XR, S_spread es m R XR → es.length = 3 := by
  rintro es m R XR ⟨a, b, qs, rfl, _⟩
  rfl
/-- so far padded -/
def padTo (xs : List Nat) (k : Nat) : List Nat := xs ++ List.replicate (k - xs.length) 0
theorem padTo_len (xs : List Nat) (k : Nat) : (padTo xs k).length = max xs.length k := by unfold padTo; simp; omega
theorem padTo_get (xs : List Nat) (k i : Nat) : (padTo xs k).getD i 0 = xs.getD i 0 := by
  unfold padTo
  rw [List.getD_eq_getElem?_getD, List.getD_eq_getElem?_getD, List.getElem?_append]
  split
  · rfl
  · rw [List.getElem?_replicate, List.getElem?_eq_none (by omega)]
    split <;> rfl
theorem padTo_succ (xs : List Nat) {k : Nat} (h : xs.length ≤ k) : padTo xs (k + 1) = padTo xs k ++ [0] := by
  unfold padTo
  rw [List.append_assoc, show k + 1 - xs.length = (k - xs.length) + 1 by omega, List.replicate_succ']
theorem padTo_self (xs : List Nat) {k : Nat} (h : k ≤ xs.length) : padTo xs k = xs := by
  unfold padTo
  rw [show k - xs.length = 0 by omega, List.replicate_zero, List.append_nil]
theorem inc_set (xs : List Nat) (k : Nat) : (padTo xs (k + 1)).set k ((padTo xs (k + 1)).getD k 0 + 1) = incAt xs k := by
  apply List.ext_getElem?
  intro i
  unfold incAt
  rw [List.getElem?_map]
  by_cases hi : i < max xs.length (k + 1)
  · rw [List.getElem?_range hi]
    by_cases c : k = i
    · subst c
      rw [List.getElem?_set_self (by rw [padTo_len]; exact hi), padTo_get]
      simp
    · rw [List.getElem?_set_ne c]
      have e := padTo_get xs (k + 1) i
      rw [List.getD_eq_getElem?_getD, List.getElem?_eq_getElem (by rw [padTo_len]; exact hi)] at e
      rw [List.getElem?_eq_getElem (by rw [padTo_len]; exact hi)]
      simp only [Option.getD_some] at e
      rw [e]
      simp [Ne.symm c]
  · rw [List.getElem?_eq_none (by rw [List.length_set, padTo_len]; omega), List.getElem?_eq_none (by rw [List.length_range]; omega)]
    rfl
theorem top_le {ms : List Nat} {k : Nat} (h : ∀ m ∈ ms, m < k) : topN ms ≤ k := by
  rcases top_is ms with ⟨e, _⟩ | ⟨m, hm, e⟩
  · omega
  · have := h m hm; omega
theorem atI_nats {xs : List Nat} {k : Nat} (h : k < xs.length) : atI (xs.map fun n => D.int ((n : Nat) : Int)) (k : Int) = some (.int ((xs.getD k 0 : Nat) : Int)) := by
  apply atI_nat
  rw [List.getElem?_map, List.getD_eq_getElem?_getD, List.getElem?_eq_getElem h]
  rfl
theorem sem_spread (G : Ctx) : BodyD G 6 (rd_spread G) S_spread := by
  rintro W es m R XR ⟨n, l, qs, rfl, hq, h1, h2, h3⟩
  unfold rd_spread
  walk_at "r"
  refine ⟨n, l, qs, rfl, hq, h1, h2, fun g a b => ?_⟩
  obtain ⟨g1, g2, g3, g4⟩ := id g
  obtain ⟨k, rfl⟩ := Int.eq_ofNat_of_zero_le (show 0 ≤ n by omega)
  have hh := h3 g a b
  rw [Int.toNat_natCast] at hh
  refine st_seq (st_asg (ev_lstO ?_))
  walk_at "r"
  intro ad ha
  walk_at "r"
  refine ⟨qs.length, rfl, a, ?_⟩
  walk_at "r"
  refine forL (rowsN qs.length) (fun r => .d (dBls r)) (fun pre ds' m' => mset m ad (.lst ((spreadN (pre.map fun r => (decN k l qs r).length)).map fun n => D.int ((n : Nat) : Int))) = m' ∧ ∃ o4 o5, ds' = [some (.d (.int (k : Nat))), some (.d (.int l)), some (.d (dQs qs)), some (.r ad), o4, o5]) (by rw [List.map_map]; rfl) ⟨rfl, none, none, rfl⟩ ?_ ?_
  · rintro pre r post ds' m' e ⟨rfl, o4, o5, rfl⟩
    have hr : r.length = qs.length := rows_mem _ _ (by rw [e]; simp)
    have hd : (decN k l qs r).length ≤ k := decN_len k l qs r
    have ht : (spreadN (pre.map fun r => (decN k l qs r).length)).length ≤ k + 1 := by
      rw [spread_len]
      apply top_le
      intro z hz
      obtain ⟨y, _, rfl⟩ := List.mem_map.mp hz
      have := decN_len k l qs y
      omega
    rw [List.map_append]
    show GtD _ _ _ _ _ fun ds2 m2 => StD _ _ _ _ _ { nx := fun ds' m' => mset m ad (.lst (List.map _ (spreadN (pre.map _ ++ [(decN k l qs r).length])))) = m' ∧ _, rt := _, bk := _, ct := _ } _
    rw [spread_snoc]
    generalize spreadN (pre.map fun r => (decN k l qs r).length) = xs at ht
    generalize hj : (decN k l qs r).length = j at hd
    walk_at "r"
    refine ⟨_, l, qs, r, rfl, hq, by omega, fun z => absurd g z, fun _ z => absurd ⟨by omega, b⟩ z, fun _ _ _ z => absurd hr z, fun _ _ _ _ => ?_⟩
    rw [Int.toNat_natCast]
    walk_at "r"
    rw [hj]
    refine st_while (fun f ds' m' => ∃ p : Nat, p ≤ j + 1 ∧ f = j + 1 - p ∧ p ≤ max xs.length p ∧ (p = 0 ∨ xs.length ≤ p) ∧ mset m ad (.lst ((padTo xs p).map fun n => D.int ((n : Nat) : Int))) = m' ∧ ds' = [some (.d (.int (k : Nat))), some (.d (.int l)), some (.d (dQs qs)), some (.r ad), some (.d (dBls r)), some (.d (.int (j : Nat)))]) (j + 1) ⟨0, by omega, rfl, by omega, .inl rfl, by rw [padTo_self xs (Nat.zero_le _)], rfl⟩ ?_
    rintro f ds' m' ⟨p, hp, rfl, _, hp2, rfl, rfl⟩
    walk_at "r"
    refine ⟨_, mset_same, ?_⟩
    walk_at "r"
    rw [List.length_map, padTo_len]
    refine i_d (fun c => ?_) (fun c => ?_)
    · walk_at "r"
      refine ⟨⟨_, mset_same⟩, ?_⟩
      walk_at "r"
      refine ⟨_, mset_same, by rw [List.length_map, padTo_len]; omega, ?_⟩
      refine ⟨j + 1 - (max xs.length p + 1), by omega, max xs.length p + 1, by omega, rfl, by omega, .inr (by omega), ?_, rfl⟩
      rw [mset_mset, padTo_succ xs (by omega), List.map_append]
      congr 3
      congr 1
      rcases hp2 with rfl | hp2
      · rw [show max xs.length 0 = xs.length by omega, padTo_self xs (Nat.le_refl _), padTo_self xs (Nat.zero_le _)]
      · rw [show max xs.length p = p by omega]
    · have e3 : padTo xs p = padTo xs (j + 1) := by
        rcases hp2 with rfl | hp2
        · rw [padTo_self xs (Nat.zero_le _), padTo_self xs (by omega)]
        · rw [show p = j + 1 by omega]
      rw [e3]
      walk_at "r"
      refine ⟨_, mset_same, _, atI_nats (by rw [padTo_len]; omega), ?_⟩
      walk_at "r"
      refine ⟨ad, _, _, j, _, rfl, rfl, rfl, mset_same, ixN_in (by rw [List.length_map, padTo_len]; omega), ?_, _, _, rfl⟩
      rw [mset_mset, ← inc_set xs j, List.map_set]
      rfl
  · rintro ds' m' ⟨rfl, o4, o5, rfl⟩
    refine st_frz 3 rfl mset_same ?_
    walk_at "r"
    rw [mdel_mset ha]
    exact hh
end Lb

/-! Sm60b: rows of answers: more of what the defs do. -/
namespace Lb
open PySem L2
local macro_rules | `(tactic| walk_at "v") => `(tactic| ((with_reducible refine ev_var (d := ?dv) ?hv ?_); (case hv => exact rfl)))
local macro_rules | `(tactic| walk_at "f") => `(tactic| first
  | with_reducible refine f_in ?_
  | with_reducible refine f_notin ?_
  | with_reducible refine f_add_i ?_
  | with_reducible refine f_add_s ?_
  | with_reducible refine f_add_l ?_
  | with_reducible refine f_add_t ?_
  | with_reducible refine f_sub ?_
  | with_reducible refine f_mul_i ?_
  | with_reducible refine f_mul_l ?_
  | with_reducible refine f_mul_t ?_
  | with_reducible refine f_div ?_
  | with_reducible refine f_mod ?_
  | with_reducible refine f_pow ?_
  | with_reducible refine f_lt ?_
  | with_reducible refine f_le ?_
  | with_reducible refine f_gt ?_
  | with_reducible refine f_ge ?_
  | with_reducible refine f_eq_i ?_
  | with_reducible refine f_ne_i ?_
  | with_reducible refine f_eq_b ?_
  | with_reducible refine f_ne_b ?_
  | with_reducible refine f_is_n ?_
  | with_reducible refine f_isnot_n ?_
  | with_reducible refine f_is_i ?_
  | with_reducible refine f_isnot_i ?_
  | with_reducible refine f_is_b ?_
  | with_reducible refine f_isnot_b ?_
  | with_reducible refine f_is_s ?_
  | with_reducible refine f_isnot_s ?_
  | with_reducible refine f_is_l ?_
  | with_reducible refine f_isnot_l ?_
  | with_reducible refine f_is_t ?_
  | with_reducible refine f_isnot_t ?_
  | with_reducible refine f_is_r ?_
  | with_reducible refine f_isnot_r ?_
  | with_reducible refine f_is ?_
  | with_reducible refine f_isnot ?_
  | with_reducible refine f_neg ?_
  | with_reducible refine f_len_ml ?_
  | with_reducible refine f_len_mt ?_
  | with_reducible refine f_sum_l ?_
  | with_reducible refine f_sum_t ?_
  | with_reducible refine f_all ?_
  | with_reducible refine f_any ?_
  | with_reducible refine f_len_l ?_
  | with_reducible refine f_len_t ?_
  | with_reducible refine f_len_c ?_
  | with_reducible refine f_abs ?_
  | with_reducible refine f_min2 ?_
  | with_reducible refine f_max2 ?_
  | with_reducible refine f_list_l ?_
  | with_reducible refine f_list_t ?_
  | with_reducible refine f_tup_l ?_
  | with_reducible refine f_tup_t ?_
  | with_reducible refine f_int_i ?_
  | with_reducible refine f_int_b ?_
  | with_reducible refine f_sl_l ?_
  | with_reducible refine f_sl_t ?_
  | with_reducible refine f_tr_n ?_
  | with_reducible refine f_tr_b ?_
  | with_reducible refine f_tr_i ?_
  | with_reducible refine f_tr_l ?_
  | with_reducible refine f_tr_t ?_
  | with_reducible refine f_tr_c ?_)
local macro_rules | `(tactic| walk_at "w") => `(tactic| first
  | walk_at "v"
  | with_reducible refine ev_rev ?_
  | with_reducible refine ev_sset ?_
  | with_reducible refine ev_lcl ?_
  | with_reducible refine ev_lct ?_
  | with_reducible refine ev_lcs ?_
  | with_reducible refine ev_lc1 ?_
  | with_reducible refine ev_lc2 ?_
  | with_reducible refine st_forl ?_
  | with_reducible refine st_fort ?_
  | with_reducible refine st_fors ?_
  | with_reducible refine st_for1 ?_
  | with_reducible refine st_for2 ?_
  | with_reducible refine ex_bl ?_
  | with_reducible refine ex_in ?_
  | with_reducible refine ex_ls ?_
  | with_reducible refine ex_tu ?_
  | with_reducible refine ex_st ?_
  | with_reducible refine ex_d0 ?_
  | with_reducible refine ex_d1 ?_
  | with_reducible refine ex_d2 ?_
  | with_reducible refine ex_d3 ?_
  | with_reducible refine ex_d4 ?_
  | with_reducible refine ex_d5 ?_
  | with_reducible refine ex_d6 ?_
  | with_reducible refine ex_d7 ?_
  | with_reducible refine ex_d8 ?_
  | with_reducible refine m_and ?_
  | with_reducible refine i_t ?_
  | with_reducible refine i_f ?_
  | with_reducible refine i_nt ?_
  | with_reducible refine i_nf ?_
  | with_reducible refine ev_tup ?_
  | with_reducible refine ev_lst ?_
  | with_reducible refine ev_int ?_
  | with_reducible refine ea_cons ?_
  | with_reducible refine ea_nil ?_
  | with_reducible refine ev_op ?_
  | with_reducible refine st_seq ?_
  | with_reducible refine st_asg ?_
  | with_reducible refine ev_call ?_
  | with_reducible refine ev_cb ?_
  | with_reducible refine st_if ?_
  | with_reducible refine et_test ?_
  | with_reducible refine et_not ?_
  | with_reducible refine et_or ?_
  | with_reducible refine et_and ?_
  | with_reducible refine et_tru ?_
  | with_reducible refine et_yes ?_
  | with_reducible refine et_B ?_
  | with_reducible refine ev_chain ?_
  | with_reducible refine ev_chain3 ?_
  | with_reducible refine ev_un ?_
  | with_reducible refine ev_if ?_
  | with_reducible refine ev_bl ?_
  | with_reducible refine ev_non ?_
  | with_reducible refine ev_str ?_
  | with_reducible refine ev_andV ?_
  | with_reducible refine ev_orV ?_
  | with_reducible refine ev_notV ?_
  | with_reducible refine ev_isB ?_
  | with_reducible refine ev_isE ?_
  | with_reducible refine ev_sl2 ?_
  | with_reducible refine ev_slA ?_
  | with_reducible refine ev_slB ?_
  | with_reducible refine ev_bmL ?_
  | with_reducible refine ev_bmL0 ?_
  | with_reducible refine st_ret ?_
  | with_reducible refine st_drop ?_
  | with_reducible refine st_next ?_
  | with_reducible refine st_setL ?_
  | with_reducible refine st_asgG ?_
  | with_reducible refine st_raise ?_
  | with_reducible refine gt_name ?_
  | with_reducible refine gt_tup2 ?_
  | with_reducible refine gt_tup3 ?_
  | walk_at "f")
local macro_rules | `(tactic| walk_at "r") => `(tactic| repeat walk_at "w")

def fullN (n : Nat) (l : Int) (qs : List (List Int)) : Bool := worksN n l qs && decide ((spreadN (manyN n l qs)).getD 0 0 = 0)
theorem many_ne (n : Nat) (l : Int) (qs : List (List Int)) : manyN n l qs ≠ [] := fun z => by
  have := congrArg List.length z
  unfold manyN at this
  rw [List.length_map, rows_len] at this
  have h2 : 0 < 2 ^ qs.length := Nat.pow_pos (by decide)
  simp at this
theorem spread_pos (n : Nat) (l : Int) (qs : List (List Int)) : 0 < (spreadN (manyN n l qs)).length := by
  rw [spread_len]
  rcases top_is (manyN n l qs) with ⟨_, e⟩ | ⟨k, _, e⟩
  · exact absurd e (many_ne n l qs)
  · omega
def S_is_full : SpD := fun es m R XR => ∃ (n l : Int) (qs : List (List Int)), es = [.d (.int n), .d (.int l), .d (dQs qs)] ∧ (∀ q ∈ qs, q.length < 64) ∧
  (¬ GameOk n l → XR .game m) ∧ (GameOk n l → ¬ (qs.length ≤ 12 ∧ ∀ q ∈ qs, QOk n q) → XR .question m) ∧ (GameOk n l → qs.length ≤ 12 → (∀ q ∈ qs, QOk n q) → R (.d (.bl (fullN n.toNat l qs))) m)
def rd_is_full (G : Ctx) (W : WX) : TS :=
  tSeq (tDrop (tCallS (spL G S_look_few) (WE W) (tCons (tVar 0) (tCons (tVar 1) (tCons (tVar 2) (tNil))))))
  (tRet (tAndV (tCallS (spL G S_works) (WE W) (tCons (tVar 0) (tCons (tVar 1) (tCons (tVar 2) (tNil))))) (tOp (rD2 G eqF) (tOp (rD2 G idxF) (tCallS (spL G S_spread) (WE W) (tCons (tVar 0) (tCons (tVar 1) (tCons (tVar 2) (tNil))))) (tC (.int 0))) (tC (.int 0)))))

theorem len_is_full : ∀ es m R XR, S_is_full es m R XR → es.length = 3 := by
  rintro es m R XR ⟨a, b, qs, rfl, _⟩
  rfl
theorem sem_is_full (G : Ctx) : BodyD G 3 (rd_is_full G) S_is_full := by
  rintro W es m R XR ⟨n, l, qs, rfl, hq, h1, h2, h3⟩
  unfold rd_is_full
  walk_at "r"
  refine ⟨n, l, qs, rfl, hq, h1, h2, fun g a b => ?_⟩
  have hh := h3 g a b
  unfold fullN at hh
  walk_at "r"
  refine ⟨n, l, qs, rfl, hq, h1, fun _ z => absurd ⟨by omega, b⟩ z, fun _ _ _ => ?_⟩
  walk_at "r"
  refine i_b (fun c => ?_) (fun c => ?_)
  · rw [c] at hh
    walk_at "r"
    refine ⟨n, l, qs, rfl, hq, h1, h2, fun _ _ _ => ?_⟩
    walk_at "r"
    refine ⟨_, atI_nats (k := 0) (spread_pos _ _ _), ?_⟩
    walk_at "r"
    have e : decide (((spreadN (manyN n.toNat l qs)).getD 0 0 : Int) = 0) = decide ((spreadN (manyN n.toNat l qs)).getD 0 0 = 0) := by
      apply decide_eq_decide.mpr
      omega
    rw [e]
    exact hh
  · rw [c] at hh
    exact hh
def S_word_of : SpD := fun es m R _ => ∃ (qs : List (List Int)) (t : Int), es = [.d (dQs qs), .d (.int t)] ∧ qs.length ≤ 1000 ∧ R (.d (dBls (qs.map fun q => decide (t ∈ q)))) m
def rd_word_of (G : Ctx) (W : WX) : TS :=
  tRet (tLc (iList G.K (tVar 0)) (gName 2) (tYes) (tOp (rD2 G inF) (tVar 1) (tVar 2)) [2])

theorem len_word_of : ∀ es m R XR, S_word_of es m R XR → es.length = 2 := by
  rintro es m R XR ⟨a, b, rfl, _⟩
  rfl
theorem sem_word_of (G : Ctx) : BodyD G 3 (rd_word_of G) S_word_of := by
  rintro W es m R XR ⟨qs, t, rfl, hl, h⟩
  unfold rd_word_of
  walk_at "r"
  refine lcM qs (fun q => .d (dInts q)) (fun q => .bl (decide (t ∈ q))) (by rw [List.map_map]; rfl) (by omega) (fun q M hq hM => ⟨_, .name (by decide), ?_⟩) ?_
  · walk_at "r"
    exact rfl
  · rw [dBls, List.map_map] at h
    exact h
def S_nearest_things : SpD := fun es m R XR => ∃ (n l : Int) (qs : List (List Int)) (bs : List Bool), es = [.d (.int n), .d (.int l), .d (dQs qs), .d (dBls bs)] ∧ (∀ q ∈ qs, q.length < 64) ∧ bs.length ≤ 1000 ∧
  (¬ GameOk n l → XR .game m) ∧ (GameOk n l → ¬ ((qs.length ≤ 40 ∧ ∀ q ∈ qs, QOk n q) ∧ bs.length = qs.length) → XR .question m) ∧
  (GameOk n l → qs.length ≤ 40 → (∀ q ∈ qs, QOk n q) → bs.length = qs.length → ∀ ts d, Near (fun t => liedN qs bs (t : Nat)) n.toNat ts d → R (.d (.tup [dNats ts, .int (d : Nat)])) m)
def rd_nearest_things (G : Ctx) (W : WX) : TS :=
  tSeq (tDrop (tCallS (spL G S_look_all) (WE W) (tCons (tVar 0) (tCons (tVar 1) (tCons (tVar 2) (tNil))))))
  (tSeq (tIfS (tTest (tOp (rD2 G neF) (tCB (rDn G lenF) (tCons (tVar 3) (tNil))) (tCB (rDn G lenF) (tCons (tVar 2) (tNil))))) (tRaise W (G.has .question) (G.ex .question)) (tNext))
  (tSeq (tAsg (tC .non) (gName 4))
  (tSeq (tFor (iRng1 (tCons (tVar 0) (tNil))) (gName 5) (tSeq (tAsg (tCallS (spL G S_word_of) (WE W) (tCons (tVar 2) (tCons (tVar 5) (tNil)))) (gName 6))
  (tSeq (tAsg (tCB (rDn G lenF) (tCons (tLc (iRng1 (tCons (tCB (rDn G lenF) (tCons (tVar 3) (tNil))) (tNil))) (gName 8) (tTest (tOp (rD2 G neF) (tOp (rD2 G idxF) (tVar 6) (tVar 8)) (tOp (rD2 G idxF) (tVar 3) (tVar 8)))) (tVar 8) [8]) (tNil))) (gName 7))
  (tIfS (tOr (tTest (tOp (rD2 G isF) (tVar 4) (tC .non))) (tTest (tOp (rD2 G ltF) (tVar 7) (tOp (rD2 G idxT) (tVar 4) (tC (.int 1)))))) (tAsg (tTup (tCons (tLst (tCons (tVar 5) (tNil))) (tCons (tVar 7) (tNil)))) (gName 4)) (tIfS (tTest (tOp (rD2 G eqF) (tVar 7) (tOp (rD2 G idxT) (tVar 4) (tC (.int 1))))) (tDrop (tBM G.K "list" (rDM G appendF) (tOp (rD2 G idxT) (tVar 4) (tC (.int 0))) (tCons (tVar 5) (tNil)))) (tNext))))))
  (tRet (tVar 4)))))

theorem len_nearest_things : ∀ es m R XR, S_nearest_things es m R XR → es.length = 4 := by
  rintro es m R XR ⟨a, b, c, d, rfl, _⟩
  rfl
theorem atI_word {qs : List (List Int)} {t : Int} {k : Nat} (h : k < qs.length) : atI ((qs.map fun q => decide (t ∈ q)).map D.bl) (0 + (k : Int)) = some (.bl (decide (t ∈ qs.getD k []))) := by
  rw [Int.zero_add]
  apply atI_nat
  rw [List.getElem?_map, List.getElem?_map, List.getD_eq_getElem?_getD, List.getElem?_eq_getElem h]
  rfl
/-- the best so far: nothing, or a pair at b with its list at a -/
def BestAt (m : Mu) (ts : List Nat) (d : Nat) (b : Addr) (m' : Mu) : Prop := ∃ a, a ≠ b ∧ m a = none ∧ m b = none ∧ m' a = some (.lst (ts.map fun n => D.int ((n : Nat) : Int))) ∧ m' b = some (.tpl [.r a, .d (.int (d : Nat))]) ∧ ∀ c, c ≠ a → c ≠ b → m' c = m c
theorem best_new {m : Mu} {a b : Addr} {ts : List Nat} {d : Nat} (ha : m a = none) (hb : mset m a (.lst (ts.map fun n => D.int ((n : Nat) : Int))) b = none) : BestAt m ts d b (mset (mset m a (.lst (ts.map fun n => D.int ((n : Nat) : Int)))) b (.tpl [.r a, .d (.int (d : Nat))])) := by
  have hab : a ≠ b := fun e => by rw [← e, mset_same] at hb; cases hb
  have hb2 : m b = none := by rw [mset_ne hab.symm] at hb; exact hb
  exact ⟨a, hab, ha, hb2, by rw [mset_ne hab, mset_same], mset_same, fun c h1 h2 => by rw [mset_ne h2, mset_ne h1]⟩
theorem BestAt.drop {m m' : Mu} {ts : List Nat} {d : Nat} {b : Addr} (h : BestAt m ts d b m') : Sub m m' := fun c => by
  obtain ⟨a, hab, ha, hb, h1, h2, h3⟩ := h
  by_cases c1 : c = a
  · subst c1; exact .inl ha
  · by_cases c2 : c = b
    · subst c2; exact .inl hb
    · exact .inr (h3 c c1 c2).symm
theorem sem_nearest_things (G : Ctx) : BodyD G 9 (rd_nearest_things G) S_nearest_things := by
  rintro W es m R XR ⟨n, l, qs, bs, rfl, hq, hbs, h1, h2, h3⟩
  unfold rd_nearest_things
  walk_at "r"
  refine ⟨n, l, qs, rfl, hq, h1, fun g z => h2 g fun y => z y.1, fun g a b => ?_⟩
  obtain ⟨g1, g2, g3, g4⟩ := id g
  obtain ⟨k, rfl⟩ := Int.eq_ofNat_of_zero_le (show 0 ≤ n by omega)
  walk_at "r"
  refine i_nd (fun c => ?_) (fun c => ?_)
  · walk_at "r"
    exact h2 g fun z => c (by rw [z.2])
  have c : bs.length = qs.length := by omega
  have hh := h3 g a b c
  rw [Int.toNat_natCast] at hh
  walk_at "r"
  refine ⟨_, rfl, by omega, by omega, ?_⟩
  rw [Int.toNat_natCast]
  refine forN (fun i ds' m' => ∃ o5 o6 o7 o8, (i = 0 ∧ m = m' ∧ ds' = [some (.d (.int (k : Nat))), some (.d (.int l)), some (.d (dQs qs)), some (.d (dBls bs)), some (.d .non), o5, o6, o7, o8]) ∨
    ∃ ts d ad, 0 < i ∧ Near (fun t => liedN qs bs (t : Nat)) i ts d ∧ ts.length ≤ i ∧ BestAt m ts d ad m' ∧ ds' = [some (.d (.int (k : Nat))), some (.d (.int l)), some (.d (dQs qs)), some (.d (dBls bs)), some (.r ad), o5, o6, o7, o8]) ⟨none, none, none, none, .inl ⟨rfl, rfl, rfl⟩⟩ ?_ ?_
  · rintro i ds' m' hi ⟨o5, o6, o7, o8, hP⟩
    have step : ∀ (x4 : DV) (NX : DS → Mu → Prop) (RT : DV → Mu → Prop) (XR' : Tag → DS → Mu → Prop) (BK CT : DS → Mu → Prop) (W' : WX) (tail : TS), StD G W' tail [some (.d (.int (k : Nat))), some (.d (.int l)), some (.d (dQs qs)), some (.d (dBls bs)), some x4, some (.d (.int (i : Nat))), some (.d (dBls (qs.map fun q => decide ((i : Int) ∈ q)))), some (.d (.int (liedN qs bs (i : Nat) : Nat))), o8] m' { nx := NX, rt := RT, bk := BK, ct := CT } XR' →
        StD G W' (tSeq (tAsg (tCallS (spL G S_word_of) (WE W') (tCons (tVar 2) (tCons (tVar 5) (tNil)))) (gName 6)) (tSeq (tAsg (tCB (rDn G lenF) (tCons (tLc (iRng1 (tCons (tCB (rDn G lenF) (tCons (tVar 3) (tNil))) (tNil))) (gName 8) (tTest (tOp (rD2 G neF) (tOp (rD2 G idxF) (tVar 6) (tVar 8)) (tOp (rD2 G idxF) (tVar 3) (tVar 8)))) (tVar 8) [8]) (tNil))) (gName 7)) tail)) [some (.d (.int (k : Nat))), some (.d (.int l)), some (.d (dQs qs)), some (.d (dBls bs)), some x4, some (.d (.int (0 + (i : Nat)))), o6, o7, o8] m' { nx := NX, rt := RT, bk := BK, ct := CT } XR' := by
      intro x4 NX RT XR' BK CT W' tail ht
      walk_at "r"
      rw [Int.zero_add]
      refine ⟨qs, _, rfl, by omega, ?_⟩
      walk_at "r"
      refine ⟨_, rfl, by omega, by omega, ?_⟩
      rw [Int.toNat_natCast]
      refine lcF (List.range bs.length) (fun t => .d (.int (0 + (t : Nat)))) (fun t => decide (((i : Nat) : Int) ∈ qs.getD t []) != bs.getD t false) (fun t => .int (0 + (t : Nat))) rfl (by rw [List.length_range]; omega) (fun t M ht hM => ⟨_, .name (by decide), ?_, fun _ => ?_⟩) ?_
      · have ht := List.mem_range.mp ht
        walk_at "r"
        refine ⟨_, atI_word (by omega), ?_⟩
        walk_at "r"
        refine ⟨_, atI_bs ht, ?_⟩
        walk_at "r"
        exact rfl
      · walk_at "r"
        exact rfl
      · walk_at "r"
        exact ht
    rcases hP with ⟨rfl, rfl, rfl⟩ | ⟨ts, d, ad, hi0, hN, hts, hB, rfl⟩
    · refine gt_name ?_
      refine step (.d .non) _ _ _ _ _ _ _ ?_
      refine st_if (et_or (et_test (ev_op (ev_var rfl (ev_non (f_is_n (ex_bl (i_t (i_t ?_)))))))))
      refine st_asg (ev_tupO ?_)
      refine ea_cons (ev_lstO ?_)
      walk_at "r"
      intro a1 ha1
      walk_at "r"
      refine ⟨by show 2 ≤ 100000; decide, fun b1 hb1 => ?_⟩
      refine ⟨_, _, _, _, .inr ⟨[0], _, b1, by omega, Near.first, by simp, best_new (ts := [0]) ha1 hb1, rfl⟩⟩
    · refine gt_name ?_
      refine step (.r ad) _ _ _ _ _ _ _ ?_
      obtain ⟨al, hal, hml, hmb, e1, e2, e3⟩ := id hB
      walk_at "r"
      refine ⟨_, _, e2, atI_nat (j := 1) rfl, ?_⟩
      walk_at "r"
      refine i_d (fun c1 => ?_) (fun c1 => ?_)
      · refine StD.sub (m' := m) ?_ hB.drop
        refine st_asg (ev_tupO ?_)
        refine ea_cons (ev_lstO ?_)
        walk_at "r"
        intro a1 ha1
        walk_at "r"
        refine ⟨by show 2 ≤ 100000; decide, fun b1 hb1 => ?_⟩
        have c1 : liedN qs bs (i : Nat) < d := by omega
        exact ⟨_, _, _, _, .inr ⟨[i], _, b1, by omega, near_lt (L := fun t => liedN qs bs (t : Nat)) (fun t ht => Nat.lt_of_lt_of_le c1 (hN.le t ht)), by simp, best_new (ts := [i]) ha1 hb1, rfl⟩⟩
      · walk_at "r"
        refine ⟨_, _, e2, atI_nat (j := 1) rfl, ?_⟩
        walk_at "r"
        refine i_d (fun c2 => ?_) (fun c2 => ?_)
        · walk_at "r"
          refine ⟨_, _, e2, atI_nat (j := 0) rfl, ?_⟩
          refine ⟨⟨_, e1⟩, ?_⟩
          walk_at "r"
          refine ⟨_, e1, by rw [List.length_map]; omega, ?_⟩
          refine ⟨_, _, _, _, .inr ⟨ts ++ [i], d, ad, by omega, hN.eqs (by omega), by rw [List.length_append]; show ts.length + 1 ≤ _; omega, ⟨al, hal, hml, hmb, ?_, by rw [mset_ne hal.symm]; exact e2, fun c z1 z2 => by rw [mset_ne z1]; exact e3 c z1 z2⟩, rfl⟩⟩
          rw [mset_same, List.map_append]
          rfl
        · walk_at "r"
          exact ⟨_, _, _, _, .inr ⟨ts, d, ad, by omega, hN.gt (by show d < liedN qs bs (i : Nat); omega), by omega, hB, rfl⟩⟩
  · rintro ds' m' ⟨o5, o6, o7, o8, ⟨z, _⟩ | ⟨ts, d, ad, hi0, hN, hts, hB, rfl⟩⟩
    · omega
    · refine st_ret (ev_frT ?_)
      walk_at "r"
      obtain ⟨al, hal, hml, hmb, e1, e2, e3⟩ := id hB
      refine ⟨al, ad, _, _, rfl, e2, e1, ?_⟩
      have e : mdel (mdel m' al) ad = m := by
        funext x
        by_cases x1 : x = ad
        · subst x1; rw [mdel_same, hmb]
        · rw [mdel_ne x1]
          by_cases x2 : x = al
          · subst x2; rw [mdel_same, hml]
          · rw [mdel_ne x2]; exact e3 x x2 x1
      rw [e]
      exact hh ts d hN
end Lb

/-! SmQ: a question drawn. -/
namespace Lb
open PySem L2
local macro_rules | `(tactic| walk_at "v") => `(tactic| ((with_reducible refine ev_var (d := ?dv) ?hv ?_); (case hv => exact rfl)))
local macro_rules | `(tactic| walk_at "f") => `(tactic| first
  | with_reducible refine f_in ?_
  | with_reducible refine f_notin ?_
  | with_reducible refine f_add_i ?_
  | with_reducible refine f_add_s ?_
  | with_reducible refine f_add_l ?_
  | with_reducible refine f_add_t ?_
  | with_reducible refine f_sub ?_
  | with_reducible refine f_mul_i ?_
  | with_reducible refine f_mul_l ?_
  | with_reducible refine f_mul_t ?_
  | with_reducible refine f_div ?_
  | with_reducible refine f_mod ?_
  | with_reducible refine f_pow ?_
  | with_reducible refine f_lt ?_
  | with_reducible refine f_le ?_
  | with_reducible refine f_gt ?_
  | with_reducible refine f_ge ?_
  | with_reducible refine f_eq_i ?_
  | with_reducible refine f_ne_i ?_
  | with_reducible refine f_eq_b ?_
  | with_reducible refine f_ne_b ?_
  | with_reducible refine f_is_n ?_
  | with_reducible refine f_isnot_n ?_
  | with_reducible refine f_is_i ?_
  | with_reducible refine f_isnot_i ?_
  | with_reducible refine f_is_b ?_
  | with_reducible refine f_isnot_b ?_
  | with_reducible refine f_is_s ?_
  | with_reducible refine f_isnot_s ?_
  | with_reducible refine f_is_l ?_
  | with_reducible refine f_isnot_l ?_
  | with_reducible refine f_is_t ?_
  | with_reducible refine f_isnot_t ?_
  | with_reducible refine f_is_r ?_
  | with_reducible refine f_isnot_r ?_
  | with_reducible refine f_is ?_
  | with_reducible refine f_isnot ?_
  | with_reducible refine f_neg ?_
  | with_reducible refine f_len_ml ?_
  | with_reducible refine f_len_mt ?_
  | with_reducible refine f_sum_l ?_
  | with_reducible refine f_sum_t ?_
  | with_reducible refine f_all ?_
  | with_reducible refine f_any ?_
  | with_reducible refine f_len_l ?_
  | with_reducible refine f_len_t ?_
  | with_reducible refine f_len_c ?_
  | with_reducible refine f_abs ?_
  | with_reducible refine f_min2 ?_
  | with_reducible refine f_max2 ?_
  | with_reducible refine f_list_l ?_
  | with_reducible refine f_list_t ?_
  | with_reducible refine f_tup_l ?_
  | with_reducible refine f_tup_t ?_
  | with_reducible refine f_int_i ?_
  | with_reducible refine f_int_b ?_
  | with_reducible refine f_sl_l ?_
  | with_reducible refine f_sl_t ?_
  | with_reducible refine f_tr_n ?_
  | with_reducible refine f_tr_b ?_
  | with_reducible refine f_tr_i ?_
  | with_reducible refine f_tr_l ?_
  | with_reducible refine f_tr_t ?_
  | with_reducible refine f_tr_c ?_)
local macro_rules | `(tactic| walk_at "w") => `(tactic| first
  | walk_at "v"
  | with_reducible refine ev_rev ?_
  | with_reducible refine ev_sset ?_
  | with_reducible refine ev_lcl ?_
  | with_reducible refine ev_lct ?_
  | with_reducible refine ev_lcs ?_
  | with_reducible refine ev_lc1 ?_
  | with_reducible refine ev_lc2 ?_
  | with_reducible refine st_forl ?_
  | with_reducible refine st_fort ?_
  | with_reducible refine st_fors ?_
  | with_reducible refine st_for1 ?_
  | with_reducible refine st_for2 ?_
  | with_reducible refine ex_bl ?_
  | with_reducible refine ex_in ?_
  | with_reducible refine ex_ls ?_
  | with_reducible refine ex_tu ?_
  | with_reducible refine ex_st ?_
  | with_reducible refine ex_d0 ?_
  | with_reducible refine ex_d1 ?_
  | with_reducible refine ex_d2 ?_
  | with_reducible refine ex_d3 ?_
  | with_reducible refine ex_d4 ?_
  | with_reducible refine ex_d5 ?_
  | with_reducible refine ex_d6 ?_
  | with_reducible refine ex_d7 ?_
  | with_reducible refine ex_d8 ?_
  | with_reducible refine m_and ?_
  | with_reducible refine i_t ?_
  | with_reducible refine i_f ?_
  | with_reducible refine i_nt ?_
  | with_reducible refine i_nf ?_
  | with_reducible refine ev_tup ?_
  | with_reducible refine ev_lst ?_
  | with_reducible refine ev_int ?_
  | with_reducible refine ea_cons ?_
  | with_reducible refine ea_nil ?_
  | with_reducible refine ev_op ?_
  | with_reducible refine st_seq ?_
  | with_reducible refine st_asg ?_
  | with_reducible refine ev_call ?_
  | with_reducible refine ev_cb ?_
  | with_reducible refine st_if ?_
  | with_reducible refine et_test ?_
  | with_reducible refine et_not ?_
  | with_reducible refine et_or ?_
  | with_reducible refine et_and ?_
  | with_reducible refine et_tru ?_
  | with_reducible refine et_yes ?_
  | with_reducible refine et_B ?_
  | with_reducible refine ev_chain ?_
  | with_reducible refine ev_chain3 ?_
  | with_reducible refine ev_un ?_
  | with_reducible refine ev_if ?_
  | with_reducible refine ev_bl ?_
  | with_reducible refine ev_non ?_
  | with_reducible refine ev_str ?_
  | with_reducible refine ev_andV ?_
  | with_reducible refine ev_orV ?_
  | with_reducible refine ev_notV ?_
  | with_reducible refine ev_isB ?_
  | with_reducible refine ev_isE ?_
  | with_reducible refine ev_sl2 ?_
  | with_reducible refine ev_slA ?_
  | with_reducible refine ev_slB ?_
  | with_reducible refine ev_bmL ?_
  | with_reducible refine ev_bmL0 ?_
  | with_reducible refine st_ret ?_
  | with_reducible refine st_drop ?_
  | with_reducible refine st_next ?_
  | with_reducible refine st_setL ?_
  | with_reducible refine st_asgG ?_
  | with_reducible refine st_raise ?_
  | with_reducible refine gt_name ?_
  | with_reducible refine gt_tup2 ?_
  | with_reducible refine gt_tup3 ?_
  | walk_at "f")
local macro_rules | `(tactic| walk_at "r") => `(tactic| repeat walk_at "w")

theorem q_app {i : Nat} {q : List Int} (h : QOk (i : Int) q) : QOk ((i + 1 : Nat) : Int) (q ++ [(i : Int)]) := by
  refine ⟨List.pairwise_append.mpr ⟨h.1, List.pairwise_singleton _ _, fun a ha b hb => ?_⟩, fun k hk => ?_⟩
  · rw [List.mem_singleton.mp hb]
    exact (h.2 a ha).2
  · rcases List.mem_append.mp hk with z | z
    · have := h.2 k z
      omega
    · rw [List.mem_singleton.mp z]
      omega
theorem q_up {i : Nat} {q : List Int} (h : QOk (i : Int) q) : QOk ((i + 1 : Nat) : Int) q := ⟨h.1, fun k hk => by have := h.2 k hk; omega⟩
theorem q_filter (n : Nat) (c : Nat → Bool) : QOk (n : Int) (((List.range n).filter c).map fun t => ((t : Nat) : Int)) ∧ (((List.range n).filter c).map fun t => ((t : Nat) : Int)).length ≤ n := by
  refine ⟨⟨?_, fun k hk => ?_⟩, ?_⟩
  · rw [List.pairwise_map]
    exact ((List.pairwise_lt_range (n := n)).filter _).imp fun h => by omega
  · obtain ⟨t, ht, rfl⟩ := List.mem_map.mp hk
    have := List.mem_range.mp (List.mem_filter.mp ht).1
    omega
  · rw [List.length_map]
    exact Nat.le_trans (List.length_filter_le _ _) (by rw [List.length_range]; exact Nat.le_refl _)
def S_law_question : SpD := fun es m R _ => ∃ (ns : List Int) (k : Int) (n : Nat), es = [.scr ns, .d (.int k), .d (.int n)] ∧ 0 ≤ k ∧ k ≤ 10000 ∧ n ≤ 64 ∧ ∀ q : List Int, QOk n q → q.length ≤ n → R (.d (dInts q)) m
def rd_law_question (G : Ctx) (W : WX) : TS :=
  tSeq (tAsg (tLst (tNil)) (gName 3))
  (tSeq (tAsg (tOp (rD2 G modF) (tCallS (spL G S_law_mix) (WE W) (tCons (tVar 0) (tCons (tVar 1) (tNil)))) (tC (.int 5))) (gName 4))
  (tSeq (tFor (iRng1 (tCons (tVar 2) (tNil))) (gName 5) (tSeq (tAsg (tCallS (spL G S_law_mix) (WE W) (tCons (tVar 0) (tCons (tOp (rD2 G addF) (tOp (rD2 G addF) (tVar 1) (tC (.int 1))) (tVar 5)) (tNil)))) (gName 6))
  (tIfS (tOr (tAnd (tTest (tOp (rD2 G eqF) (tVar 4) (tC (.int 0)))) (tTest (tOp (rD2 G eqF) (tOp (rD2 G modF) (tVar 6) (tC (.int 8))) (tC (.int 0))))) (tAnd (tTest (tOp (rD2 G gtF) (tVar 4) (tC (.int 0)))) (tTest (tOp (rD2 G eqF) (tOp (rD2 G modF) (tOp (rD2 G divF) (tVar 6) (tC (.int 8))) (tC (.int 2))) (tC (.int 0)))))) (tDrop (tBM G.K "list" (rDM G appendF) (tVar 3) (tCons (tVar 5) (tNil)))) (tNext))))
  (tRet (tVar 3))))

theorem len_law_question : ∀ es m R XR, S_law_question es m R XR → es.length = 3 := by
  rintro es m R XR ⟨a, b, qs, rfl, _⟩
  rfl
local macro_rules | `(tactic| walk_at "ap") => `(tactic| (
  walk_at "r"
  refine ⟨⟨_, mset_same⟩, ?_⟩
  walk_at "r"
  refine ⟨_, mset_same, by rw [List.length_map]; omega, ?_⟩
  refine ⟨_, q_app (by assumption), by rw [List.length_append]; exact Nat.succ_le_succ (by assumption), ?_, _, _, rfl⟩
  rw [mset_mset, List.map_append, Int.zero_add]
  rfl))
local macro_rules | `(tactic| walk_at "no") => `(tactic| (
  walk_at "r"
  exact ⟨_, q_up (by assumption), by omega, rfl, _, _, rfl⟩))
theorem sem_law_question (G : Ctx) : BodyD G 7 (rd_law_question G) S_law_question := by
  rintro W es m R XR ⟨ns, k, n, rfl, hk, hk2, hn, h⟩
  unfold rd_law_question
  refine st_seq (st_asg (ev_lstO ?_))
  walk_at "r"
  intro a ha
  walk_at "r"
  refine ⟨ns, k, rfl, hk, by omega, ?_⟩
  walk_at "r"
  refine ⟨by decide, ?_⟩
  walk_at "r"
  refine ⟨_, rfl, by omega, by omega, ?_⟩
  rw [Int.toNat_natCast]
  refine forN (fun i ds' m' => ∃ q : List Int, QOk (i : Int) q ∧ q.length ≤ i ∧ mset m a (.lst (q.map D.int)) = m' ∧ ∃ o5 o6, ds' = [some (.scr ns), some (.d (.int k)), some (.d (.int n)), some (.r a), some (.d (.int (mixN ns k % 5))), o5, o6]) ⟨[], ⟨List.Pairwise.nil, fun _ z => nomatch z⟩, Nat.le_refl _, rfl, none, none, rfl⟩ ?_ ?_
  · rintro i ds' m' hi ⟨q, hq, hl, rfl, o5, o6, rfl⟩
    walk_at "r"
    refine ⟨ns, _, rfl, by omega, by omega, ?_⟩
    walk_at "r"
    refine i_d (fun w0 => ?_) (fun w0 => ?_)
    · walk_at "r"
      refine ⟨by decide, ?_⟩
      walk_at "r"
      refine i_d (fun w1 => ?_) (fun w1 => ?_)
      · walk_at "ap"
      · walk_at "r"
        refine i_d (fun w2 => absurd w2 (by omega)) (fun w2 => ?_)
        walk_at "no"
    · walk_at "r"
      refine i_d (fun w2 => ?_) (fun w2 => ?_)
      · walk_at "r"
        refine ⟨⟨by decide, by decide⟩, ?_⟩
        walk_at "r"
        refine ⟨by decide, ?_⟩
        walk_at "r"
        refine i_d (fun w1 => ?_) (fun w1 => ?_)
        · walk_at "ap"
        · walk_at "no"
      · walk_at "no"
  · rintro ds' m' ⟨q, hq, hl, rfl, o5, o6, rfl⟩
    refine st_frz 3 rfl mset_same ?_
    walk_at "r"
    rw [mdel_mset ha]
    exact h q hq hl

end Lb

/-! SmR6: a refusal told, of six kinds. -/
namespace Lb
open PySem L2
local macro_rules | `(tactic| walk_at "v") => `(tactic| ((with_reducible refine ev_var (d := ?dv) ?hv ?_); (case hv => exact rfl)))
local macro_rules | `(tactic| walk_at "f") => `(tactic| first
  | with_reducible refine f_in ?_
  | with_reducible refine f_notin ?_
  | with_reducible refine f_add_i ?_
  | with_reducible refine f_add_s ?_
  | with_reducible refine f_add_l ?_
  | with_reducible refine f_add_t ?_
  | with_reducible refine f_sub ?_
  | with_reducible refine f_mul_i ?_
  | with_reducible refine f_mul_l ?_
  | with_reducible refine f_mul_t ?_
  | with_reducible refine f_div ?_
  | with_reducible refine f_mod ?_
  | with_reducible refine f_pow ?_
  | with_reducible refine f_lt ?_
  | with_reducible refine f_le ?_
  | with_reducible refine f_gt ?_
  | with_reducible refine f_ge ?_
  | with_reducible refine f_eq_i ?_
  | with_reducible refine f_ne_i ?_
  | with_reducible refine f_eq_b ?_
  | with_reducible refine f_ne_b ?_
  | with_reducible refine f_is_n ?_
  | with_reducible refine f_isnot_n ?_
  | with_reducible refine f_is_i ?_
  | with_reducible refine f_isnot_i ?_
  | with_reducible refine f_is_b ?_
  | with_reducible refine f_isnot_b ?_
  | with_reducible refine f_is_s ?_
  | with_reducible refine f_isnot_s ?_
  | with_reducible refine f_is_l ?_
  | with_reducible refine f_isnot_l ?_
  | with_reducible refine f_is_t ?_
  | with_reducible refine f_isnot_t ?_
  | with_reducible refine f_is_r ?_
  | with_reducible refine f_isnot_r ?_
  | with_reducible refine f_is ?_
  | with_reducible refine f_isnot ?_
  | with_reducible refine f_neg ?_
  | with_reducible refine f_len_ml ?_
  | with_reducible refine f_len_mt ?_
  | with_reducible refine f_sum_l ?_
  | with_reducible refine f_sum_t ?_
  | with_reducible refine f_all ?_
  | with_reducible refine f_any ?_
  | with_reducible refine f_len_l ?_
  | with_reducible refine f_len_t ?_
  | with_reducible refine f_len_c ?_
  | with_reducible refine f_abs ?_
  | with_reducible refine f_min2 ?_
  | with_reducible refine f_max2 ?_
  | with_reducible refine f_list_l ?_
  | with_reducible refine f_list_t ?_
  | with_reducible refine f_tup_l ?_
  | with_reducible refine f_tup_t ?_
  | with_reducible refine f_int_i ?_
  | with_reducible refine f_int_b ?_
  | with_reducible refine f_sl_l ?_
  | with_reducible refine f_sl_t ?_
  | with_reducible refine f_tr_n ?_
  | with_reducible refine f_tr_b ?_
  | with_reducible refine f_tr_i ?_
  | with_reducible refine f_tr_l ?_
  | with_reducible refine f_tr_t ?_
  | with_reducible refine f_tr_c ?_)
local macro_rules | `(tactic| walk_at "w") => `(tactic| first
  | walk_at "v"
  | with_reducible refine ev_rev ?_
  | with_reducible refine ev_sset ?_
  | with_reducible refine ev_lcl ?_
  | with_reducible refine ev_lct ?_
  | with_reducible refine ev_lcs ?_
  | with_reducible refine ev_lc1 ?_
  | with_reducible refine ev_lc2 ?_
  | with_reducible refine st_forl ?_
  | with_reducible refine st_fort ?_
  | with_reducible refine st_fors ?_
  | with_reducible refine st_for1 ?_
  | with_reducible refine st_for2 ?_
  | with_reducible refine ex_bl ?_
  | with_reducible refine ex_in ?_
  | with_reducible refine ex_ls ?_
  | with_reducible refine ex_tu ?_
  | with_reducible refine ex_st ?_
  | with_reducible refine ex_d0 ?_
  | with_reducible refine ex_d1 ?_
  | with_reducible refine ex_d2 ?_
  | with_reducible refine ex_d3 ?_
  | with_reducible refine ex_d4 ?_
  | with_reducible refine ex_d5 ?_
  | with_reducible refine ex_d6 ?_
  | with_reducible refine ex_d7 ?_
  | with_reducible refine ex_d8 ?_
  | with_reducible refine m_and ?_
  | with_reducible refine i_t ?_
  | with_reducible refine i_f ?_
  | with_reducible refine i_nt ?_
  | with_reducible refine i_nf ?_
  | with_reducible refine ev_tup ?_
  | with_reducible refine ev_lst ?_
  | with_reducible refine ev_int ?_
  | with_reducible refine ea_cons ?_
  | with_reducible refine ea_nil ?_
  | with_reducible refine ev_op ?_
  | with_reducible refine st_seq ?_
  | with_reducible refine st_asg ?_
  | with_reducible refine ev_call ?_
  | with_reducible refine ev_cb ?_
  | with_reducible refine st_if ?_
  | with_reducible refine et_test ?_
  | with_reducible refine et_not ?_
  | with_reducible refine et_or ?_
  | with_reducible refine et_and ?_
  | with_reducible refine et_tru ?_
  | with_reducible refine et_yes ?_
  | with_reducible refine et_B ?_
  | with_reducible refine ev_chain ?_
  | with_reducible refine ev_chain3 ?_
  | with_reducible refine ev_un ?_
  | with_reducible refine ev_if ?_
  | with_reducible refine ev_bl ?_
  | with_reducible refine ev_non ?_
  | with_reducible refine ev_str ?_
  | with_reducible refine ev_andV ?_
  | with_reducible refine ev_orV ?_
  | with_reducible refine ev_notV ?_
  | with_reducible refine ev_isB ?_
  | with_reducible refine ev_isE ?_
  | with_reducible refine ev_sl2 ?_
  | with_reducible refine ev_slA ?_
  | with_reducible refine ev_slB ?_
  | with_reducible refine ev_bmL ?_
  | with_reducible refine ev_bmL0 ?_
  | with_reducible refine st_ret ?_
  | with_reducible refine st_drop ?_
  | with_reducible refine st_next ?_
  | with_reducible refine st_setL ?_
  | with_reducible refine st_asgG ?_
  | with_reducible refine st_raise ?_
  | with_reducible refine gt_name ?_
  | with_reducible refine gt_tup2 ?_
  | with_reducible refine gt_tup3 ?_
  | walk_at "f")
local macro_rules | `(tactic| walk_at "r") => `(tactic| repeat walk_at "w")

def S_law_refusal : SpD := fun es m R _ => ∃ a t, es = [.r a] ∧ m a = some (.exc t) ∧ t ≠ .row ∧ R (.d (.str (tagS t))) m
def rd_law_refusal (G : Ctx) (W : WX) : TS :=
  tSeq (tIfS (tTest (tOp (rD2 G isF) (tVar 0) (tC .non))) (tRet (tC (.str (Str.ofString "ok")))) (tNext))
  (tSeq (tAsg (tLst (tCons (tCB (rIsE1 G (.ref (G.ex .counts)) (isEF .counts)) (tCons (tVar 0) (tCons (tC (.ref (G.ex .counts))) tNil))) (tCons (tCB (rIsE1 G (.ref (G.ex .game)) (isEF .game)) (tCons (tVar 0) (tCons (tC (.ref (G.ex .game))) tNil))) (tCons (tCB (rIsE1 G (.ref (G.ex .plan)) (isEF .plan)) (tCons (tVar 0) (tCons (tC (.ref (G.ex .plan))) tNil))) (tNil))))) (gName 1))
  (tSeq (tAsg (tOp (rD2 G addF) (tVar 1) (tLst (tCons (tCB (rIsE1 G (.ref (G.ex .question)) (isEF .question)) (tCons (tVar 0) (tCons (tC (.ref (G.ex .question))) tNil))) (tCons (tCB (rIsE1 G (.ref (G.ex .text)) (isEF .text)) (tCons (tVar 0) (tCons (tC (.ref (G.ex .text))) tNil))) (tCons (tCB (rIsE1 G (.ref (G.ex .liar)) (isEF .liar)) (tCons (tVar 0) (tCons (tC (.ref (G.ex .liar))) tNil))) (tNil)))))) (gName 1))
  (tSeq (tIfS (tOr (tTest (tOp (rD2 G neF) (tBM G.K "list" (rDM G countF) (tVar 1) (tCons (tC (.bl true)) (tNil))) (tC (.int 1)))) (tNot (tTru G.K (tCB (rIsE1 G (.ty "ValueError") isVF) (tCons (tVar 0) (tCons (tC (.ty "ValueError")) tNil)))))) (tRet (tC (.str (Str.ofString "wrong")))) (tNext))
  (tRet (tOp (rD2 G idxF) (tLst (tCons (tC (.str (Str.ofString "counts"))) (tCons (tC (.str (Str.ofString "game"))) (tCons (tC (.str (Str.ofString "plan"))) (tCons (tC (.str (Str.ofString "question"))) (tCons (tC (.str (Str.ofString "text"))) (tCons (tC (.str (Str.ofString "liar"))) (tNil)))))))) (tBM G.K "list" (rDM G indexF) (tVar 1) (tCons (tC (.bl true)) (tNil))))))))

theorem len_law_refusal : ∀ es m R XR, S_law_refusal es m R XR → es.length = 1 := by
  rintro es m R XR ⟨ns, k, rfl, _⟩
  rfl
theorem sh_bls {n : Nat} {bs : List Bool} : ∀ y ∈ bs.map D.bl, Sh n y := fun y hy => by
  obtain ⟨i, _, rfl⟩ := List.mem_map.mp hy
  exact sh_bl
theorem count_bls (bs : List Bool) : ((bs.map D.bl).countP fun y => eqD y (.bl true)) = bs.countP id := by
  rw [List.countP_map]
  congr 1
  funext b
  show eqD (.bl b) (.bl true) = b
  rw [eqD_bl]
  cases b <;> rfl
theorem find_bls (bs : List Bool) : ((bs.map D.bl).findIdx? fun y => eqD y (.bl true)) = bs.findIdx? id := by
  rw [List.findIdx?_map]
  congr 1
  funext b
  show eqD (.bl b) (.bl true) = b
  rw [eqD_bl]
  cases b <;> rfl
theorem sem_law_refusal (G : Ctx) : BodyD G 2 (rd_law_refusal G) S_law_refusal := by
  rintro W es m R XR ⟨a, t, rfl, ha, h2, h⟩
  unfold rd_law_refusal
  walk_at "r"
  refine ⟨t, ha, ?_⟩
  walk_at "r"
  refine ⟨t, ha, ?_⟩
  walk_at "r"
  refine ⟨t, ha, ?_⟩
  walk_at "r"
  refine ⟨t, ha, ?_⟩
  walk_at "r"
  refine ⟨t, ha, ?_⟩
  walk_at "r"
  refine ⟨t, ha, ?_⟩
  walk_at "r"
  refine ⟨by show 6 ≤ 100000; decide, ?_⟩
  walk_at "r"
  refine ⟨trivial, ?_⟩
  walk_at "r"
  refine ⟨.bl true, _, rfl, rfl, sh_bls (bs := [_, _, _, _, _, _]), sh_bl, ?_⟩
  have e1 := count_bls [decide (t = .counts), decide (t = .game), decide (t = .plan), decide (t = .question), decide (t = .text), decide (t = .liar)]
  have e2 : List.countP id [decide (t = .counts), decide (t = .game), decide (t = .plan), decide (t = .question), decide (t = .text), decide (t = .liar)] = 1 := by cases t <;> first | rfl | exact absurd rfl h2
  have e3 := e1.trans e2
  have e4 := find_bls [decide (t = .counts), decide (t = .game), decide (t = .plan), decide (t = .question), decide (t = .text), decide (t = .liar)]
  walk_at "r"
  refine i_nd (fun q => absurd (congrArg (fun n : Nat => (n : Int)) e3) q) (fun _ => ?_)
  walk_at "r"
  refine ⟨t, ha, ?_⟩
  walk_at "r"
  refine ⟨trivial, ?_⟩
  walk_at "r"
  have fin : ∀ j s, List.findIdx? id [decide (t = .counts), decide (t = .game), decide (t = .plan), decide (t = .question), decide (t = .text), decide (t = .liar)] = some j → [D.str (Str.ofString "counts"), D.str (Str.ofString "game"), D.str (Str.ofString "plan"), D.str (Str.ofString "question"), D.str (Str.ofString "text"), D.str (Str.ofString "liar")][j]? = some s → s = D.str (tagS t) := by
    intro j s hj hs
    cases t <;> first
      | exact absurd rfl h2
      | (cases hj; cases hs; rfl)
  have ex : ∃ j s, List.findIdx? id [decide (t = .counts), decide (t = .game), decide (t = .plan), decide (t = .question), decide (t = .text), decide (t = .liar)] = some j ∧ [D.str (Str.ofString "counts"), D.str (Str.ofString "game"), D.str (Str.ofString "plan"), D.str (Str.ofString "question"), D.str (Str.ofString "text"), D.str (Str.ofString "liar")][j]? = some s := by
    cases t <;> first
      | exact absurd rfl h2
      | exact ⟨_, _, rfl, rfl⟩
  obtain ⟨j, s, hj, hs⟩ := ex
  refine ⟨_, rfl, sh_bls (bs := [_, _, _, _, _, _]), sh_bl, j, e4.trans hj, s, atI_nat hs, ?_⟩
  rw [fin j s hj hs]
  exact h
end Lb

/-! SmV: whole numbers. -/
namespace Lb
open PySem L2
local macro_rules | `(tactic| walk_at "v") => `(tactic| ((with_reducible refine ev_var (d := ?dv) ?hv ?_); (case hv => exact rfl)))
local macro_rules | `(tactic| walk_at "f") => `(tactic| first
  | with_reducible refine f_in ?_
  | with_reducible refine f_notin ?_
  | with_reducible refine f_add_i ?_
  | with_reducible refine f_add_s ?_
  | with_reducible refine f_add_l ?_
  | with_reducible refine f_add_t ?_
  | with_reducible refine f_sub ?_
  | with_reducible refine f_mul_i ?_
  | with_reducible refine f_mul_l ?_
  | with_reducible refine f_mul_t ?_
  | with_reducible refine f_div ?_
  | with_reducible refine f_mod ?_
  | with_reducible refine f_pow ?_
  | with_reducible refine f_lt ?_
  | with_reducible refine f_le ?_
  | with_reducible refine f_gt ?_
  | with_reducible refine f_ge ?_
  | with_reducible refine f_eq_i ?_
  | with_reducible refine f_ne_i ?_
  | with_reducible refine f_eq_b ?_
  | with_reducible refine f_ne_b ?_
  | with_reducible refine f_is_n ?_
  | with_reducible refine f_isnot_n ?_
  | with_reducible refine f_is_i ?_
  | with_reducible refine f_isnot_i ?_
  | with_reducible refine f_is_b ?_
  | with_reducible refine f_isnot_b ?_
  | with_reducible refine f_is_s ?_
  | with_reducible refine f_isnot_s ?_
  | with_reducible refine f_is_l ?_
  | with_reducible refine f_isnot_l ?_
  | with_reducible refine f_is_t ?_
  | with_reducible refine f_isnot_t ?_
  | with_reducible refine f_is_r ?_
  | with_reducible refine f_isnot_r ?_
  | with_reducible refine f_is ?_
  | with_reducible refine f_isnot ?_
  | with_reducible refine f_neg ?_
  | with_reducible refine f_len_ml ?_
  | with_reducible refine f_len_mt ?_
  | with_reducible refine f_sum_l ?_
  | with_reducible refine f_sum_t ?_
  | with_reducible refine f_all ?_
  | with_reducible refine f_any ?_
  | with_reducible refine f_len_l ?_
  | with_reducible refine f_len_t ?_
  | with_reducible refine f_len_c ?_
  | with_reducible refine f_abs ?_
  | with_reducible refine f_min2 ?_
  | with_reducible refine f_max2 ?_
  | with_reducible refine f_list_l ?_
  | with_reducible refine f_list_t ?_
  | with_reducible refine f_tup_l ?_
  | with_reducible refine f_tup_t ?_
  | with_reducible refine f_int_i ?_
  | with_reducible refine f_int_b ?_
  | with_reducible refine f_sl_l ?_
  | with_reducible refine f_sl_t ?_
  | with_reducible refine f_tr_n ?_
  | with_reducible refine f_tr_b ?_
  | with_reducible refine f_tr_i ?_
  | with_reducible refine f_tr_l ?_
  | with_reducible refine f_tr_t ?_
  | with_reducible refine f_tr_c ?_)
local macro_rules | `(tactic| walk_at "w") => `(tactic| first
  | walk_at "v"
  | with_reducible refine ev_rev ?_
  | with_reducible refine ev_sset ?_
  | with_reducible refine ev_lcl ?_
  | with_reducible refine ev_lct ?_
  | with_reducible refine ev_lcs ?_
  | with_reducible refine ev_lc1 ?_
  | with_reducible refine ev_lc2 ?_
  | with_reducible refine st_forl ?_
  | with_reducible refine st_fort ?_
  | with_reducible refine st_fors ?_
  | with_reducible refine st_for1 ?_
  | with_reducible refine st_for2 ?_
  | with_reducible refine ex_bl ?_
  | with_reducible refine ex_in ?_
  | with_reducible refine ex_ls ?_
  | with_reducible refine ex_tu ?_
  | with_reducible refine ex_st ?_
  | with_reducible refine ex_d0 ?_
  | with_reducible refine ex_d1 ?_
  | with_reducible refine ex_d2 ?_
  | with_reducible refine ex_d3 ?_
  | with_reducible refine ex_d4 ?_
  | with_reducible refine ex_d5 ?_
  | with_reducible refine ex_d6 ?_
  | with_reducible refine ex_d7 ?_
  | with_reducible refine ex_d8 ?_
  | with_reducible refine m_and ?_
  | with_reducible refine i_t ?_
  | with_reducible refine i_f ?_
  | with_reducible refine i_nt ?_
  | with_reducible refine i_nf ?_
  | with_reducible refine ev_tup ?_
  | with_reducible refine ev_lst ?_
  | with_reducible refine ev_int ?_
  | with_reducible refine ea_cons ?_
  | with_reducible refine ea_nil ?_
  | with_reducible refine ev_op ?_
  | with_reducible refine st_seq ?_
  | with_reducible refine st_asg ?_
  | with_reducible refine ev_call ?_
  | with_reducible refine ev_cb ?_
  | with_reducible refine st_if ?_
  | with_reducible refine et_test ?_
  | with_reducible refine et_not ?_
  | with_reducible refine et_or ?_
  | with_reducible refine et_and ?_
  | with_reducible refine et_tru ?_
  | with_reducible refine et_yes ?_
  | with_reducible refine et_B ?_
  | with_reducible refine ev_chain ?_
  | with_reducible refine ev_chain3 ?_
  | with_reducible refine ev_un ?_
  | with_reducible refine ev_if ?_
  | with_reducible refine ev_bl ?_
  | with_reducible refine ev_non ?_
  | with_reducible refine ev_str ?_
  | with_reducible refine ev_andV ?_
  | with_reducible refine ev_orV ?_
  | with_reducible refine ev_notV ?_
  | with_reducible refine ev_isB ?_
  | with_reducible refine ev_isE ?_
  | with_reducible refine ev_sl2 ?_
  | with_reducible refine ev_slA ?_
  | with_reducible refine ev_slB ?_
  | with_reducible refine ev_bmL ?_
  | with_reducible refine ev_bmL0 ?_
  | with_reducible refine st_ret ?_
  | with_reducible refine st_drop ?_
  | with_reducible refine st_next ?_
  | with_reducible refine st_setL ?_
  | with_reducible refine st_asgG ?_
  | with_reducible refine st_raise ?_
  | with_reducible refine gt_name ?_
  | with_reducible refine gt_tup2 ?_
  | with_reducible refine gt_tup3 ?_
  | walk_at "f")
local macro_rules | `(tactic| walk_at "r") => `(tactic| repeat walk_at "w")

def S_law_whole : SpD := fun es m R _ => ∃ i : Int, es = [.d (.int i)] ∧ R (.d (.bl true)) m
def rd_law_whole (G : Ctx) (W : WX) : TS :=
  tRet (tAndV (tCB (rIsB G "int") (tCons (tVar 0) (tCons (tC (.ty "int")) tNil))) (tNotV (tCB (rIsB G "bool") (tCons (tVar 0) (tCons (tC (.ty "bool")) tNil)))))

theorem len_law_whole : ∀ es m R XR, S_law_whole es m R XR → es.length = 1 := by
  rintro es m R XR ⟨i, rfl, _⟩
  rfl
theorem sem_law_whole (G : Ctx) : BodyD G 1 (rd_law_whole G) S_law_whole := by
  rintro W es m R XR ⟨i, rfl, h⟩
  unfold rd_law_whole
  walk_at "r"
  refine ⟨"int", true, rfl, kit_ii, ?_⟩
  walk_at "r"
  refine ⟨"int", false, rfl, kit_ib, ?_⟩
  walk_at "r"
  exact h
end Lb

/-! SmWy: ways. -/
namespace Lb
open PySem L2
local macro_rules | `(tactic| walk_at "v") => `(tactic| ((with_reducible refine ev_var (d := ?dv) ?hv ?_); (case hv => exact rfl)))
local macro_rules | `(tactic| walk_at "f") => `(tactic| first
  | with_reducible refine f_in ?_
  | with_reducible refine f_notin ?_
  | with_reducible refine f_add_i ?_
  | with_reducible refine f_add_s ?_
  | with_reducible refine f_add_l ?_
  | with_reducible refine f_add_t ?_
  | with_reducible refine f_sub ?_
  | with_reducible refine f_mul_i ?_
  | with_reducible refine f_mul_l ?_
  | with_reducible refine f_mul_t ?_
  | with_reducible refine f_div ?_
  | with_reducible refine f_mod ?_
  | with_reducible refine f_pow ?_
  | with_reducible refine f_lt ?_
  | with_reducible refine f_le ?_
  | with_reducible refine f_gt ?_
  | with_reducible refine f_ge ?_
  | with_reducible refine f_eq_i ?_
  | with_reducible refine f_ne_i ?_
  | with_reducible refine f_eq_b ?_
  | with_reducible refine f_ne_b ?_
  | with_reducible refine f_is_n ?_
  | with_reducible refine f_isnot_n ?_
  | with_reducible refine f_is_i ?_
  | with_reducible refine f_isnot_i ?_
  | with_reducible refine f_is_b ?_
  | with_reducible refine f_isnot_b ?_
  | with_reducible refine f_is_s ?_
  | with_reducible refine f_isnot_s ?_
  | with_reducible refine f_is_l ?_
  | with_reducible refine f_isnot_l ?_
  | with_reducible refine f_is_t ?_
  | with_reducible refine f_isnot_t ?_
  | with_reducible refine f_is_r ?_
  | with_reducible refine f_isnot_r ?_
  | with_reducible refine f_is ?_
  | with_reducible refine f_isnot ?_
  | with_reducible refine f_neg ?_
  | with_reducible refine f_len_ml ?_
  | with_reducible refine f_len_mt ?_
  | with_reducible refine f_sum_l ?_
  | with_reducible refine f_sum_t ?_
  | with_reducible refine f_all ?_
  | with_reducible refine f_any ?_
  | with_reducible refine f_len_l ?_
  | with_reducible refine f_len_t ?_
  | with_reducible refine f_len_c ?_
  | with_reducible refine f_abs ?_
  | with_reducible refine f_min2 ?_
  | with_reducible refine f_max2 ?_
  | with_reducible refine f_list_l ?_
  | with_reducible refine f_list_t ?_
  | with_reducible refine f_tup_l ?_
  | with_reducible refine f_tup_t ?_
  | with_reducible refine f_int_i ?_
  | with_reducible refine f_int_b ?_
  | with_reducible refine f_sl_l ?_
  | with_reducible refine f_sl_t ?_
  | with_reducible refine f_tr_n ?_
  | with_reducible refine f_tr_b ?_
  | with_reducible refine f_tr_i ?_
  | with_reducible refine f_tr_l ?_
  | with_reducible refine f_tr_t ?_
  | with_reducible refine f_tr_c ?_)
local macro_rules | `(tactic| walk_at "w") => `(tactic| first
  | walk_at "v"
  | with_reducible refine ev_rev ?_
  | with_reducible refine ev_sset ?_
  | with_reducible refine ev_lcl ?_
  | with_reducible refine ev_lct ?_
  | with_reducible refine ev_lcs ?_
  | with_reducible refine ev_lc1 ?_
  | with_reducible refine ev_lc2 ?_
  | with_reducible refine st_forl ?_
  | with_reducible refine st_fort ?_
  | with_reducible refine st_fors ?_
  | with_reducible refine st_for1 ?_
  | with_reducible refine st_for2 ?_
  | with_reducible refine ex_bl ?_
  | with_reducible refine ex_in ?_
  | with_reducible refine ex_ls ?_
  | with_reducible refine ex_tu ?_
  | with_reducible refine ex_st ?_
  | with_reducible refine ex_d0 ?_
  | with_reducible refine ex_d1 ?_
  | with_reducible refine ex_d2 ?_
  | with_reducible refine ex_d3 ?_
  | with_reducible refine ex_d4 ?_
  | with_reducible refine ex_d5 ?_
  | with_reducible refine ex_d6 ?_
  | with_reducible refine ex_d7 ?_
  | with_reducible refine ex_d8 ?_
  | with_reducible refine m_and ?_
  | with_reducible refine i_t ?_
  | with_reducible refine i_f ?_
  | with_reducible refine i_nt ?_
  | with_reducible refine i_nf ?_
  | with_reducible refine ev_tup ?_
  | with_reducible refine ev_lst ?_
  | with_reducible refine ev_int ?_
  | with_reducible refine ea_cons ?_
  | with_reducible refine ea_nil ?_
  | with_reducible refine ev_op ?_
  | with_reducible refine st_seq ?_
  | with_reducible refine st_asg ?_
  | with_reducible refine ev_call ?_
  | with_reducible refine ev_cb ?_
  | with_reducible refine st_if ?_
  | with_reducible refine et_test ?_
  | with_reducible refine et_not ?_
  | with_reducible refine et_or ?_
  | with_reducible refine et_and ?_
  | with_reducible refine et_tru ?_
  | with_reducible refine et_yes ?_
  | with_reducible refine et_B ?_
  | with_reducible refine ev_chain ?_
  | with_reducible refine ev_chain3 ?_
  | with_reducible refine ev_un ?_
  | with_reducible refine ev_if ?_
  | with_reducible refine ev_bl ?_
  | with_reducible refine ev_non ?_
  | with_reducible refine ev_str ?_
  | with_reducible refine ev_andV ?_
  | with_reducible refine ev_orV ?_
  | with_reducible refine ev_notV ?_
  | with_reducible refine ev_isB ?_
  | with_reducible refine ev_isE ?_
  | with_reducible refine ev_sl2 ?_
  | with_reducible refine ev_slA ?_
  | with_reducible refine ev_slB ?_
  | with_reducible refine ev_bmL ?_
  | with_reducible refine ev_bmL0 ?_
  | with_reducible refine st_ret ?_
  | with_reducible refine st_drop ?_
  | with_reducible refine st_next ?_
  | with_reducible refine st_setL ?_
  | with_reducible refine st_asgG ?_
  | with_reducible refine st_raise ?_
  | with_reducible refine gt_name ?_
  | with_reducible refine gt_tup2 ?_
  | with_reducible refine gt_tup3 ?_
  | walk_at "f")
local macro_rules | `(tactic| walk_at "r") => `(tactic| repeat walk_at "w")

def S_law_ways : SpD := fun es m R _ => ∃ many most : Nat, es = [.d (.int many), .d (.int most)] ∧ many ≤ 1000 ∧ most ≤ 1000 ∧ R (.d (.int (cumN many most))) m
def rd_law_ways (G : Ctx) (W : WX) : TS :=
  tSeq (tAsg (tLst (tCons (tOp (rD2 G addF) (tLst (tCons (tC (.int 1)) (tNil))) (tOp (rD2 G mulF) (tLst (tCons (tC (.int 0)) (tNil))) (tVar 1))) (tNil))) (gName 2))
  (tSeq (tFor (iRng1 (tCons (tVar 0) (tNil))) (gName 3) (tSeq (tAsg (tOp (rD2 G idxF) (tVar 2) (tUn (rD1 G negF) (tC (.int 1)))) (gName 4))
  (tDrop (tBM G.K "list" (rDM G appendF) (tVar 2) (tCons (tLc (iRng1 (tCons (tOp (rD2 G addF) (tVar 1) (tC (.int 1))) (tNil))) (gName 5) (tYes) (tOp (rD2 G addF) (tOp (rD2 G idxF) (tVar 4) (tVar 5)) (tIf (tTest (tOp (rD2 G gtF) (tVar 5) (tC (.int 0)))) (tOp (rD2 G idxF) (tVar 4) (tOp (rD2 G subF) (tVar 5) (tC (.int 1)))) (tC (.int 0)))) [5]) (tNil))))))
  (tRet (tCB (rDn G sumF) (tCons (tOp (rD2 G idxF) (tVar 2) (tUn (rD1 G negF) (tC (.int 1)))) (tNil)))))

theorem len_law_ways : ∀ es m R XR, S_law_ways es m R XR → es.length = 2 := by
  rintro es m R XR ⟨i, j, rfl, _⟩
  rfl
theorem row_len (most : Nat) (m : Nat) : (rowN most m).length = most + 1 := by rw [row_eq]; simp
theorem sem_law_ways (G : Ctx) : BodyD G 6 (rd_law_ways G) S_law_ways := by
  rintro W es m R XR ⟨many, most, rfl, h1, h2, h⟩
  unfold rd_law_ways
  refine st_seq (st_asg (ev_lstO ?_))
  walk_at "r"
  refine ⟨by omega, by omega, by show 1 * _ ≤ _; omega, ?_⟩
  walk_at "r"
  rw [flatten_rep, Int.toNat_natCast]
  refine ⟨by rw [List.length_replicate]; show 1 + most ≤ _; omega, ?_⟩
  walk_at "r"
  intro a ha
  have e0 : D.lst ([D.int 1] ++ List.replicate most (D.int 0)) = dInts (rowN most 0) := by
    show _ = D.lst ((1 :: List.replicate most 0).map D.int)
    rw [List.map_cons, List.map_replicate]
    rfl
  rw [e0]
  walk_at "r"
  refine ⟨_, rfl, by omega, by omega, ?_⟩
  rw [Int.toNat_natCast]
  have last : ∀ i, ((List.range (i + 1)).map fun j => dInts (rowN most j)).getLast? = some (dInts (rowN most i)) := fun i => by
    rw [List.range_succ, List.map_append]
    simp
  refine forN (fun i ds' m' => mset m a (.lst ((List.range (i + 1)).map fun j => dInts (rowN most j))) = m' ∧ ∃ o3 o4 o5, ds' = [some (.d (.int many)), some (.d (.int most)), some (.r a), o3, o4, o5]) ⟨rfl, none, none, none, rfl⟩ ?_ ?_
  · rintro i ds' m' hi ⟨rfl, o3, o4, o5, rfl⟩
    walk_at "r"
    refine ⟨_, mset_same, _, atI_lst (last i), ?_⟩
    walk_at "r"
    refine ⟨⟨_, mset_same⟩, ?_⟩
    walk_at "r"
    refine ⟨_, rfl, by omega, by omega, ?_⟩
    rw [show ((most : Int) + 1).toNat = most + 1 by omega]
    refine lcM (List.range (most + 1)) (fun j => .d (.int (0 + (j : Nat)))) (fun j => .int ((rowN most i).getD j 0 + if 0 < j then (rowN most i).getD (j - 1) 0 else 0)) rfl (by rw [List.length_range]; omega) (fun j M hj hM => ⟨_, .name (by decide), ?_⟩) ?_
    · have hj := List.mem_range.mp hj
      walk_at "r"
      refine ⟨_, atI_is (by rw [row_len]; omega), ?_⟩
      walk_at "r"
      refine i_d (fun c => ?_) (fun c => ?_)
      · walk_at "r"
        refine ⟨.int ((rowN most i).getD (j - 1) 0), ?_, ?_⟩
        · rw [show 0 + (j : Int) - 1 = 0 + ((j - 1 : Nat) : Int) by omega]
          exact atI_is (by rw [row_len]; omega)
        walk_at "r"
        rw [if_pos (by omega)]
      · walk_at "r"
        rw [if_neg (by omega)]
    · walk_at "r"
      refine ⟨_, mset_same, by rw [List.length_map, List.length_range]; omega, ?_, _, _, _, rfl⟩
      rw [mset_mset, List.range_succ (n := i + 1), List.map_append]
      have e5 : dInts (rowN most (i + 1)) = D.lst (List.map (fun j => D.int ((rowN most i).getD j 0 + if 0 < j then (rowN most i).getD (j - 1) 0 else 0)) (List.range (most + 1))) := by
        rw [rowN, dInts, List.map_map]
        rfl
      rw [← e5]
      rfl
  · rintro ds' m' ⟨rfl, o3, o4, o5, rfl⟩
    refine st_frz 2 rfl mset_same ?_
    walk_at "r"
    refine ⟨_, atI_lst (last many), ?_⟩
    walk_at "r"
    rw [mdel_mset ha, row_eq, row_sum]
    exact h
end Lb

/-! Sm60c: the law's own. -/
namespace Lb
open PySem L2
local macro_rules | `(tactic| walk_at "v") => `(tactic| ((with_reducible refine ev_var (d := ?dv) ?hv ?_); (case hv => exact rfl)))
local macro_rules | `(tactic| walk_at "f") => `(tactic| first
  | with_reducible refine f_in ?_
  | with_reducible refine f_notin ?_
  | with_reducible refine f_add_i ?_
  | with_reducible refine f_add_s ?_
  | with_reducible refine f_add_l ?_
  | with_reducible refine f_add_t ?_
  | with_reducible refine f_sub ?_
  | with_reducible refine f_mul_i ?_
  | with_reducible refine f_mul_l ?_
  | with_reducible refine f_mul_t ?_
  | with_reducible refine f_div ?_
  | with_reducible refine f_mod ?_
  | with_reducible refine f_pow ?_
  | with_reducible refine f_lt ?_
  | with_reducible refine f_le ?_
  | with_reducible refine f_gt ?_
  | with_reducible refine f_ge ?_
  | with_reducible refine f_eq_i ?_
  | with_reducible refine f_ne_i ?_
  | with_reducible refine f_eq_b ?_
  | with_reducible refine f_ne_b ?_
  | with_reducible refine f_is_n ?_
  | with_reducible refine f_isnot_n ?_
  | with_reducible refine f_is_i ?_
  | with_reducible refine f_isnot_i ?_
  | with_reducible refine f_is_b ?_
  | with_reducible refine f_isnot_b ?_
  | with_reducible refine f_is_s ?_
  | with_reducible refine f_isnot_s ?_
  | with_reducible refine f_is_l ?_
  | with_reducible refine f_isnot_l ?_
  | with_reducible refine f_is_t ?_
  | with_reducible refine f_isnot_t ?_
  | with_reducible refine f_is_r ?_
  | with_reducible refine f_isnot_r ?_
  | with_reducible refine f_is ?_
  | with_reducible refine f_isnot ?_
  | with_reducible refine f_neg ?_
  | with_reducible refine f_len_ml ?_
  | with_reducible refine f_len_mt ?_
  | with_reducible refine f_sum_l ?_
  | with_reducible refine f_sum_t ?_
  | with_reducible refine f_all ?_
  | with_reducible refine f_any ?_
  | with_reducible refine f_len_l ?_
  | with_reducible refine f_len_t ?_
  | with_reducible refine f_len_c ?_
  | with_reducible refine f_abs ?_
  | with_reducible refine f_min2 ?_
  | with_reducible refine f_max2 ?_
  | with_reducible refine f_list_l ?_
  | with_reducible refine f_list_t ?_
  | with_reducible refine f_tup_l ?_
  | with_reducible refine f_tup_t ?_
  | with_reducible refine f_int_i ?_
  | with_reducible refine f_int_b ?_
  | with_reducible refine f_sl_l ?_
  | with_reducible refine f_sl_t ?_
  | with_reducible refine f_tr_n ?_
  | with_reducible refine f_tr_b ?_
  | with_reducible refine f_tr_i ?_
  | with_reducible refine f_tr_l ?_
  | with_reducible refine f_tr_t ?_
  | with_reducible refine f_tr_c ?_)
local macro_rules | `(tactic| walk_at "w") => `(tactic| first
  | walk_at "v"
  | with_reducible refine ev_rev ?_
  | with_reducible refine ev_sset ?_
  | with_reducible refine ev_lcl ?_
  | with_reducible refine ev_lct ?_
  | with_reducible refine ev_lcs ?_
  | with_reducible refine ev_lc1 ?_
  | with_reducible refine ev_lc2 ?_
  | with_reducible refine st_forl ?_
  | with_reducible refine st_fort ?_
  | with_reducible refine st_fors ?_
  | with_reducible refine st_for1 ?_
  | with_reducible refine st_for2 ?_
  | with_reducible refine ex_bl ?_
  | with_reducible refine ex_in ?_
  | with_reducible refine ex_ls ?_
  | with_reducible refine ex_tu ?_
  | with_reducible refine ex_st ?_
  | with_reducible refine ex_d0 ?_
  | with_reducible refine ex_d1 ?_
  | with_reducible refine ex_d2 ?_
  | with_reducible refine ex_d3 ?_
  | with_reducible refine ex_d4 ?_
  | with_reducible refine ex_d5 ?_
  | with_reducible refine ex_d6 ?_
  | with_reducible refine ex_d7 ?_
  | with_reducible refine ex_d8 ?_
  | with_reducible refine m_and ?_
  | with_reducible refine i_t ?_
  | with_reducible refine i_f ?_
  | with_reducible refine i_nt ?_
  | with_reducible refine i_nf ?_
  | with_reducible refine ev_tup ?_
  | with_reducible refine ev_lst ?_
  | with_reducible refine ev_int ?_
  | with_reducible refine ea_cons ?_
  | with_reducible refine ea_nil ?_
  | with_reducible refine ev_op ?_
  | with_reducible refine st_seq ?_
  | with_reducible refine st_asg ?_
  | with_reducible refine ev_call ?_
  | with_reducible refine ev_cb ?_
  | with_reducible refine st_if ?_
  | with_reducible refine et_test ?_
  | with_reducible refine et_not ?_
  | with_reducible refine et_or ?_
  | with_reducible refine et_and ?_
  | with_reducible refine et_tru ?_
  | with_reducible refine et_yes ?_
  | with_reducible refine et_B ?_
  | with_reducible refine ev_chain ?_
  | with_reducible refine ev_chain3 ?_
  | with_reducible refine ev_un ?_
  | with_reducible refine ev_if ?_
  | with_reducible refine ev_bl ?_
  | with_reducible refine ev_non ?_
  | with_reducible refine ev_str ?_
  | with_reducible refine ev_andV ?_
  | with_reducible refine ev_orV ?_
  | with_reducible refine ev_notV ?_
  | with_reducible refine ev_isB ?_
  | with_reducible refine ev_isE ?_
  | with_reducible refine ev_sl2 ?_
  | with_reducible refine ev_slA ?_
  | with_reducible refine ev_slB ?_
  | with_reducible refine ev_bmL ?_
  | with_reducible refine ev_bmL0 ?_
  | with_reducible refine st_ret ?_
  | with_reducible refine st_drop ?_
  | with_reducible refine st_next ?_
  | with_reducible refine st_setL ?_
  | with_reducible refine st_asgG ?_
  | with_reducible refine st_raise ?_
  | with_reducible refine gt_name ?_
  | with_reducible refine gt_tup2 ?_
  | with_reducible refine gt_tup3 ?_
  | walk_at "f")
local macro_rules | `(tactic| walk_at "r") => `(tactic| repeat walk_at "w")

def S_law_questions : SpD := fun es m R _ => ∃ (ns : List Int) (n : Nat), es = [.scr ns, .d (.int n)] ∧ n ≤ 60 ∧ ∀ qs : List (List Int), qs.length ≤ 7 → (∀ q ∈ qs, QOk n q ∧ q.length ≤ n) → R (.d (dQs qs)) m
def rd_law_questions (G : Ctx) (W : WX) : TS :=
  tSeq (tAsg (tLst (tNil)) (gName 2))
  (tSeq (tFor (iRng1 (tCons (tOp (rD2 G modF) (tCallS (spL G S_law_mix) (WE W) (tCons (tVar 0) (tCons (tC (.int 2)) (tNil)))) (tC (.int 8))) (tNil))) (gName 3) (tSeq (tAsg (tCallS (spL G S_law_question) (WE W) (tCons (tVar 0) (tCons (tOp (rD2 G addF) (tC (.int 10)) (tOp (rD2 G mulF) (tC (.int 8)) (tVar 3))) (tCons (tVar 1) (tNil))))) (gName 4))
  (tSeq (tIfS (tAnd (tTru G.K (tVar 2)) (tTest (tOp (rD2 G eqF) (tOp (rD2 G modF) (tCallS (spL G S_law_mix) (WE W) (tCons (tVar 0) (tCons (tOp (rD2 G addF) (tC (.int 3)) (tVar 3)) (tNil)))) (tC (.int 4))) (tC (.int 0))))) (tAsg (tLc (iRng1 (tCons (tVar 1) (tNil))) (gName 5) (tTest (tOp (rD2 G notinF) (tVar 5) (tOp (rD2 G idxF) (tVar 2) (tUn (rD1 G negF) (tC (.int 1)))))) (tVar 5) [5]) (gName 4)) (tNext))
  (tDrop (tBM G.K "list" (rDM G appendF) (tVar 2) (tCons (tVar 4) (tNil)))))))
  (tRet (tVar 2)))

theorem len_law_questions : ∀ es m R XR, S_law_questions es m R XR → es.length = 2 := by
  rintro es m R XR ⟨a, b, rfl, _⟩
  rfl
theorem sem_law_questions (G : Ctx) : BodyD G 6 (rd_law_questions G) S_law_questions := by
  rintro W es m R XR ⟨ns, n, rfl, hn, h⟩
  unfold rd_law_questions
  refine st_seq (st_asg (ev_lstO ?_))
  walk_at "r"
  intro a ha
  walk_at "r"
  refine ⟨ns, 2, rfl, by decide, by decide, ?_⟩
  walk_at "r"
  refine ⟨by decide, ?_⟩
  have m0 := mixN_nn ns 2
  have m1 : mixN ns 2 % 8 < 8 := Int.emod_lt_of_pos _ (by decide)
  have m2 : 0 ≤ mixN ns 2 % 8 := Int.emod_nonneg _ (by decide)
  walk_at "r"
  refine ⟨_, rfl, by omega, by omega, ?_⟩
  refine forN (fun i ds' m' => ∃ qs : List (List Int), qs.length = i ∧ (∀ q ∈ qs, QOk n q ∧ q.length ≤ n) ∧ mset m a (.lst (qs.map dInts)) = m' ∧ ∃ o3 o4 o5, ds' = [some (.scr ns), some (.d (.int n)), some (.r a), o3, o4, o5]) ⟨[], rfl, fun _ z => (nomatch z), rfl, none, none, none, rfl⟩ ?_ ?_
  · rintro i ds' m' hi ⟨qs, hl, hq, rfl, o3, o4, o5, rfl⟩
    have hi : i < 8 := by omega
    have put : ∀ q : List Int, QOk n q ∧ q.length ≤ n → ∀ q' ∈ qs ++ [q], QOk n q' ∧ q'.length ≤ n := fun q h1 q' h2 => by
      rcases List.mem_append.mp h2 with z | z
      · exact hq q' z
      · rw [List.mem_singleton.mp z]; exact h1
    have vq : vw (mset m a (.lst (qs.map dInts))) (.r a) = some (.lst (qs.map dInts)) := by
      show moL _ = _
      rw [mset_same]
      rfl
    walk_at "r"
    refine ⟨.inl ⟨by decide, by decide⟩, ?_⟩
    walk_at "r"
    refine ⟨ns, _, n, rfl, by omega, by omega, by omega, fun q q1 q2 => ?_⟩
    walk_at "r"
    refine v_tru vq ?_
    cases eq : qs.getLast? with
    | none =>
      have e0 : qs = [] := List.getLast?_eq_none_iff.mp eq
      subst e0
      refine i_f ?_
      walk_at "r"
      refine ⟨⟨_, mset_same⟩, ?_⟩
      walk_at "r"
      refine ⟨_, mset_same, by show 0 < 100000; decide, [q], by rw [← hl]; rfl, put q ⟨q1, q2⟩, ?_, _, _, _, rfl⟩
      rw [mset_mset]
      rfl
    | some last =>
      have ne : (!(qs.map dInts).isEmpty) = true := by
        cases qs with
        | nil => cases eq
        | cons _ _ => rfl
      rw [ne]
      walk_at "r"
      refine ⟨ns, _, rfl, by omega, by omega, ?_⟩
      walk_at "r"
      refine ⟨by decide, ?_⟩
      walk_at "r"
      refine i_d (fun w => ?_) (fun w => ?_)
      · walk_at "r"
        refine ⟨_, rfl, by omega, by omega, ?_⟩
        rw [Int.toNat_natCast]
        refine lcF (List.range n) (fun t => .d (.int (0 + (t : Nat)))) (fun t => !decide (((t : Nat) : Int) ∈ last)) (fun t => .int ((t : Nat) : Int)) rfl (by rw [List.length_range]; omega) (fun t M ht hM => ⟨_, .name (by decide), ?_, fun _ => ?_⟩) ?_
        · walk_at "r"
          have vM : vw M (.r a) = some (.lst (qs.map dInts)) := by
            show moL (M a) = _
            rw [hM a _ mset_same]
            rfl
          refine v_idx vM (atI_lst (by rw [List.getLast?_map, eq]; rfl)) ?_
          refine ⟨sh_int, sh_ints, ?_⟩
          rw [any_int, Int.zero_add]
          walk_at "r"
          exact rfl
        · walk_at "r"
          rw [Int.zero_add]
        · walk_at "r"
          refine ⟨⟨_, mset_same⟩, ?_⟩
          walk_at "r"
          have qf := q_filter n fun t => !decide (((t : Nat) : Int) ∈ last)
          refine ⟨_, mset_same, by rw [List.length_map]; omega, qs ++ [_], by rw [List.length_append, hl]; rfl, put _ qf, ?_, _, _, _, rfl⟩
          rw [mset_mset, List.map_append]
          simp only [List.map_cons, List.map_nil, dInts, List.map_map]
          rfl
      · walk_at "r"
        refine ⟨⟨_, mset_same⟩, ?_⟩
        walk_at "r"
        refine ⟨_, mset_same, by rw [List.length_map]; omega, qs ++ [q], by rw [List.length_append, hl]; rfl, put q ⟨q1, q2⟩, ?_, _, _, _, rfl⟩
        rw [mset_mset, List.map_append]
        rfl
  · rintro ds' m' ⟨qs, hl, hq, rfl, o3, o4, o5, rfl⟩
    refine st_frz 2 rfl mset_same ?_
    walk_at "r"
    rw [mdel_mset ha]
    exact h qs (by omega) hq

/-- what is told -/
def tagD (t : Tag) : D := .str (tagS t)
def ToldOk (way n l : Int) (qs : List (List Int)) (t : Int) (bs : List Bool) : Prop := (qs.length ≤ 40 ∧ ∀ q ∈ qs, QOk n q) ∧ (way = 3 ∨ qs.length ≤ 12) ∧ (way = 2 → 0 ≤ t ∧ t < n) ∧ (way = 3 → bs.length = qs.length)
def S_law_told : SpD := fun es m R _ => ∃ (way n l : Int) (qs : List (List Int)) (x : DV) (t : Int) (bs : List Bool), es = [.d (.int way), .d (.int n), .d (.int l), .d (dQs qs), x] ∧ (∀ q ∈ qs, q.length < 64) ∧ bs.length ≤ 1000 ∧ 0 ≤ way ∧ way ≤ 3 ∧ (way = 2 → x = .d (.int t)) ∧ (way = 3 → x = .d (dBls bs)) ∧
  (¬ GameOk n l → R (.d (tagD .game)) m) ∧ (GameOk n l → ¬ ToldOk way n l qs t bs → R (.d (tagD .question)) m) ∧
  (GameOk n l → ToldOk way n l qs t bs → way = 0 → R (.d (dNats (spreadN (manyN n.toNat l qs)))) m) ∧
  (GameOk n l → ToldOk way n l qs t bs → way = 1 → R (.d (.bl (fullN n.toNat l qs))) m) ∧
  (GameOk n l → ToldOk way n l qs t bs → way = 2 → R (.d (dRows ((rowsN qs.length).filter fun r => decide ((liedN qs r t : Int) ≤ l)))) m) ∧
  (GameOk n l → ToldOk way n l qs t bs → way = 3 → ∀ ts d, Near (fun t => liedN qs bs (t : Nat)) n.toNat ts d → R (.d (.tup [dNats ts, .int (d : Nat)])) m)
def rd_law_told (G : Ctx) (W : WX) : TS :=
  tSeq (tAsg (tC .non) (gName 5))
  (tSeq (tAsg (tC .non) (gName 6))
  (tSeq (tTryK G.K (.ref G.le) 7 5 (fun W1 => tIfS (tTest (tOp (rD2 G eqF) (tVar 0) (tC (.int 0)))) (tAsg (tCallS (spL G S_spread) (WE W1) (tCons (tVar 1) (tCons (tVar 2) (tCons (tVar 3) (tNil))))) (gName 6)) (tIfS (tTest (tOp (rD2 G eqF) (tVar 0) (tC (.int 1)))) (tAsg (tCallS (spL G S_is_full) (WE W1) (tCons (tVar 1) (tCons (tVar 2) (tCons (tVar 3) (tNil))))) (gName 6)) (tIfS (tTest (tOp (rD2 G eqF) (tVar 0) (tC (.int 2)))) (tAsg (tCallS (spL G S_rows_of) (WE W1) (tCons (tVar 1) (tCons (tVar 2) (tCons (tVar 3) (tCons (tVar 4) (tNil)))))) (gName 6)) (tAsg (tCallS (spL G S_nearest_things) (WE W1) (tCons (tVar 1) (tCons (tVar 2) (tCons (tVar 3) (tCons (tVar 4) (tNil)))))) (gName 6))))))
  (tRet (tIf (tTest (tOp (rD2 G isF) (tVar 5) (tC .non))) (tVar 6) (tCallS (spL G S_law_refusal) (WE W) (tCons (tVar 5) (tNil)))))))

theorem len_law_told : ∀ es m R XR, S_law_told es m R XR → es.length = 5 := by
  rintro es m R XR ⟨a, b, c, d, e, f, g, rfl, _⟩
  rfl
theorem sem_law_told (G : Ctx) (hx : XAll G) : BodyD G 8 (rd_law_told G) S_law_told := by
  rintro W es m R XR ⟨way, n, l, qs, x, t, bs, rfl, hq, hb, w0, w3, x2, x3, h1, h2, h3, h4, h5, h6⟩
  unfold rd_law_told
  walk_at "r"
  refine st_tryK (by show 7 < 8; decide) (by decide) hx fun W' => ?_
  walk_at "r"
  have ref : ∀ t, t ≠ .row → R (.d (tagD t)) m → ∀ a, m a = none → StD G W (tRet (tIf (tTest (tOp (rD2 G isF) (tVar 5) (tC V.non))) (tVar 6) (tCallS (spL G S_law_refusal) (WE W) (tCons (tVar 5) tNil)))) [some (.d (.int way)), some (.d (.int n)), some (.d (.int l)), some (.d (dQs qs)), some x, some (.r a), some (.d .non), none] (mset m a (.exc t)) { nx := fun x m' => R (.d .non) m', rt := R } (fun t _ m' => XR t m') := by
    intro t t2 hR a ha
    refine st_ret (ev_drop ?_)
    walk_at "r"
    exact ⟨a, t, rfl, mset_same, t2, m, sub_mset ha, hR⟩
  refine i_d (fun c => ?_) (fun c => ?_)
  · subst c
    walk_at "r"
    refine ⟨n, l, qs, rfl, hq, fun g => ⟨rfl, ref .game (by decide) (h1 g)⟩, fun g g2 => ⟨rfl, ref .question (by decide) (h2 g fun z => g2 ⟨by have := z.2.1; omega, z.1.2⟩)⟩, fun g a b => ?_⟩
    walk_at "r"
    exact h3 g ⟨⟨by omega, b⟩, .inr a, fun z => absurd z (by decide), fun z => absurd z (by decide)⟩ rfl
  · walk_at "r"
    refine i_d (fun c2 => ?_) (fun c2 => ?_)
    · subst c2
      walk_at "r"
      refine ⟨n, l, qs, rfl, hq, fun g => ⟨rfl, ref .game (by decide) (h1 g)⟩, fun g g2 => ⟨rfl, ref .question (by decide) (h2 g fun z => g2 ⟨by have := z.2.1; omega, z.1.2⟩)⟩, fun g a b => ?_⟩
      walk_at "r"
      exact h4 g ⟨⟨by omega, b⟩, .inr a, fun z => absurd z (by decide), fun z => absurd z (by decide)⟩ rfl
    · walk_at "r"
      refine i_d (fun c3 => ?_) (fun c3 => ?_)
      · subst c3
        cases x2 rfl
        walk_at "r"
        refine ⟨n, l, qs, t, rfl, hq, fun g => ⟨rfl, ref .game (by decide) (h1 g)⟩, fun g g2 => ⟨rfl, ref .question (by decide) (h2 g fun z => g2 ⟨⟨by have := z.2.1; omega, z.1.2⟩, z.2.2.1 rfl⟩)⟩, fun g a b e1 e2 => ?_⟩
        walk_at "r"
        exact h5 g ⟨⟨by omega, b⟩, .inr a, fun _ => ⟨e1, e2⟩, fun z => absurd z (by decide)⟩ rfl
      · have c4 : way = 3 := by omega
        subst c4
        cases x3 rfl
        walk_at "r"
        refine ⟨n, l, qs, bs, rfl, hq, hb, fun g => ⟨rfl, ref .game (by decide) (h1 g)⟩, fun g g2 => ⟨rfl, ref .question (by decide) (h2 g fun z => g2 ⟨z.1, z.2.2.2 rfl⟩)⟩, fun g a b e1 ts d hN => ?_⟩
        walk_at "r"
        exact h6 g ⟨⟨a, b⟩, .inl rfl, fun z => absurd z (by decide), fun _ => e1⟩ rfl ts d hN
/-- told: a refusal -/
theorem told_game {way n l : Int} {qs : List (List Int)} {x : DV} {t : Int} {bs : List Bool} {m : Mu} {R : DV → Mu → Prop} {XR : Tag → Mu → Prop} (hq : ∀ q ∈ qs, q.length < 64) (hb : bs.length ≤ 1000) (w0 : 0 ≤ way) (w3 : way ≤ 3) (x2 : way = 2 → x = .d (.int t)) (x3 : way = 3 → x = .d (dBls bs)) (g : ¬ GameOk n l) (h : R (.d (tagD .game)) m) : S_law_told [.d (.int way), .d (.int n), .d (.int l), .d (dQs qs), x] m R XR :=
  ⟨way, n, l, qs, x, t, bs, rfl, hq, hb, w0, w3, x2, x3, fun _ => h, fun a => absurd a g, fun a => absurd a g, fun a => absurd a g, fun a => absurd a g, fun a => absurd a g⟩
theorem told_quest {way n l : Int} {qs : List (List Int)} {x : DV} {t : Int} {bs : List Bool} {m : Mu} {R : DV → Mu → Prop} {XR : Tag → Mu → Prop} (hq : ∀ q ∈ qs, q.length < 64) (hb : bs.length ≤ 1000) (w0 : 0 ≤ way) (w3 : way ≤ 3) (x2 : way = 2 → x = .d (.int t)) (x3 : way = 3 → x = .d (dBls bs)) (g : GameOk n l) (b : ¬ ToldOk way n l qs t bs) (h : R (.d (tagD .question)) m) : S_law_told [.d (.int way), .d (.int n), .d (.int l), .d (dQs qs), x] m R XR :=
  ⟨way, n, l, qs, x, t, bs, rfl, hq, hb, w0, w3, x2, x3, fun a => absurd g a, fun _ _ => h, fun _ z => absurd z b, fun _ z => absurd z b, fun _ z => absurd z b, fun _ z => absurd z b⟩
def S_law_rows : SpD := fun es m R _ => ∃ n : Nat, es = [.d (.int n)] ∧ n ≤ 12 ∧ R (.d (dRows (rowsN n))) m
def rd_law_rows (G : Ctx) (W : WX) : TS :=
  tSeq (tAsg (tLst (tCons (tLst (tNil)) (tNil))) (gName 1))
  (tSeq (tFor (iRng1 (tCons (tVar 0) (tNil))) (gName 2) (tSeq (tAsg (tLst (tNil)) (gName 3))
  (tSeq (tFor (iList G.K (tVar 1)) (gName 4) (tAsg (tOp (rD2 G addF) (tVar 3) (tLst (tCons (tOp (rD2 G addF) (tVar 4) (tLst (tCons (tC (.bl false)) (tNil)))) (tCons (tOp (rD2 G addF) (tVar 4) (tLst (tCons (tC (.bl true)) (tNil)))) (tNil))))) (gName 3)))
  (tAsg (tVar 3) (gName 1)))))
  (tRet (tVar 1)))

theorem len_law_rows : ∀ es m R XR, S_law_rows es m R XR → es.length = 1 := by
  rintro es m R XR ⟨a, rfl, _⟩
  rfl
theorem sem_law_rows (G : Ctx) : BodyD G 5 (rd_law_rows G) S_law_rows := by
  rintro W es m R XR ⟨n, rfl, hn, h⟩
  unfold rd_law_rows
  walk_at "r"
  refine ⟨_, rfl, by omega, by omega, ?_⟩
  rw [Int.toNat_natCast]
  refine forN (fun i ds' m' => m = m' ∧ ∃ o2 o3 o4, ds' = [some (.d (.int n)), some (.d (dRows (rowsN i))), o2, o3, o4]) ⟨rfl, none, none, none, rfl⟩ ?_ ?_
  · rintro i ds' m' hi ⟨rfl, o2, o3, o4, rfl⟩
    have hp := pow_rows hi hn
    have hl := rows_len i
    walk_at "r"
    refine forL (rowsN i) (fun r => .d (dBls r)) (fun pre ds' m' => m = m' ∧ ∃ o4, ds' = [some (.d (.int n)), some (.d (dRows (rowsN i))), some (.d (.int (0 + (i : Nat)))), some (.d (dRows (pre.flatMap twoR))), o4]) (by rw [List.map_map]; rfl) ⟨rfl, o4, rfl⟩ ?_ ?_
    · rintro pre r post ds' m' e ⟨rfl, o4, rfl⟩
      have hr : r.length = i := rows_mem _ _ (by rw [e]; simp)
      have hpl : pre.length ≤ 2048 := by
        have := congrArg List.length e
        simp at this
        omega
      walk_at "r"
      refine ⟨by rw [List.length_map]; show r.length + 1 ≤ _; omega, ?_⟩
      walk_at "r"
      refine ⟨by rw [List.length_map]; show r.length + 1 ≤ _; omega, ?_⟩
      walk_at "r"
      refine ⟨by rw [List.length_map, two_len]; show 2 * pre.length + 2 ≤ _; omega, ?_⟩
      refine ⟨rfl, some (.d (dBls r)), ?_⟩
      show _ = [_, _, _, some (DV.d (D.lst (List.map dBls (List.flatMap twoR (pre ++ [r]))))), _]
      rw [List.flatMap_append, List.map_append]
      simp only [List.flatMap_cons, List.flatMap_nil, List.append_nil, twoR, List.map_cons, List.map_nil, dBls, List.map_append]
      rfl
    · rintro ds' m' ⟨rfl, o4, rfl⟩
      walk_at "r"
      exact ⟨_, _, _, rfl⟩
  · rintro ds' m' ⟨rfl, o2, o3, o4, rfl⟩
    walk_at "r"
    exact h
def sevenS : List Str := [tagS .question, tagS .question, tagS .question, tagS .question, tagS .question, tagS .question, tagS .game]
def S_law_refused : SpD := fun es m R _ => ∃ (n : Nat) (l : Int) (qs : List (List Int)) (bs : List Bool), es = [.d (.int n), .d (.int l), .d (dQs qs), .d (dBls bs)] ∧ GameOk n l ∧ (∀ q ∈ qs, q.length < 64) ∧ qs.length ≤ 12 ∧ bs.length = qs.length ∧ R (.d (.lst (sevenS.map D.str))) m
def rd_law_refused (G : Ctx) (W : WX) : TS :=
  tSeq (tAsg (tLc (iTup G.K (tTup (tCons (tUn (rD1 G negF) (tC (.int 1))) (tCons (tVar 0) (tNil))))) (gName 5) (tYes) (tCallS (spL G S_law_told) (WE WF) (tCons (tC (.int 2)) (tCons (tVar 0) (tCons (tVar 1) (tCons (tVar 2) (tCons (tVar 5) (tNil))))))) [5]) (gName 4))
  (tSeq (tAsg (tOp (rD2 G addF) (tVar 4) (tLc (iRng1 (tCons (tC (.int 3)) (tNil))) (gName 6) (tYes) (tCallS (spL G S_law_told) (WE WF) (tCons (tVar 6) (tCons (tVar 0) (tCons (tVar 1) (tCons (tOp (rD2 G mulF) (tLst (tCons (tLst (tCons (tC (.int 0)) (tNil))) (tNil))) (tC (.int 13))) (tCons (tC (.int 0)) (tNil))))))) [6])) (gName 4))
  (tRet (tOp (rD2 G addF) (tVar 4) (tLst (tCons (tCallS (spL G S_law_told) (WE W) (tCons (tC (.int 3)) (tCons (tVar 0) (tCons (tVar 1) (tCons (tVar 2) (tCons (tOp (rD2 G addF) (tVar 3) (tLst (tCons (tC (.bl true)) (tNil)))) (tNil))))))) (tCons (tCallS (spL G S_law_told) (WE W) (tCons (tC (.int 0)) (tCons (tC (.int 0)) (tCons (tVar 1) (tCons (tLst (tCons (tLst (tCons (tC (.int 9)) (tNil))) (tNil))) (tCons (tC (.int 0)) (tNil))))))) (tNil)))))))

theorem len_law_refused : ∀ es m R XR, S_law_refused es m R XR → es.length = 4 := by
  rintro es m R XR ⟨a, b, c, d, rfl, _⟩
  rfl
theorem sem_law_refused (G : Ctx) : BodyD G 7 (rd_law_refused G) S_law_refused := by
  rintro W es m R XR ⟨n, l, qs, bs, rfl, g, hq, hl, hb, h⟩
  unfold rd_law_refused
  walk_at "r"
  refine lcM [(-1 : Int), n] (fun t => .d (.int t)) (fun _ => .str (tagS .question)) rfl (by show 2 ≤ 50000; decide) (fun t M ht hM => ⟨_, .name (by decide), ?_⟩) ?_
  · walk_at "r"
    refine told_quest (t := t) (bs := []) hq (by decide) (by decide) (by decide) (fun _ => rfl) (fun z => absurd z (by decide)) g (fun z => ?_) ⟨rfl, rfl⟩
    have z2 := z.2.2.1 rfl
    simp at ht
    omega
  walk_at "r"
  refine ⟨3, rfl, by decide, by decide, ?_⟩
  refine lcM (List.range 3) (fun t => .d (.int (0 + (t : Nat)))) (fun _ => .str (tagS .question)) rfl (by decide) (fun t M ht hM => ⟨_, .name (by decide), ?_⟩) ?_
  · have ht := List.mem_range.mp ht
    walk_at "r"
    refine ⟨by decide, by decide, by decide, ?_⟩
    walk_at "r"
    refine told_quest (qs := List.replicate 13 [0]) (t := 0) (bs := []) (fun q hq2 => by rw [(List.mem_replicate.mp hq2).2]; show 1 < 64; decide) (by decide) (by omega) (by omega) (fun _ => rfl) (fun z => absurd z (by omega)) g (fun z => ?_) ⟨rfl, rfl⟩
    have z2 := z.2.1
    rw [List.length_replicate] at z2
    omega
  walk_at "r"
  refine ⟨by show 2 + 3 ≤ 100000; decide, ?_⟩
  walk_at "r"
  refine ⟨by rw [List.length_map]; show bs.length + 1 ≤ _; omega, ?_⟩
  walk_at "r"
  have eb : D.lst (bs.map D.bl ++ [D.bl true]) = dBls (bs ++ [true]) := by rw [dBls, List.map_append]; rfl
  rw [eb]
  refine told_quest (t := 0) (bs := bs ++ [true]) hq (by rw [List.length_append]; show bs.length + 1 ≤ _; omega) (by decide) (by decide) (fun z => absurd z (by decide)) (fun _ => rfl) g (fun z => ?_) ?_
  · have z2 := z.2.2.2 rfl
    rw [List.length_append] at z2
    have : bs.length + 1 = qs.length := z2
    omega
  walk_at "r"
  refine told_game (qs := [[9]]) (t := 0) (bs := []) (fun q hq2 => by rw [List.mem_singleton.mp hq2]; show 1 < 64; decide) (by decide) (by decide) (by decide) (fun z => absurd z (by decide)) (fun z => absurd z (by decide)) (fun z => absurd z.1 (by decide)) ?_
  walk_at "r"
  refine ⟨by show 5 + 2 ≤ 100000; decide, ?_⟩
  exact h
end Lb

/-! Sm60d: the law k60. -/
namespace Lb
open PySem L2
local macro_rules | `(tactic| walk_at "v") => `(tactic| ((with_reducible refine ev_var (d := ?dv) ?hv ?_); (case hv => exact rfl)))
local macro_rules | `(tactic| walk_at "f") => `(tactic| first
  | with_reducible refine f_in ?_
  | with_reducible refine f_notin ?_
  | with_reducible refine f_add_i ?_
  | with_reducible refine f_add_s ?_
  | with_reducible refine f_add_l ?_
  | with_reducible refine f_add_t ?_
  | with_reducible refine f_sub ?_
  | with_reducible refine f_mul_i ?_
  | with_reducible refine f_mul_l ?_
  | with_reducible refine f_mul_t ?_
  | with_reducible refine f_div ?_
  | with_reducible refine f_mod ?_
  | with_reducible refine f_pow ?_
  | with_reducible refine f_lt ?_
  | with_reducible refine f_le ?_
  | with_reducible refine f_gt ?_
  | with_reducible refine f_ge ?_
  | with_reducible refine f_eq_i ?_
  | with_reducible refine f_ne_i ?_
  | with_reducible refine f_eq_b ?_
  | with_reducible refine f_ne_b ?_
  | with_reducible refine f_is_n ?_
  | with_reducible refine f_isnot_n ?_
  | with_reducible refine f_is_i ?_
  | with_reducible refine f_isnot_i ?_
  | with_reducible refine f_is_b ?_
  | with_reducible refine f_isnot_b ?_
  | with_reducible refine f_is_s ?_
  | with_reducible refine f_isnot_s ?_
  | with_reducible refine f_is_l ?_
  | with_reducible refine f_isnot_l ?_
  | with_reducible refine f_is_t ?_
  | with_reducible refine f_isnot_t ?_
  | with_reducible refine f_is_r ?_
  | with_reducible refine f_isnot_r ?_
  | with_reducible refine f_is ?_
  | with_reducible refine f_isnot ?_
  | with_reducible refine f_neg ?_
  | with_reducible refine f_len_ml ?_
  | with_reducible refine f_len_mt ?_
  | with_reducible refine f_sum_l ?_
  | with_reducible refine f_sum_t ?_
  | with_reducible refine f_all ?_
  | with_reducible refine f_any ?_
  | with_reducible refine f_len_l ?_
  | with_reducible refine f_len_t ?_
  | with_reducible refine f_len_c ?_
  | with_reducible refine f_abs ?_
  | with_reducible refine f_min2 ?_
  | with_reducible refine f_max2 ?_
  | with_reducible refine f_list_l ?_
  | with_reducible refine f_list_t ?_
  | with_reducible refine f_tup_l ?_
  | with_reducible refine f_tup_t ?_
  | with_reducible refine f_int_i ?_
  | with_reducible refine f_int_b ?_
  | with_reducible refine f_sl_l ?_
  | with_reducible refine f_sl_t ?_
  | with_reducible refine f_tr_n ?_
  | with_reducible refine f_tr_b ?_
  | with_reducible refine f_tr_i ?_
  | with_reducible refine f_tr_l ?_
  | with_reducible refine f_tr_t ?_
  | with_reducible refine f_tr_c ?_)
local macro_rules | `(tactic| walk_at "w") => `(tactic| first
  | walk_at "v"
  | with_reducible refine ev_rev ?_
  | with_reducible refine ev_sset ?_
  | with_reducible refine ev_lcl ?_
  | with_reducible refine ev_lct ?_
  | with_reducible refine ev_lcs ?_
  | with_reducible refine ev_lc1 ?_
  | with_reducible refine ev_lc2 ?_
  | with_reducible refine st_forl ?_
  | with_reducible refine st_fort ?_
  | with_reducible refine st_fors ?_
  | with_reducible refine st_for1 ?_
  | with_reducible refine st_for2 ?_
  | with_reducible refine ex_bl ?_
  | with_reducible refine ex_in ?_
  | with_reducible refine ex_ls ?_
  | with_reducible refine ex_tu ?_
  | with_reducible refine ex_st ?_
  | with_reducible refine ex_d0 ?_
  | with_reducible refine ex_d1 ?_
  | with_reducible refine ex_d2 ?_
  | with_reducible refine ex_d3 ?_
  | with_reducible refine ex_d4 ?_
  | with_reducible refine ex_d5 ?_
  | with_reducible refine ex_d6 ?_
  | with_reducible refine ex_d7 ?_
  | with_reducible refine ex_d8 ?_
  | with_reducible refine m_and ?_
  | with_reducible refine i_t ?_
  | with_reducible refine i_f ?_
  | with_reducible refine i_nt ?_
  | with_reducible refine i_nf ?_
  | with_reducible refine ev_tup ?_
  | with_reducible refine ev_lst ?_
  | with_reducible refine ev_int ?_
  | with_reducible refine ea_cons ?_
  | with_reducible refine ea_nil ?_
  | with_reducible refine ev_op ?_
  | with_reducible refine st_seq ?_
  | with_reducible refine st_asg ?_
  | with_reducible refine ev_call ?_
  | with_reducible refine ev_cb ?_
  | with_reducible refine st_if ?_
  | with_reducible refine et_test ?_
  | with_reducible refine et_not ?_
  | with_reducible refine et_or ?_
  | with_reducible refine et_and ?_
  | with_reducible refine et_tru ?_
  | with_reducible refine et_yes ?_
  | with_reducible refine et_B ?_
  | with_reducible refine ev_chain ?_
  | with_reducible refine ev_chain3 ?_
  | with_reducible refine ev_un ?_
  | with_reducible refine ev_if ?_
  | with_reducible refine ev_bl ?_
  | with_reducible refine ev_non ?_
  | with_reducible refine ev_str ?_
  | with_reducible refine ev_andV ?_
  | with_reducible refine ev_orV ?_
  | with_reducible refine ev_notV ?_
  | with_reducible refine ev_isB ?_
  | with_reducible refine ev_isE ?_
  | with_reducible refine ev_sl2 ?_
  | with_reducible refine ev_slA ?_
  | with_reducible refine ev_slB ?_
  | with_reducible refine ev_bmL ?_
  | with_reducible refine ev_bmL0 ?_
  | with_reducible refine st_ret ?_
  | with_reducible refine st_drop ?_
  | with_reducible refine st_next ?_
  | with_reducible refine st_setL ?_
  | with_reducible refine st_asgG ?_
  | with_reducible refine st_raise ?_
  | with_reducible refine gt_name ?_
  | with_reducible refine gt_tup2 ?_
  | with_reducible refine gt_tup3 ?_
  | walk_at "f")
local macro_rules | `(tactic| walk_at "r") => `(tactic| repeat walk_at "w")

def S_law : SpD := fun es m R _ => ∃ ns : List Int, es = [.scr ns] ∧ R (.d (.bl true)) m
def rd_law_18 (G : Ctx) (W : WX) : TS :=
  tSeq (tIfS (tTest (tOp (rD2 G neF) (tCallS (spL G S_law_told) (WE W) (tCons (tC (.int 3)) (tCons (tVar 1) (tCons (tVar 2) (tCons (tVar 3) (tCons (tCB (rDn G listF) (tCons (tVar 6) (tNil))) (tNil))))))) (tVar 14))) (tRet (tC (.bl false))) (tNext))
  (tRet (tOp (rD2 G eqF) (tCallS (spL G S_law_refused) (WE W) (tCons (tVar 1) (tCons (tVar 2) (tCons (tVar 3) (tCons (tVar 6) (tNil)))))) (tOp (rD2 G addF) (tOp (rD2 G mulF) (tLst (tCons (tC (.str (Str.ofString "question"))) (tNil))) (tC (.int 6))) (tLst (tCons (tC (.str (Str.ofString "game"))) (tNil))))))
def rd_law_16 (G : Ctx) (W : WX) : TS :=
  tSeq (tAsg (tLc (iRng1 (tCons (tVar 1) (tNil))) (gName 16) (tYes) (tCallS (spL G S_law_lied) (WE WF) (tCons (tVar 3) (tCons (tVar 6) (tCons (tVar 16) (tNil))))) [16]) (gName 13))
  (tSeq (tAsg (tTup (tCons (tLc (iRng1 (tCons (tVar 1) (tNil))) (gName 16) (tTest (tOp (rD2 G eqF) (tOp (rD2 G idxF) (tVar 13) (tVar 16)) (tCB (rDn G minF) (tCons (tVar 13) (tNil))))) (tVar 16) [16]) (tCons (tCB (rDn G minF) (tCons (tVar 13) (tNil))) (tNil)))) (gName 14))
  (rd_law_18 G W))
def rd_law_15 (G : Ctx) (W : WX) : TS :=
  tSeq (tAsg (tOp (rD2 G idxF) (tVar 4) (tOp (rD2 G modF) (tCallS (spL G S_law_mix) (WE W) (tCons (tVar 0) (tCons (tC (.int 81)) (tNil)))) (tCB (rDn G lenF) (tCons (tVar 4) (tNil))))) (gName 6))
  (rd_law_16 G W)
def rd_law_13 (G : Ctx) (W : WX) : TS :=
  tSeq (tIfS (tOr (tTest (tOp (rD2 G neF) (tCallS (spL G S_law_told) (WE W) (tCons (tC (.int 2)) (tCons (tVar 1) (tCons (tVar 2) (tCons (tVar 3) (tCons (tVar 9) (tNil))))))) (tVar 10))) (tTest (tOp (rD2 G neF) (tVar 12) (tAndV (tVar 11) (tOp (rD2 G eqF) (tOp (rD2 G idxF) (tVar 7) (tC (.int 0))) (tC (.int 0))))))) (tRet (tC (.bl false))) (tNext))
  (tSeq (tIfS (tOr (tNot (tTru G.K (tCB (rIsB G "bool") (tCons (tVar 12) (tCons (tC (.ty "bool")) tNil))))) (tAnd (tTru G.K (tVar 11)) (tTest (tOp (rD2 G neF) (tCB (rDn G sumF) (tCons (tSl (rDS G sliceF) (tVar 7) (tPart (tC (.int 1))) tNoPart) (tNil))) (tOp (rD2 G mulF) (tVar 1) (tCallS (spL G S_law_ways) (WE W) (tCons (tCB (rDn G lenF) (tCons (tVar 3) (tNil))) (tCons (tVar 2) (tNil))))))))) (tRet (tC (.bl false))) (tNext))
  (rd_law_15 G W))
def rd_law_9 (G : Ctx) (W : WX) : TS :=
  tSeq (tAsg (tOp (rD2 G modF) (tCallS (spL G S_law_mix) (WE W) (tCons (tVar 0) (tCons (tC (.int 80)) (tNil)))) (tVar 1)) (gName 9))
  (tSeq (tAsg (tLc (iList G.K (tVar 4)) (gName 6) (tTest (tOp (rD2 G leF) (tCallS (spL G S_law_lied) (WE WF) (tCons (tVar 3) (tCons (tVar 6) (tCons (tVar 9) (tNil))))) (tVar 2))) (tVar 6) [6]) (gName 10))
  (tSeq (tAsg (tCallS (spL G S_works) (WE W) (tCons (tVar 1) (tCons (tVar 2) (tCons (tVar 3) (tNil))))) (gName 11))
  (tSeq (tAsg (tCallS (spL G S_law_told) (WE W) (tCons (tC (.int 1)) (tCons (tVar 1) (tCons (tVar 2) (tCons (tVar 3) (tCons (tC (.int 0)) (tNil))))))) (gName 12))
  (rd_law_13 G W))))
def rd_law_7 (G : Ctx) (W : WX) : TS :=
  tSeq (tAsg (tCallS (spL G S_law_told) (WE W) (tCons (tC (.int 0)) (tCons (tVar 1) (tCons (tVar 2) (tCons (tVar 3) (tCons (tC (.int 0)) (tNil))))))) (gName 8))
  (tSeq (tIfS (tOr (tTest (tOp (rD2 G neF) (tVar 8) (tVar 7))) (tNot (tTru G.K (tCB (rDn G allF) (tCons (tLc (iList G.K (tVar 8)) (gName 16) (tYes) (tCallS (spL G S_law_whole) (WE WF) (tCons (tVar 16) (tNil))) [16]) (tNil)))))) (tRet (tC (.bl false))) (tNext))
  (rd_law_9 G W))
def rd_law_4 (G : Ctx) (W : WX) : TS :=
  tSeq (tAsg (tLst (tNil)) (gName 5))
  (tSeq (tFor (iList G.K (tVar 4)) (gName 6) (tDrop (tBM G.K "list" (rDM G appendF) (tVar 5) (tCons (tCB (rDn G lenF) (tCons (tLc (iRng1 (tCons (tVar 1) (tNil))) (gName 9) (tTest (tOp (rD2 G leF) (tCallS (spL G S_law_lied) (WE WF) (tCons (tVar 3) (tCons (tVar 6) (tCons (tVar 9) (tNil))))) (tVar 2))) (tVar 9) [9]) (tNil))) (tNil)))))
  (tSeq (tAsg (tLc (iRng1 (tCons (tOp (rD2 G addF) (tCB (rDn G maxF) (tCons (tVar 5) (tNil))) (tC (.int 1))) (tNil))) (gName 15) (tYes) (tBM G.K "list" (rDM G countF) (tVar 5) (tCons (tVar 15) (tNil))) [15]) (gName 7))
  (rd_law_7 G W)))
def rd_law (G : Ctx) (W : WX) : TS :=
  tSeq (tAsg (tOp (rD2 G addF) (tC (.int 1)) (tOp (rD2 G modF) (tCallS (spL G S_law_mix) (WE W) (tCons (tVar 0) (tCons (tC (.int 0)) (tNil)))) (tC (.int 5)))) (gName 1))
  (tSeq (tAsg (tOp (rD2 G modF) (tCallS (spL G S_law_mix) (WE W) (tCons (tVar 0) (tCons (tC (.int 1)) (tNil)))) (tC (.int 3))) (gName 2))
  (tSeq (tAsg (tCallS (spL G S_law_questions) (WE W) (tCons (tVar 0) (tCons (tVar 1) (tNil)))) (gName 3))
  (tSeq (tAsg (tCallS (spL G S_law_rows) (WE W) (tCons (tCB (rDn G lenF) (tCons (tVar 3) (tNil))) (tNil))) (gName 4))
  (rd_law_4 G W))))

theorem len_law : ∀ es m R XR, S_law es m R XR → es.length = 1 := by
  rintro es m R XR ⟨a, rfl, _⟩
  rfl
theorem ask_law (ns : List Int) (hl : ns.length ≤ 63) : S_law [.scr ns] (fun _ => none) (fun d _ => d = .d (.bl true)) (fun _ _ => False) := ⟨ns, rfl, rfl⟩
theorem mix_lt (ns : List Int) (k : Int) {z : Nat} (hz : 0 < z) : ∃ j : Nat, j < z ∧ mixN ns k % (z : Int) = (j : Int) := by
  have a0 := Int.emod_nonneg (mixN ns k) (b := (z : Int)) (by omega)
  have a1 := Int.emod_lt_of_pos (mixN ns k) (b := (z : Int)) (by omega)
  exact ⟨(mixN ns k % (z : Int)).toNat, by omega, by omega⟩
structure Qs (n l : Nat) (qs : List (List Int)) : Prop where
  nn : n < 5
  ll : l < 3
  k : qs.length ≤ 7
  s : ∀ q ∈ qs, q.length < 64
  q : ∀ q ∈ qs, QOk ((n + 1 : Nat) : Int) q
theorem Qs.g {n l : Nat} {qs : List (List Int)} (h : Qs n l qs) : GameOk ((n + 1 : Nat) : Int) (l : Int) := ⟨by have := h.nn; omega, by have := h.nn; omega, by have := h.ll; omega, by have := h.ll; omega⟩
theorem Qs.p {n l : Nat} {qs : List (List Int)} (h : Qs n l qs) : 2 ^ qs.length ≤ 128 := by
  have : 2 ^ qs.length ≤ 2 ^ 7 := Nat.pow_le_pow_right (by decide) h.k
  simpa using this
theorem Qs.t {n l : Nat} {qs : List (List Int)} (h : Qs n l qs) {way t : Int} {bs : List Bool} (h2 : way = 2 → 0 ≤ t ∧ t < ((n + 1 : Nat) : Int)) (h3 : way = 3 → bs.length = qs.length) : ToldOk way ((n + 1 : Nat) : Int) l qs t bs := ⟨⟨by have := h.k; omega, h.q⟩, .inr (by have := h.k; omega), h2, h3⟩
theorem sh_bs {n : Nat} {bs : List Bool} : Sh (n + 1) (dBls bs) := by
  show ∀ x ∈ bs.map D.bl, Sh n x
  exact sh_bls
theorem sh_rows {n : Nat} {rs : List (List Bool)} : Sh (n + 2) (dRows rs) := by
  show ∀ x ∈ rs.map dBls, Sh (n + 1) x
  intro x hx
  obtain ⟨r, _, rfl⟩ := List.mem_map.mp hx
  exact sh_bs
mutual
theorem eqD_refl : ∀ d : D, eqD d d = true
  | .non => by unfold eqD; rw [toPy, PyData.eqv]
  | .bl b => by rw [eqD_bl]; exact beq_self_eq_true b
  | .int i => by rw [eqD_int]; exact decide_eq_true rfl
  | .str s => by rw [eqD_str]; exact decide_eq_true rfl
  | .lst xs => by unfold eqD; rw [toPy, PyData.eqv]; exact eqDs_refl xs
  | .tup xs => by unfold eqD; rw [toPy, PyData.eqv]; exact eqDs_refl xs
theorem eqDs_refl : ∀ xs : List D, PyData.eqvAll (toPys xs) (toPys xs) = true
  | [] => by rw [toPys, PyData.eqvAll]
  | x :: xs => by
    have h := eqD_refl x
    unfold eqD at h
    rw [toPys, PyData.eqvAll, h, eqDs_refl xs]
    rfl
end
theorem ne_self {R : DV → Mu → Prop} {m : Mu} {x y : DV} (a : D) (hx : vw m x = some a) (hy : vw m y = some a) (hs : Sh 63 a) (h : R (.d (.bl false)) m) : neF x y m R := by
  refine v_ne hx hy hs hs ?_
  rw [eqD_refl]
  exact h
theorem eq_self {R : DV → Mu → Prop} {m : Mu} {x y : DV} (a : D) (hx : vw m x = some a) (hy : vw m y = some a) (hs : Sh 63 a) (h : R (.d (.bl true)) m) : eqF x y m R := by
  refine v_eq hx hy hs hs ?_
  rw [eqD_refl]
  exact h
abbrev sc0 (ns : List Int) : Option DV := some (.scr ns)
abbrev sN (n : Nat) : Option DV := some (.d (.int (n : Nat)))
/-- the last: nearest things, refusals -/
theorem law_15 {G : Ctx} {W : WX} {m : Mu} {R : DV → Mu → Prop} {XR : Tag → Mu → Prop} {ns : List Int} {n l : Nat} {qs : List (List Int)} {o5 o6 o7 o8 o9 o10 o11 o12 o13 o14 o15 o16 : Option DV} (hQ : Qs n l qs) (h : R (.d (.bl true)) m) :
    StD G W (rd_law_15 G W) [sc0 ns, sN (n + 1), sN l, some (.d (dQs qs)), some (.d (dRows (rowsN qs.length))), o5, o6, o7, o8, o9, o10, o11, o12, o13, o14, o15, o16] m (NL R) (fun t _ m' => XR t m') := by
  have hp := hQ.p
  have hk := hQ.k
  have hl := rows_len qs.length
  have h0 : 0 < 2 ^ qs.length := Nat.pow_pos (by decide)
  unfold rd_law_15
  walk_at "r"
  refine ⟨ns, 81, rfl, by decide, by decide, ?_⟩
  walk_at "r"
  refine ⟨by omega, ?_⟩
  obtain ⟨j, hj, ej⟩ := mix_lt ns 81 (z := (rowsN qs.length).length) (by omega)
  rw [ej]
  walk_at "r"
  have er : (rowsN qs.length)[j]? = some ((rowsN qs.length)[j]) := List.getElem?_eq_getElem hj
  refine ⟨dBls (rowsN qs.length)[j], atI_nat (by rw [List.getElem?_map, er]; rfl), ?_⟩
  have hb : ((rowsN qs.length)[j]).length = qs.length := rows_mem _ _ (List.getElem_mem hj)
  generalize (rowsN qs.length)[j] = bs at hb
  unfold rd_law_16
  walk_at "r"
  refine ⟨_, rfl, by have := hQ.nn; omega, by have := hQ.nn; omega, ?_⟩
  rw [Int.toNat_natCast]
  refine lcM (List.range (n + 1)) (fun t => .d (.int (0 + (t : Nat)))) (fun t => .int ((liedN qs bs (t : Nat) : Nat) : Int)) rfl (by rw [List.length_range]; have := hQ.nn; omega) (fun t M ht hM => ⟨_, .name (by decide), ?_⟩) ?_
  · walk_at "r"
    refine ⟨qs, bs, _, rfl, by omega, by omega, ?_⟩
    rw [Int.zero_add]
    exact ⟨rfl, rfl⟩
  have eI : D.lst ((List.range (n + 1)).map fun t => D.int ((liedN qs bs (t : Nat) : Nat) : Int)) = dInts ((List.range (n + 1)).map fun t => ((liedN qs bs (t : Nat) : Nat) : Int)) := by rw [dInts, List.map_map]; rfl
  rw [eI]
  have hne : 0 < ((List.range (n + 1)).map fun t => ((liedN qs bs (t : Nat) : Nat) : Int)).length := by simp
  have hmin : ∀ k, k ∈ ((List.range (n + 1)).map fun t => ((liedN qs bs (t : Nat) : Nat) : Int)) → (∀ y, y ∈ ((List.range (n + 1)).map fun t => ((liedN qs bs (t : Nat) : Nat) : Int)) → k ≤ y) → ∃ d : Nat, k = (d : Int) ∧ Near (fun t => liedN qs bs (t : Nat)) (n + 1) ((List.range (n + 1)).filter fun t => decide (liedN qs bs (t : Nat) = d)) d := by
    intro k h1 h2
    obtain ⟨t, ht, rfl⟩ := List.mem_map.mp h1
    refine ⟨_, rfl, fun t ht => ?_, ⟨t, List.mem_range.mp ht, rfl⟩, rfl⟩
    have := h2 _ (List.mem_map.mpr ⟨t, List.mem_range.mpr ht, rfl⟩)
    omega
  -- the least number of lies
  obtain ⟨d0, ts0, hN0⟩ : ∃ d ts, Near (fun t => liedN qs bs (t : Nat)) (n + 1) ts d := by
    have : ∀ i, ∃ d ts, Near (fun t => liedN qs bs (t : Nat)) (i + 1) ts d := by
      intro i
      induction i with
      | zero => exact ⟨_, _, Near.first⟩
      | succ i ih =>
        obtain ⟨d, ts, hN⟩ := ih
        by_cases c1 : liedN qs bs ((i + 1 : Nat) : Int) < d
        · exact ⟨_, _, near_lt (L := fun t => liedN qs bs (t : Nat)) fun t ht => Nat.lt_of_lt_of_le c1 (hN.le t ht)⟩
        · by_cases c2 : liedN qs bs ((i + 1 : Nat) : Int) = d
          · exact ⟨_, _, hN.eqs c2⟩
          · exact ⟨_, _, hN.gt (show d < liedN qs bs ((i + 1 : Nat) : Int) by omega)⟩
    exact this n
  walk_at "r"
  refine ⟨_, rfl, by have := hQ.nn; omega, by have := hQ.nn; omega, ?_⟩
  rw [Int.toNat_natCast]
  refine lcF (List.range (n + 1)) (fun t => .d (.int (0 + (t : Nat)))) (fun t => decide (liedN qs bs (t : Nat) = d0)) (fun t => .int ((t : Nat) : Int)) rfl (by rw [List.length_range]; have := hQ.nn; omega) (fun t M ht hM => ⟨_, .name (by decide), ?_, fun _ => ?_⟩) ?_
  · have ht := List.mem_range.mp ht
    walk_at "r"
    rw [Int.zero_add]
    refine ⟨.int ((liedN qs bs (t : Nat) : Nat) : Int), atI_nat (by rw [List.getElem?_map, List.getElem?_map, List.getElem?_range ht]; rfl), ?_⟩
    walk_at "r"
    refine ⟨_, rfl, hne, fun k k1 k2 => ?_⟩
    obtain ⟨d, rfl, hN⟩ := hmin k k1 k2
    obtain ⟨rfl, _⟩ := hN.uniq hN0
    walk_at "r"
    apply decide_eq_decide.mpr
    omega
  · walk_at "r"
    rw [Int.zero_add]
  walk_at "r"
  refine ⟨_, rfl, hne, fun k k1 k2 => ?_⟩
  obtain ⟨d, rfl, hN⟩ := hmin k k1 k2
  obtain ⟨rfl, rfl⟩ := hN.uniq hN0
  walk_at "r"
  unfold rd_law_18
  walk_at "r"
  refine ⟨3, _, _, qs, _, 0, bs, rfl, hQ.s, by omega, by decide, by decide, fun z => absurd z (by decide), fun _ => rfl, fun z => absurd hQ.g z, fun _ z => absurd (hQ.t (fun z => absurd z (by decide)) fun _ => hb) z, fun _ _ z => absurd z (by decide), fun _ _ z => absurd z (by decide), fun _ _ z => absurd z (by decide), fun _ _ _ ts2 d2 hN2 => ?_⟩
  rw [Int.toNat_natCast] at hN2
  obtain ⟨rfl, rfl⟩ := hN2.uniq hN0
  walk_at "r"
  refine ne_self (.tup [dNats ((List.range (n + 1)).filter fun t => decide (liedN qs bs (t : Nat) = d2)), .int (d2 : Nat)]) rfl rfl ?_ ?_
  · refine Sh.tup fun y hy => ?_
    simp at hy
    rcases hy with rfl | rfl
    · rw [dNats_eq]; exact sh_dInts
    · exact sh_int
  walk_at "r"
  refine ⟨n + 1, l, qs, bs, rfl, hQ.g, hQ.s, by omega, hb, ?_⟩
  walk_at "r"
  refine ⟨by decide, by decide, by decide, ?_⟩
  walk_at "r"
  refine ⟨by decide, ?_⟩
  refine eq_strs sevenS (by decide +kernel) rfl rfl ?_
  exact h
theorem law_9 {G : Ctx} {W : WX} {m : Mu} {R : DV → Mu → Prop} {XR : Tag → Mu → Prop} {ns : List Int} {n l : Nat} {qs : List (List Int)} {o5 o6 o8 o9 o10 o11 o12 o13 o14 o15 o16 : Option DV} (hQ : Qs n l qs) (h : R (.d (.bl true)) m) :
    StD G W (rd_law_9 G W) [sc0 ns, sN (n + 1), sN l, some (.d (dQs qs)), some (.d (dRows (rowsN qs.length))), o5, o6, some (.d (dNats (spreadN (manyN (n + 1) l qs)))), o8, o9, o10, o11, o12, o13, o14, o15, o16] m (NL R) (fun t _ m' => XR t m') := by
  have hp := hQ.p
  have hk := hQ.k
  have hl := rows_len qs.length
  unfold rd_law_9
  walk_at "r"
  refine ⟨ns, 80, rfl, by decide, by decide, ?_⟩
  walk_at "r"
  refine ⟨by omega, ?_⟩
  obtain ⟨j, hj, ej⟩ := mix_lt ns 80 (z := n + 1) (by omega)
  rw [ej]
  walk_at "r"
  refine lcF (rowsN qs.length) (fun r => .d (dBls r)) (fun r => decide ((liedN qs r j : Int) ≤ l)) dBls (by rw [List.map_map]; rfl) (by omega) (fun r M hr hM => ⟨_, .name (by decide), ?_, fun _ => ?_⟩) ?_
  · have hr := rows_mem _ _ hr
    walk_at "r"
    refine ⟨qs, r, _, rfl, by omega, by omega, ?_⟩
    walk_at "r"
    exact rfl
  · walk_at "r"
    exact rfl
  walk_at "r"
  refine ⟨_, _, qs, rfl, hQ.s, fun z => absurd hQ.g z, fun _ z => absurd ⟨by omega, hQ.q⟩ z, fun _ _ _ => ?_⟩
  rw [Int.toNat_natCast]
  walk_at "r"
  refine ⟨1, _, _, qs, _, 0, [], rfl, hQ.s, by decide, by decide, by decide, fun z => absurd z (by decide), fun z => absurd z (by decide), fun z => absurd hQ.g z, fun _ z => absurd (hQ.t (fun z => absurd z (by decide)) fun z => absurd z (by decide)) z, fun _ _ z => absurd z (by decide), fun _ _ _ => ?_, fun _ _ z => absurd z (by decide), fun _ _ z => absurd z (by decide)⟩
  rw [Int.toNat_natCast]
  unfold rd_law_13
  walk_at "r"
  refine ⟨2, _, _, qs, _, j, [], rfl, hQ.s, by decide, by decide, by decide, fun _ => rfl, fun z => absurd z (by decide), fun z => absurd hQ.g z, fun _ z => absurd (hQ.t (fun _ => ⟨by omega, by omega⟩) fun z => absurd z (by decide)) z, fun _ _ z => absurd z (by decide), fun _ _ z => absurd z (by decide), fun _ _ _ => ?_, fun _ _ z => absurd z (by decide)⟩
  walk_at "r"
  refine ne_self (dRows ((rowsN qs.length).filter fun r => decide ((liedN qs r j : Int) ≤ l))) rfl rfl sh_rows ?_
  have e0 : decide (((spreadN (manyN (n + 1) l qs)).getD 0 0 : Int) = 0) = decide ((spreadN (manyN (n + 1) l qs)).getD 0 0 = 0) := by
    apply decide_eq_decide.mpr
    omega
  have fin : ∀ o13 o14 o15 o16, StD G W (tSeq (tIfS (tOr (tNot (tTru G.K (tCB (rIsB G "bool") (tCons (tVar 12) (tCons (tC (.ty "bool")) tNil))))) (tAnd (tTru G.K (tVar 11)) (tTest (tOp (rD2 G neF) (tCB (rDn G sumF) (tCons (tSl (rDS G sliceF) (tVar 7) (tPart (tC (.int 1))) tNoPart) (tNil))) (tOp (rD2 G mulF) (tVar 1) (tCallS (spL G S_law_ways) (WE W) (tCons (tCB (rDn G lenF) (tCons (tVar 3) (tNil))) (tCons (tVar 2) (tNil))))))))) (tRet (tC (.bl false))) (tNext)) (rd_law_15 G W)) [sc0 ns, sN (n + 1), sN l, some (.d (dQs qs)), some (.d (dRows (rowsN qs.length))), o5, o6, some (.d (dNats (spreadN (manyN (n + 1) l qs)))), o8, sN j, some (.d (dRows ((rowsN qs.length).filter fun r => decide ((liedN qs r j : Int) ≤ l)))), some (.d (.bl (worksN (n + 1) l qs))), some (.d (.bl (fullN (n + 1) l qs))), o13, o14, o15, o16] m (NL R) (fun t _ m' => XR t m') := by
    intro o13 o14 o15 o16
    walk_at "r"
    refine ⟨"bool", true, rfl, kit_bb, ?_⟩
    walk_at "r"
    refine i_b (fun c => ?_) (fun c => ?_)
    · walk_at "r"
      rw [show cut (List.map (fun n : Nat => D.int (n : Int)) (spreadN (manyN (n + 1) l qs))) (some 1) none = ((spreadN (manyN (n + 1) l qs)).tail.map fun n : Nat => (n : Int)).map D.int by rw [show (some (1 : Int)) = some ((1 : Nat) : Int) from rfl, cut_from, List.drop_one, List.map_map, ← List.map_tail]; rfl]
      walk_at "r"
      refine ⟨qs.length, l, rfl, by omega, by have := hQ.ll; omega, ?_⟩
      walk_at "r"
      refine ⟨.inl ⟨by have := hQ.nn; omega, by have := hQ.nn; omega⟩, ?_⟩
      walk_at "r"
      have hms : ∀ x ∈ manyN (n + 1) l qs, x ≤ 1 := by
        intro x hx
        obtain ⟨r, hr, rfl⟩ := List.mem_map.mp hx
        exact dec_few c (rows_mem _ _ hr).symm
      have e1 : ((spreadN (manyN (n + 1) l qs)).tail.map fun n : Nat => (n : Int)).sum = ((n + 1 : Nat) : Int) * ((cumN qs.length l : Nat) : Int) := by
        have e2 := sum_spread hms (many_ne _ _ _)
        rw [show (manyN (n + 1) l qs).sum = (n + 1) * cumN qs.length l from sum_dec l qs (n + 1)] at e2
        have e3 : ∀ xs : List Nat, (xs.map fun n : Nat => (n : Int)).sum = ((xs.sum : Nat) : Int) := by
          intro xs
          induction xs with
          | nil => rfl
          | cons x xs ih => rw [List.map_cons, List.sum_cons, List.sum_cons, ih]; omega
        rw [e3, e2]
        exact Int.natCast_mul _ _
      rw [e1, decide_eq_true rfl]
      refine i_nt ?_
      walk_at "r"
      exact law_15 hQ h
    · walk_at "r"
      exact law_15 hQ h
  walk_at "r"
  refine i_b (fun c => ?_) (fun c => ?_)
  · walk_at "r"
    refine ⟨_, atI_nats (k := 0) (spread_pos _ _ _), ?_⟩
    walk_at "r"
    rw [e0, show (fullN (n + 1) l qs != decide ((spreadN (manyN (n + 1) l qs)).getD 0 0 = 0)) = false by unfold fullN; rw [c]; simp]
    refine i_f ?_
    refine st_next ?_
    exact fin _ _ _ _
  · walk_at "r"
    rw [show (fullN (n + 1) l qs != false) = false by unfold fullN; rw [c]; simp]
    refine i_f ?_
    refine st_next ?_
    exact fin _ _ _ _
theorem law_4 {G : Ctx} {W : WX} {m : Mu} {R : DV → Mu → Prop} {XR : Tag → Mu → Prop} {ns : List Int} {n l : Nat} {qs : List (List Int)} (hQ : Qs n l qs) (h : R (.d (.bl true)) m) :
    StD G W (rd_law_4 G W) [sc0 ns, sN (n + 1), sN l, some (.d (dQs qs)), some (.d (dRows (rowsN qs.length))), none, none, none, none, none, none, none, none, none, none, none, none] m (NL R) (fun t _ m' => XR t m') := by
  have hp := hQ.p
  have hk := hQ.k
  have hn := hQ.nn
  have hl := rows_len qs.length
  unfold rd_law_4
  refine st_seq (st_asg (ev_lstO ?_))
  walk_at "r"
  intro a ha
  refine st_seq ?_
  walk_at "r"
  refine forL (rowsN qs.length) (fun r => .d (dBls r)) (fun pre ds' m' => mset m a (.lst ((pre.map fun r => (decN (n + 1) l qs r).length).map fun n => D.int ((n : Nat) : Int))) = m' ∧ ∃ o6, ds' = [sc0 ns, sN (n + 1), sN l, some (.d (dQs qs)), some (.d (dRows (rowsN qs.length))), some (.r a), o6, none, none, none, none, none, none, none, none, none, none]) (by rw [List.map_map]; rfl) ⟨rfl, none, rfl⟩ ?_ ?_
  · rintro pre r post ds' m' e ⟨rfl, o6, rfl⟩
    have hr : r.length = qs.length := rows_mem _ _ (by rw [e]; simp)
    have hpl : pre.length ≤ 128 := by
      have := congrArg List.length e
      simp at this
      omega
    walk_at "r"
    refine ⟨⟨_, mset_same⟩, ?_⟩
    walk_at "r"
    refine ⟨_, rfl, by omega, by omega, ?_⟩
    rw [Int.toNat_natCast]
    refine lcF (List.range (n + 1)) (fun t => .d (.int (0 + (t : Nat)))) (fun t => decide ((liedN qs r ((t : Nat) : Int) : Int) ≤ l)) (fun t => .int (t : Nat)) rfl (by rw [List.length_range]; omega) (fun t M ht hM => ⟨_, .name (by decide), ?_, fun _ => ?_⟩) ?_
    · walk_at "r"
      refine ⟨qs, r, _, rfl, by omega, by omega, ?_⟩
      walk_at "r"
      rw [Int.zero_add]
    · walk_at "r"
      rw [Int.zero_add]
    walk_at "r"
    refine ⟨_, mset_same, by rw [List.length_map, List.length_map]; omega, ?_, _, rfl⟩
    rw [mset_mset, List.map_append, List.map_append]
    have e9 : (decN (n + 1) l qs r).length = (List.filter (fun t => decide ((liedN qs r ((t : Nat) : Int) : Int) ≤ l)) (List.range (n + 1))).length := by
      unfold decN
      rw [List.length_map]
    rw [← e9]
    rfl
  · rintro ds' m' ⟨rfl, o6, rfl⟩
    refine st_frz 5 rfl mset_same ?_
    rw [mdel_mset ha]
    have eM : D.lst (List.map (fun n : Nat => D.int ((n : Nat) : Int)) ((rowsN qs.length).map fun r => (decN (n + 1) l qs r).length)) = dInts ((manyN (n + 1) l qs).map fun n => ((n : Nat) : Int)) := by
      show D.lst (List.map _ (manyN (n + 1) l qs)) = _
      rw [dInts, List.map_map]
      rfl
    show StD _ _ _ [sc0 ns, sN (n + 1), sN l, some (.d (dQs qs)), some (.d (dRows (rowsN qs.length))), some (.d (D.lst (List.map (fun n : Nat => D.int ((n : Nat) : Int)) ((rowsN qs.length).map fun r => (decN (n + 1) l qs r).length)))), o6, none, none, none, none, none, none, none, none, none, none] _ _ _
    rw [eM]
    walk_at "r"
    refine ⟨_, rfl, by rw [List.length_map]; exact List.length_pos_iff.mpr (many_ne _ _ _), fun k k1 k2 => ?_⟩
    obtain ⟨mx, hmx, rfl⟩ := List.mem_map.mp k1
    have top : topN (manyN (n + 1) l qs) = mx + 1 := by
      rcases top_is (manyN (n + 1) l qs) with ⟨_, z⟩ | ⟨z, hz, e⟩
      · exact absurd z (many_ne _ _ _)
      · have a1 := top_mem _ _ hmx
        have a2 := k2 _ (List.mem_map.mpr ⟨z, hz, rfl⟩)
        omega
    have hmx2 : mx ≤ n + 1 := by
      obtain ⟨r, _, rfl⟩ := List.mem_map.mp hmx
      exact decN_len _ _ _ _
    walk_at "r"
    refine ⟨_, rfl, by omega, by omega, ?_⟩
    rw [show ((mx : Int) + 1).toNat = mx + 1 by omega]
    refine lcM (List.range (mx + 1)) (fun t => .d (.int (0 + (t : Nat)))) (fun t => .int (((manyN (n + 1) l qs).count t : Nat) : Int)) rfl (by rw [List.length_range]; omega) (fun t M ht hM => ⟨_, .name (by decide), ?_⟩) ?_
    · walk_at "r"
      refine ⟨trivial, ?_⟩
      walk_at "r"
      refine ⟨_, _, rfl, rfl, sh_ints, sh_int, rfl, ?_⟩
      rw [Int.zero_add]
      congr 3
      rw [List.countP_map, List.countP_map, List.count]
      apply List.countP_congr
      intro x _
      show eqD (.int (x : Nat)) (.int (t : Nat)) = true ↔ (x == t) = true
      rw [eqD_int]
      simp
      omega
    have eS : D.lst (List.map (fun t => D.int (((manyN (n + 1) l qs).count t : Nat) : Int)) (List.range (mx + 1))) = dNats (spreadN (manyN (n + 1) l qs)) := by
      rw [spread_eq, top, dNats, List.map_map]
      rfl
    rw [eS]
    unfold rd_law_7
    walk_at "r"
    refine ⟨0, _, _, qs, _, 0, [], rfl, hQ.s, by decide, by decide, by decide, fun z => absurd z (by decide), fun z => absurd z (by decide), fun z => absurd hQ.g z, fun _ z => absurd (hQ.t (fun z => absurd z (by decide)) fun z => absurd z (by decide)) z, fun _ _ _ => ?_, fun _ _ z => absurd z (by decide), fun _ _ z => absurd z (by decide), fun _ _ z => absurd z (by decide)⟩
    rw [Int.toNat_natCast]
    walk_at "r"
    refine ne_self (dNats (spreadN (manyN (n + 1) l qs))) rfl rfl (by rw [dNats_eq]; exact sh_dInts) ?_
    walk_at "r"
    refine lcM (spreadN (manyN (n + 1) l qs)) (fun t => .d (.int ((t : Nat) : Int))) (fun t => .bl true) (by rw [List.map_map]; rfl) (by rw [spread_len, top]; omega) (fun t M ht hM => ⟨_, .name (by decide), ?_⟩) ?_
    · walk_at "r"
      exact ⟨_, rfl, rfl, rfl⟩
    walk_at "r"
    rw [List.all_eq_true.mpr fun _ _ => rfl]
    refine i_f ?_
    refine st_next ?_
    exact law_9 hQ h
theorem sem_law (G : Ctx) : BodyD G 17 (rd_law G) S_law := by
  rintro W es m R XR ⟨ns, rfl, h⟩
  unfold rd_law
  walk_at "r"
  refine ⟨ns, 0, rfl, by decide, by decide, ?_⟩
  walk_at "r"
  refine ⟨by decide, ?_⟩
  walk_at "r"
  refine ⟨ns, 1, rfl, by decide, by decide, ?_⟩
  walk_at "r"
  refine ⟨by decide, ?_⟩
  obtain ⟨n, hn, en⟩ := mix_lt ns 0 (z := 5) (by decide)
  obtain ⟨l, hl, el⟩ := mix_lt ns 1 (z := 3) (by decide)
  rw [show mixN ns 0 % 5 = (n : Int) from en, show mixN ns 1 % 3 = (l : Int) from el, show 1 + (n : Int) = ((n + 1 : Nat) : Int) by omega]
  walk_at "r"
  refine ⟨ns, n + 1, rfl, by omega, fun qs hqs hq => ?_⟩
  have hQ : Qs n l qs := ⟨hn, hl, hqs, fun q z => by have := (hq q z).2; omega, fun q z => (hq q z).1⟩
  walk_at "r"
  refine ⟨qs.length, rfl, by omega, ?_⟩
  exact law_4 hQ h
end Lb

namespace Lb
open PySem L2
def topS (i : Nat) : Stmt := PySem.Challenge.pw_liarbook_k60_whole_answers.main.body.getD i (.Pass ⟨0, 0, 0, 0⟩)
structure Tx (G : Ctx) (mg : Str → Option Value) : Prop where
  b_ValueError : mg "ValueError" = none
  b_all : mg "all" = none
  b_bool : mg "bool" = none
  b_int : mg "int" = none
  b_isinstance : mg "isinstance" = none
  b_len : mg "len" = none
  b_list : mg "list" = none
  b_max : mg "max" = none
  b_min : mg "min" = none
  b_range : mg "range" = none
  b_set : mg "set" = none
  b_sorted : mg "sorted" = none
  b_sum : mg "sum" = none
  c_MOST_ANSWERED : ∃ t, mg "MOST_ANSWERED" = some (.int 12 t)
  c_MOST_ASKED : ∃ t, mg "MOST_ASKED" = some (.int 40 t)
  c_MOST_LIES : ∃ t, mg "MOST_LIES" = some (.int 4 t)
  c_MOST_THINGS : ∃ t, mg "MOST_THINGS" = some (.int 64 t)
  e_game : ErrAt G mg "BadGame" .game
  e_counts : ErrAt G mg "BadCounts" .counts
  e_question : ErrAt G mg "BadQuestion" .question
  e_liar : ErrAt G mg "Liar" .liar
  e_plan : ErrAt G mg "BadPlan" .plan
  e_text : ErrAt G mg "BadText" .text
  le : mg "LiarError" = some (.ref G.le)
  exc : ExcT G
  xall : XAll G
abbrev s_look_game : Stmt := topS 11
abbrev N_look_game : List Str := ["things", "lies"]
theorem sc_look_game : FnScope N_look_game ["things", "lies"] (defScope s_look_game) := ⟨rfl, rfl, rfl, by decide +kernel, rfl, by decide +kernel, by decide +kernel⟩
theorem fk_look_game {P : Program} {mg : Str → Option Value} {base : Heap} {G : Ctx} (T : Tx G mg) (F : DefAt G mg "look_game" "look_game" s_look_game ["things", "lies"]) : FnF P G mg base 1 "look_game" ["things", "lies"] S_look_game := by
    refine fnF_mk (k := 0) F sc_look_game len_look_game (sem_look_game G) (fun f cdv A outer s H E hr => ?_)
    have tk := takes_of (X := cxOf (L2.CX P G.w) P G.w G.K mg base N_look_game "look_game" (defScope s_look_game) f cdv A outer s H E) (E := E) rfl rfl rfl rfl
    have po := passes_of (X := cxOf (L2.CX P G.w) P G.w G.K mg base N_look_game "look_game" (defScope s_look_game) f cdv A outer s H E) rfl
    exact (pss_one (ps_if (PW.pt (pw_or (pt_not (pt_chain (or_le) (or_le) pe_int (pv 0) (pe_globI T.c_MOST_THINGS rfl))) (pw_or1 (pt_not (pt_chain (or_le) (or_le) pe_int (pv 1) (pe_globI T.c_MOST_LIES rfl)))))) (pss_one (ps_raiseE rfl tk rfl T.e_game rfl)) pss_nil))
abbrev s_look_question : Stmt := topS 12
abbrev N_look_question : List Str := ["things", "question"]
theorem sc_look_question : FnScope N_look_question ["things", "question"] (defScope s_look_question) := ⟨rfl, rfl, rfl, by decide +kernel, rfl, by decide +kernel, by decide +kernel⟩
theorem fk_look_question {P : Program} {mg : Str → Option Value} {base : Heap} {G : Ctx} (T : Tx G mg) (F : DefAt G mg "look_question" "look_question" s_look_question ["things", "question"]) : FnF P G mg base 1 "look_question" ["things", "question"] S_look_question := by
    refine fnF_mk (k := 0) F sc_look_question len_look_question (sem_look_question G) (fun f cdv A outer s H E hr => ?_)
    have tk := takes_of (X := cxOf (L2.CX P G.w) P G.w G.K mg base N_look_question "look_question" (defScope s_look_question) f cdv A outer s H E) (E := E) rfl rfl rfl rfl
    have po := passes_of (X := cxOf (L2.CX P G.w) P G.w G.K mg base N_look_question "look_question" (defScope s_look_question) f cdv A outer s H E) rfl
    exact (pss_one (ps_if (PW.pt (pw_or (pt_cmpR (or_ne hr.units) (pv 1) (pe_sset (by rfl) (by rfl) (by rfl) T.b_sorted T.b_set (pa_cons (pv 1) pa_nil)) (nomark _)) (pw_or1 (PW.pt (pw_and (pt_truD (pv 1)) (pw_and1 (pt_not (pt_chain3 (or_le) (or_le) (or_lt hr.units0) pe_int (pe_ix (ix_D rfl) (pv 1) pe_int (fun _ _ => rfl)) (pe_ix (ix_D rfl) (pv 1) (pe_un ur_neg pe_int) (fun _ _ => rfl)) (pv 0))))))))) (pss_one (ps_raiseE rfl tk rfl T.e_question rfl)) pss_nil))
abbrev s_look_all : Stmt := topS 15
abbrev N_look_all : List Str := ["things", "lies", "questions", "question"]
theorem sc_look_all : FnScope N_look_all ["things", "lies", "questions"] (defScope s_look_all) := ⟨rfl, rfl, rfl, by decide +kernel, rfl, by decide +kernel, by decide +kernel⟩
theorem fk_look_all {P : Program} {mg : Str → Option Value} {base : Heap} {G : Ctx} (T : Tx G mg) (F : DefAt G mg "look_all" "look_all" s_look_all ["things", "lies", "questions"]) (h_look_game : FnF P G mg base 1 "look_game" ["things", "lies"] S_look_game) (h_look_question : FnF P G mg base 1 "look_question" ["things", "question"] S_look_question) : FnF P G mg base 2 "look_all" ["things", "lies", "questions"] S_look_all := by
    refine fnF_mk (k := 1) F sc_look_all len_look_all (sem_look_all G) (fun f cdv A outer s H E hr => ?_)
    have tk := takes_of (X := cxOf (L2.CX P G.w) P G.w G.K mg base N_look_all "look_all" (defScope s_look_all) f cdv A outer s H E) (E := E) rfl rfl rfl rfl
    have po := passes_of (X := cxOf (L2.CX P G.w) P G.w G.K mg base N_look_all "look_all" (defScope s_look_all) f cdv A outer s H E) rfl
    exact (pss_cons (ps_expr (pe_callF h_look_game rfl rfl (hr.mono (by decide)) tk (by rfl) (pa_cons (pv 0) (pa_cons (pv 1) pa_nil))))
    (pss_cons (ps_if (pt_cmpR (or_gt) (pe_callB (cr_len rfl) (by rfl) T.b_len PySem.boot_len (pa_cons (pv 2) pa_nil)) (pe_globI T.c_MOST_ASKED rfl) (nomark _)) (pss_one (ps_raiseE rfl tk rfl T.e_question rfl)) pss_nil)
    (pss_one (ps_for po rfl (pi_list (pv 2)) (pg_name (i := 3) sc_look_all.nd rfl (Or.inl rfl)) (pss_one (ps_expr (pe_callF h_look_question rfl rfl (hr.mono (by decide)) tk (by rfl) (pa_cons (pv 0) (pa_cons (pv 3) pa_nil)))))))))
abbrev s_far : Stmt := topS 16
abbrev N_far : List Str := ["one", "other", "questions", "question"]
theorem sc_far : FnScope N_far ["one", "other", "questions"] (defScope s_far) := ⟨rfl, rfl, rfl, by decide +kernel, rfl, by decide +kernel, by decide +kernel⟩
theorem fk_far {P : Program} {mg : Str → Option Value} {base : Heap} {G : Ctx} (T : Tx G mg) (F : DefAt G mg "far" "far" s_far ["one", "other", "questions"]) : FnF P G mg base 1 "far" ["one", "other", "questions"] S_far := by
    refine fnF_mk (k := 0) F sc_far len_far (sem_far G) (fun f cdv A outer s H E hr => ?_)
    have tk := takes_of (X := cxOf (L2.CX P G.w) P G.w G.K mg base N_far "far" (defScope s_far) f cdv A outer s H E) (E := E) rfl rfl rfl rfl
    have po := passes_of (X := cxOf (L2.CX P G.w) P G.w G.K mg base N_far "far" (defScope s_far) f cdv A outer s H E) rfl
    exact (pss_one (ps_ret (pe_callB (cr_len rfl) (by rfl) T.b_len PySem.boot_len (pa_cons (pe_lc (own := [("question", 3)]) (by rfl) sc_far.nd (pi_list (pv 2)) (blkOk_by (own := [("question", 3)]) (N := N_far) (sc := defScope s_far) (by decide +kernel)) (fun _ _ _ _ _ => (pg_name (i := 3) sc_far.nd rfl (Or.inl rfl))) (fun _ _ _ _ _ => (pts_one (pt_cmpR (or_ne hr.units) (pe_cmpR (or_in (Room.u65 hr)) (pv 0) (pv 3) (by rfl)) (pe_cmpR (or_in (Room.u65 hr)) (pv 1) (pv 3) (by rfl)) (nomark _)))) (fun _ _ _ _ _ => (pv 3))) pa_nil))))
abbrev s_nearest : Stmt := topS 17
abbrev N_nearest : List Str := ["things", "questions", "best", "other", "one", "here"]
theorem sc_nearest : FnScope N_nearest ["things", "questions"] (defScope s_nearest) := ⟨rfl, rfl, rfl, by decide +kernel, rfl, by decide +kernel, by decide +kernel⟩
theorem fk_nearest {P : Program} {mg : Str → Option Value} {base : Heap} {G : Ctx} (T : Tx G mg) (F : DefAt G mg "nearest" "nearest" s_nearest ["things", "questions"]) (h_far : FnF P G mg base 1 "far" ["one", "other", "questions"] S_far) : FnF P G mg base 2 "nearest" ["things", "questions"] S_nearest := by
    refine fnF_mk (k := 1) F sc_nearest len_nearest (sem_nearest G) (fun f cdv A outer s H E hr => ?_)
    have tk := takes_of (X := cxOf (L2.CX P G.w) P G.w G.K mg base N_nearest "nearest" (defScope s_nearest) f cdv A outer s H E) (E := E) rfl rfl rfl rfl
    have po := passes_of (X := cxOf (L2.CX P G.w) P G.w G.K mg base N_nearest "nearest" (defScope s_nearest) f cdv A outer s H E) rfl
    exact (pss_cons (ps_set (i := 2) sc_nearest.nd rfl (Or.inl rfl) pe_non)
    (pss_cons (ps_for po rfl (pi_range1 rfl T.b_range (pa_cons (pv 0) pa_nil)) (pg_name (i := 3) sc_nearest.nd rfl (Or.inl rfl)) (pss_one (ps_for po rfl (pi_range1 rfl T.b_range (pa_cons (pv 3) pa_nil)) (pg_name (i := 4) sc_nearest.nd rfl (Or.inl rfl)) (pss_cons (ps_set (i := 5) sc_nearest.nd rfl (Or.inl rfl) (pe_tup (pa_cons (pe_callF h_far rfl rfl (hr.mono (by decide)) tk (by rfl) (pa_cons (pv 4) (pa_cons (pv 3) (pa_cons (pv 1) pa_nil)))) (pa_cons (pv 4) (pa_cons (pv 3) pa_nil)))))
    (pss_one (ps_set (i := 2) sc_nearest.nd rfl (Or.inl rfl) (pe_ifExp (PW.pt (pw_or (pt_cmpR (or_is) (pv 2) pe_non (nomark _)) (pw_or1 (pt_cmpR (or_lt hr.units0) (pv 5) (pv 2) (nomark _))))) (pv 5) (pv 2))))))))
    (pss_one (ps_ret (pv 2)))))
abbrev s_works : Stmt := topS 18
abbrev N_works : List Str := ["things", "lies", "questions", "best"]
theorem sc_works : FnScope N_works ["things", "lies", "questions"] (defScope s_works) := ⟨rfl, rfl, rfl, by decide +kernel, rfl, by decide +kernel, by decide +kernel⟩
theorem fk_works {P : Program} {mg : Str → Option Value} {base : Heap} {G : Ctx} (T : Tx G mg) (F : DefAt G mg "works" "works" s_works ["things", "lies", "questions"]) (h_look_all : FnF P G mg base 2 "look_all" ["things", "lies", "questions"] S_look_all) (h_nearest : FnF P G mg base 2 "nearest" ["things", "questions"] S_nearest) : FnF P G mg base 3 "works" ["things", "lies", "questions"] S_works := by
    refine fnF_mk (k := 2) F sc_works len_works (sem_works G) (fun f cdv A outer s H E hr => ?_)
    have tk := takes_of (X := cxOf (L2.CX P G.w) P G.w G.K mg base N_works "works" (defScope s_works) f cdv A outer s H E) (E := E) rfl rfl rfl rfl
    have po := passes_of (X := cxOf (L2.CX P G.w) P G.w G.K mg base N_works "works" (defScope s_works) f cdv A outer s H E) rfl
    exact (pss_cons (ps_expr (pe_callF h_look_all rfl rfl (hr.mono (by decide)) tk (by rfl) (pa_cons (pv 0) (pa_cons (pv 1) (pa_cons (pv 2) pa_nil)))))
    (pss_cons (ps_set (i := 3) sc_works.nd rfl (Or.inl rfl) (pe_callF h_nearest rfl rfl (hr.mono (by decide)) tk (by rfl) (pa_cons (pv 0) (pa_cons (pv 2) pa_nil))))
    (pss_one (ps_ret (pe_or (pe_cmpR (or_is) (pv 3) pe_non (nomark _)) (pe_one (pe_cmpR (or_gt) (pe_ix (ix_D rfl) (pv 3) pe_int (fun _ _ => rfl)) (pe_op (or_mul) pe_int (pv 1)) (nomark _))))))))
abbrev s_decoded : Stmt := topS 19
abbrev N_decoded : List Str := ["things", "lies", "questions", "answers", "found", "thing", "k"]
theorem sc_decoded : FnScope N_decoded ["things", "lies", "questions", "answers"] (defScope s_decoded) := ⟨rfl, rfl, rfl, by decide +kernel, rfl, by decide +kernel, by decide +kernel⟩
theorem fk_decoded {P : Program} {mg : Str → Option Value} {base : Heap} {G : Ctx} (T : Tx G mg) (F : DefAt G mg "decoded" "decoded" s_decoded ["things", "lies", "questions", "answers"]) (h_look_all : FnF P G mg base 2 "look_all" ["things", "lies", "questions"] S_look_all) : FnF P G mg base 3 "decoded" ["things", "lies", "questions", "answers"] S_decoded := by
    refine fnF_mk (k := 2) F sc_decoded len_decoded (sem_decoded G) (fun f cdv A outer s H E hr => ?_)
    have tk := takes_of (X := cxOf (L2.CX P G.w) P G.w G.K mg base N_decoded "decoded" (defScope s_decoded) f cdv A outer s H E) (E := E) rfl rfl rfl rfl
    have po := passes_of (X := cxOf (L2.CX P G.w) P G.w G.K mg base N_decoded "decoded" (defScope s_decoded) f cdv A outer s H E) rfl
    exact (pss_cons (ps_expr (pe_callF h_look_all rfl rfl (hr.mono (by decide)) tk (by rfl) (pa_cons (pv 0) (pa_cons (pv 1) (pa_cons (pv 2) pa_nil)))))
    (pss_cons (ps_if (pt_cmpR (or_ne hr.units) (pe_callB (cr_len rfl) (by rfl) T.b_len PySem.boot_len (pa_cons (pv 3) pa_nil)) (pe_callB (cr_len rfl) (by rfl) T.b_len PySem.boot_len (pa_cons (pv 2) pa_nil)) (nomark _)) (pss_one (ps_raiseE rfl tk rfl T.e_question rfl)) pss_nil)
    (pss_cons (ps_set (i := 4) sc_decoded.nd rfl (Or.inl rfl) (pe_lst pa_nil))
    (pss_cons (ps_for po rfl (pi_range1 rfl T.b_range (pa_cons (pv 0) pa_nil)) (pg_name (i := 5) sc_decoded.nd rfl (Or.inr rfl)) (pss_one (ps_if (pt_cmpR (or_le) (pe_callB (cr_len rfl) (by rfl) T.b_len PySem.boot_len (pa_cons (pe_lc (own := [("k", 6)]) (by rfl) sc_decoded.nd (pi_range1 rfl T.b_range (pa_cons (pe_callB (cr_len rfl) (by rfl) T.b_len PySem.boot_len (pa_cons (pv 3) pa_nil)) pa_nil)) (blkOk_by (own := [("k", 6)]) (N := N_decoded) (sc := defScope s_decoded) (by decide +kernel)) (fun _ _ _ _ _ => (pg_name (i := 6) sc_decoded.nd rfl (Or.inl rfl))) (fun _ _ _ _ _ => (pts_one (pt_cmpR (or_ne hr.units) (pe_cmpR (or_in (Room.u65 hr)) (pv 5) (pe_ix (ix_D rfl) (pv 2) (pv 6) (fun _ _ => rfl)) (by rfl)) (pe_ix (ix_D rfl) (pv 3) (pv 6) (fun _ _ => rfl)) (nomark _)))) (fun _ _ _ _ _ => (pv 6))) pa_nil)) (pv 1) (nomark _)) (pss_one (ps_expr (pe_bm PySem.F.plainAttrs_list PySem.F.slot_list_append PySem.F.type_list_append (mt_appendD) (pv 4) (pa_cons (pv 5) pa_nil)))) pss_nil)))
    (pss_one (ps_ret (pv 4)))))))
abbrev s_look_few : Stmt := topS 22
abbrev N_look_few : List Str := ["things", "lies", "questions"]
theorem sc_look_few : FnScope N_look_few ["things", "lies", "questions"] (defScope s_look_few) := ⟨rfl, rfl, rfl, by decide +kernel, rfl, by decide +kernel, by decide +kernel⟩
theorem fk_look_few {P : Program} {mg : Str → Option Value} {base : Heap} {G : Ctx} (T : Tx G mg) (F : DefAt G mg "look_few" "look_few" s_look_few ["things", "lies", "questions"]) (h_look_all : FnF P G mg base 2 "look_all" ["things", "lies", "questions"] S_look_all) : FnF P G mg base 3 "look_few" ["things", "lies", "questions"] S_look_few := by
    refine fnF_mk (k := 2) F sc_look_few len_look_few (sem_look_few G) (fun f cdv A outer s H E hr => ?_)
    have tk := takes_of (X := cxOf (L2.CX P G.w) P G.w G.K mg base N_look_few "look_few" (defScope s_look_few) f cdv A outer s H E) (E := E) rfl rfl rfl rfl
    have po := passes_of (X := cxOf (L2.CX P G.w) P G.w G.K mg base N_look_few "look_few" (defScope s_look_few) f cdv A outer s H E) rfl
    exact (pss_cons (ps_expr (pe_callF h_look_all rfl rfl (hr.mono (by decide)) tk (by rfl) (pa_cons (pv 0) (pa_cons (pv 1) (pa_cons (pv 2) pa_nil)))))
    (pss_one (ps_if (pt_cmpR (or_gt) (pe_callB (cr_len rfl) (by rfl) T.b_len PySem.boot_len (pa_cons (pv 2) pa_nil)) (pe_globI T.c_MOST_ANSWERED rfl) (nomark _)) (pss_one (ps_raiseE rfl tk rfl T.e_question rfl)) pss_nil)))
abbrev s_all_answers : Stmt := topS 23
abbrev N_all_answers : List Str := ["many", "found", "k", "longer", "row"]
theorem sc_all_answers : FnScope N_all_answers ["many"] (defScope s_all_answers) := ⟨rfl, rfl, rfl, by decide +kernel, rfl, by decide +kernel, by decide +kernel⟩
theorem fk_all_answers {P : Program} {mg : Str → Option Value} {base : Heap} {G : Ctx} (T : Tx G mg) (F : DefAt G mg "all_answers" "all_answers" s_all_answers ["many"]) : FnF P G mg base 1 "all_answers" ["many"] S_all_answers := by
    refine fnF_mk (k := 0) F sc_all_answers len_all_answers (sem_all_answers G) (fun f cdv A outer s H E hr => ?_)
    have tk := takes_of (X := cxOf (L2.CX P G.w) P G.w G.K mg base N_all_answers "all_answers" (defScope s_all_answers) f cdv A outer s H E) (E := E) rfl rfl rfl rfl
    have po := passes_of (X := cxOf (L2.CX P G.w) P G.w G.K mg base N_all_answers "all_answers" (defScope s_all_answers) f cdv A outer s H E) rfl
    exact (pss_cons (ps_set (i := 1) sc_all_answers.nd rfl (Or.inl rfl) (pe_lst (pa_cons (pe_lst pa_nil) pa_nil)))
    (pss_cons (ps_for po rfl (pi_range1 rfl T.b_range (pa_cons (pv 0) pa_nil)) (pg_name (i := 2) sc_all_answers.nd rfl (Or.inl rfl)) (pss_cons (ps_set (i := 3) sc_all_answers.nd rfl (Or.inl rfl) (pe_lst pa_nil))
    (pss_cons (ps_for po rfl (pi_list (pv 1)) (pg_name (i := 4) sc_all_answers.nd rfl (Or.inl rfl)) (pss_one (ps_expr (pe_bm PySem.F.plainAttrs_list PySem.F.slot_list_extend PySem.F.type_list_extend (mt_extendD) (pv 3) (pa_cons (pe_lst (pa_cons (pe_op (or_add rfl) (pv 4) (pe_lst (pa_cons pe_bl pa_nil))) (pa_cons (pe_op (or_add rfl) (pv 4) (pe_lst (pa_cons pe_bl pa_nil))) pa_nil))) pa_nil)))))
    (pss_one (ps_set (i := 1) sc_all_answers.nd rfl (Or.inl rfl) (pv 3))))))
    (pss_one (ps_ret (pv 1)))))
abbrev s_rows_of : Stmt := topS 24
abbrev N_rows_of : List Str := ["things", "lies", "questions", "thing", "row"]
theorem sc_rows_of : FnScope N_rows_of ["things", "lies", "questions", "thing"] (defScope s_rows_of) := ⟨rfl, rfl, rfl, by decide +kernel, rfl, by decide +kernel, by decide +kernel⟩
theorem fk_rows_of {P : Program} {mg : Str → Option Value} {base : Heap} {G : Ctx} (T : Tx G mg) (F : DefAt G mg "rows_of" "rows_of" s_rows_of ["things", "lies", "questions", "thing"]) (h_look_few : FnF P G mg base 3 "look_few" ["things", "lies", "questions"] S_look_few) (h_all_answers : FnF P G mg base 1 "all_answers" ["many"] S_all_answers) (h_decoded : FnF P G mg base 3 "decoded" ["things", "lies", "questions", "answers"] S_decoded) : FnF P G mg base 4 "rows_of" ["things", "lies", "questions", "thing"] S_rows_of := by
    refine fnF_mk (k := 3) F sc_rows_of len_rows_of (sem_rows_of G) (fun f cdv A outer s H E hr => ?_)
    have tk := takes_of (X := cxOf (L2.CX P G.w) P G.w G.K mg base N_rows_of "rows_of" (defScope s_rows_of) f cdv A outer s H E) (E := E) rfl rfl rfl rfl
    have po := passes_of (X := cxOf (L2.CX P G.w) P G.w G.K mg base N_rows_of "rows_of" (defScope s_rows_of) f cdv A outer s H E) rfl
    exact (pss_cons (ps_expr (pe_callF h_look_few rfl rfl (hr.mono (by decide)) tk (by rfl) (pa_cons (pv 0) (pa_cons (pv 1) (pa_cons (pv 2) pa_nil)))))
    (pss_cons (ps_if (pt_not (pt_chain (or_le) (or_lt hr.units0) pe_int (pv 3) (pv 0))) (pss_one (ps_raiseE rfl tk rfl T.e_question rfl)) pss_nil)
    (pss_one (ps_ret (pe_lc (own := [("row", 4)]) (by rfl) sc_rows_of.nd (pi_list (pe_callF h_all_answers rfl rfl (hr.mono (by decide)) tk (by rfl) (pa_cons (pe_callB (cr_len rfl) (by rfl) T.b_len PySem.boot_len (pa_cons (pv 2) pa_nil)) pa_nil))) (blkOk_by (own := [("row", 4)]) (N := N_rows_of) (sc := defScope s_rows_of) (by decide +kernel)) (fun _ _ _ _ _ => (pg_name (i := 4) sc_rows_of.nd rfl (Or.inl rfl))) (fun _ _ _ _ _ => (pts_one (pt_cmpR (or_in (Room.u65 hr)) (pv 3) (pe_callF h_decoded rfl rfl (hr.mono (by decide)) takes0 (by rfl) (pa_cons (pv 0) (pa_cons (pv 1) (pa_cons (pv 2) (pa_cons (pv 4) pa_nil))))) (by rfl)))) (fun _ _ _ _ _ => (pv 4)))))))
abbrev s_spread : Stmt := topS 25
abbrev N_spread : List Str := ["things", "lies", "questions", "found", "row", "many"]
theorem sc_spread : FnScope N_spread ["things", "lies", "questions"] (defScope s_spread) := ⟨rfl, rfl, rfl, by decide +kernel, rfl, by decide +kernel, by decide +kernel⟩
theorem fk_spread {P : Program} {mg : Str → Option Value} {base : Heap} {G : Ctx} (T : Tx G mg) (F : DefAt G mg "spread" "spread" s_spread ["things", "lies", "questions"]) (h_look_few : FnF P G mg base 3 "look_few" ["things", "lies", "questions"] S_look_few) (h_all_answers : FnF P G mg base 1 "all_answers" ["many"] S_all_answers) (h_decoded : FnF P G mg base 3 "decoded" ["things", "lies", "questions", "answers"] S_decoded) : FnF P G mg base 4 "spread" ["things", "lies", "questions"] S_spread := by
    refine fnF_mk (k := 3) F sc_spread len_spread (sem_spread G) (fun f cdv A outer s H E hr => ?_)
    have tk := takes_of (X := cxOf (L2.CX P G.w) P G.w G.K mg base N_spread "spread" (defScope s_spread) f cdv A outer s H E) (E := E) rfl rfl rfl rfl
    have po := passes_of (X := cxOf (L2.CX P G.w) P G.w G.K mg base N_spread "spread" (defScope s_spread) f cdv A outer s H E) rfl
    exact (pss_cons (ps_expr (pe_callF h_look_few rfl rfl (hr.mono (by decide)) tk (by rfl) (pa_cons (pv 0) (pa_cons (pv 1) (pa_cons (pv 2) pa_nil)))))
    (pss_cons (ps_set (i := 3) sc_spread.nd rfl (Or.inl rfl) (pe_lst pa_nil))
    (pss_cons (ps_for po rfl (pi_list (pe_callF h_all_answers rfl rfl (hr.mono (by decide)) tk (by rfl) (pa_cons (pe_callB (cr_len rfl) (by rfl) T.b_len PySem.boot_len (pa_cons (pv 2) pa_nil)) pa_nil))) (pg_name (i := 4) sc_spread.nd rfl (Or.inl rfl)) (pss_cons (ps_set (i := 5) sc_spread.nd rfl (Or.inl rfl) (pe_callB (cr_len rfl) (by rfl) T.b_len PySem.boot_len (pa_cons (pe_callF h_decoded rfl rfl (hr.mono (by decide)) tk (by rfl) (pa_cons (pv 0) (pa_cons (pv 1) (pa_cons (pv 2) (pa_cons (pv 4) pa_nil))))) pa_nil)))
    (pss_cons (ps_while po (pt_cmpR (or_le) (pe_callB (cr_len rfl) (by rfl) T.b_len PySem.boot_len (pa_cons (pv 3) pa_nil)) (pv 5) (nomark _)) (pss_one (ps_expr (pe_bm PySem.F.plainAttrs_list PySem.F.slot_list_append PySem.F.type_list_append (mt_appendD) (pv 3) (pa_cons pe_int pa_nil)))))
    (pss_one (ps_asg (pe_op (or_add rfl) (pe_ix (ix_D rfl) (pv 3) (pv 5) (fun _ _ => rfl)) pe_int) (pg_sub (pv 3) (pv 5) set_list))))))
    (pss_one (ps_ret (pv 3))))))
abbrev s_is_full : Stmt := topS 26
abbrev N_is_full : List Str := ["things", "lies", "questions"]
theorem sc_is_full : FnScope N_is_full ["things", "lies", "questions"] (defScope s_is_full) := ⟨rfl, rfl, rfl, by decide +kernel, rfl, by decide +kernel, by decide +kernel⟩
theorem fk_is_full {P : Program} {mg : Str → Option Value} {base : Heap} {G : Ctx} (T : Tx G mg) (F : DefAt G mg "is_full" "is_full" s_is_full ["things", "lies", "questions"]) (h_look_few : FnF P G mg base 3 "look_few" ["things", "lies", "questions"] S_look_few) (h_works : FnF P G mg base 3 "works" ["things", "lies", "questions"] S_works) (h_spread : FnF P G mg base 4 "spread" ["things", "lies", "questions"] S_spread) : FnF P G mg base 5 "is_full" ["things", "lies", "questions"] S_is_full := by
    refine fnF_mk (k := 4) F sc_is_full len_is_full (sem_is_full G) (fun f cdv A outer s H E hr => ?_)
    have tk := takes_of (X := cxOf (L2.CX P G.w) P G.w G.K mg base N_is_full "is_full" (defScope s_is_full) f cdv A outer s H E) (E := E) rfl rfl rfl rfl
    have po := passes_of (X := cxOf (L2.CX P G.w) P G.w G.K mg base N_is_full "is_full" (defScope s_is_full) f cdv A outer s H E) rfl
    exact (pss_cons (ps_expr (pe_callF h_look_few rfl rfl (hr.mono (by decide)) tk (by rfl) (pa_cons (pv 0) (pa_cons (pv 1) (pa_cons (pv 2) pa_nil)))))
    (pss_one (ps_ret (pe_and (pe_callF h_works rfl rfl (hr.mono (by decide)) tk (by rfl) (pa_cons (pv 0) (pa_cons (pv 1) (pa_cons (pv 2) pa_nil)))) (pe_one (pe_cmpR (or_eq hr.units) (pe_ix (ix_D rfl) (pe_callF h_spread rfl rfl (hr.mono (by decide)) tk (by rfl) (pa_cons (pv 0) (pa_cons (pv 1) (pa_cons (pv 2) pa_nil)))) pe_int (fun _ _ => rfl)) pe_int (nomark _)))))))
abbrev s_word_of : Stmt := topS 27
abbrev N_word_of : List Str := ["questions", "thing", "question"]
theorem sc_word_of : FnScope N_word_of ["questions", "thing"] (defScope s_word_of) := ⟨rfl, rfl, rfl, by decide +kernel, rfl, by decide +kernel, by decide +kernel⟩
theorem fk_word_of {P : Program} {mg : Str → Option Value} {base : Heap} {G : Ctx} (T : Tx G mg) (F : DefAt G mg "word_of" "word_of" s_word_of ["questions", "thing"]) : FnF P G mg base 1 "word_of" ["questions", "thing"] S_word_of := by
    refine fnF_mk (k := 0) F sc_word_of len_word_of (sem_word_of G) (fun f cdv A outer s H E hr => ?_)
    have tk := takes_of (X := cxOf (L2.CX P G.w) P G.w G.K mg base N_word_of "word_of" (defScope s_word_of) f cdv A outer s H E) (E := E) rfl rfl rfl rfl
    have po := passes_of (X := cxOf (L2.CX P G.w) P G.w G.K mg base N_word_of "word_of" (defScope s_word_of) f cdv A outer s H E) rfl
    exact (pss_one (ps_ret (pe_lc (own := [("question", 2)]) (by rfl) sc_word_of.nd (pi_list (pv 0)) (blkOk_by (own := [("question", 2)]) (N := N_word_of) (sc := defScope s_word_of) (by decide +kernel)) (fun _ _ _ _ _ => (pg_name (i := 2) sc_word_of.nd rfl (Or.inl rfl))) (fun _ _ _ _ _ => pts_nil) (fun _ _ _ _ _ => (pe_cmpR (or_in (Room.u65 hr)) (pv 1) (pv 2) (by rfl))))))
abbrev s_nearest_things : Stmt := topS 28
abbrev N_nearest_things : List Str := ["things", "lies", "questions", "answers", "best", "thing", "word", "lied", "k"]
theorem sc_nearest_things : FnScope N_nearest_things ["things", "lies", "questions", "answers"] (defScope s_nearest_things) := ⟨rfl, rfl, rfl, by decide +kernel, rfl, by decide +kernel, by decide +kernel⟩
theorem fk_nearest_things {P : Program} {mg : Str → Option Value} {base : Heap} {G : Ctx} (T : Tx G mg) (F : DefAt G mg "nearest_things" "nearest_things" s_nearest_things ["things", "lies", "questions", "answers"]) (h_look_all : FnF P G mg base 2 "look_all" ["things", "lies", "questions"] S_look_all) (h_word_of : FnF P G mg base 1 "word_of" ["questions", "thing"] S_word_of) : FnF P G mg base 3 "nearest_things" ["things", "lies", "questions", "answers"] S_nearest_things := by
    refine fnF_mk (k := 2) F sc_nearest_things len_nearest_things (sem_nearest_things G) (fun f cdv A outer s H E hr => ?_)
    have tk := takes_of (X := cxOf (L2.CX P G.w) P G.w G.K mg base N_nearest_things "nearest_things" (defScope s_nearest_things) f cdv A outer s H E) (E := E) rfl rfl rfl rfl
    have po := passes_of (X := cxOf (L2.CX P G.w) P G.w G.K mg base N_nearest_things "nearest_things" (defScope s_nearest_things) f cdv A outer s H E) rfl
    exact (pss_cons (ps_expr (pe_callF h_look_all rfl rfl (hr.mono (by decide)) tk (by rfl) (pa_cons (pv 0) (pa_cons (pv 1) (pa_cons (pv 2) pa_nil)))))
    (pss_cons (ps_if (pt_cmpR (or_ne hr.units) (pe_callB (cr_len rfl) (by rfl) T.b_len PySem.boot_len (pa_cons (pv 3) pa_nil)) (pe_callB (cr_len rfl) (by rfl) T.b_len PySem.boot_len (pa_cons (pv 2) pa_nil)) (nomark _)) (pss_one (ps_raiseE rfl tk rfl T.e_question rfl)) pss_nil)
    (pss_cons (ps_set (i := 4) sc_nearest_things.nd rfl (Or.inl rfl) pe_non)
    (pss_cons (ps_for po rfl (pi_range1 rfl T.b_range (pa_cons (pv 0) pa_nil)) (pg_name (i := 5) sc_nearest_things.nd rfl (Or.inl rfl)) (pss_cons (ps_set (i := 6) sc_nearest_things.nd rfl (Or.inr rfl) (pe_callF h_word_of rfl rfl (hr.mono (by decide)) tk (by rfl) (pa_cons (pv 2) (pa_cons (pv 5) pa_nil))))
    (pss_cons (ps_set (i := 7) sc_nearest_things.nd rfl (Or.inl rfl) (pe_callB (cr_len rfl) (by rfl) T.b_len PySem.boot_len (pa_cons (pe_lc (own := [("k", 8)]) (by rfl) sc_nearest_things.nd (pi_range1 rfl T.b_range (pa_cons (pe_callB (cr_len rfl) (by rfl) T.b_len PySem.boot_len (pa_cons (pv 3) pa_nil)) pa_nil)) (blkOk_by (own := [("k", 8)]) (N := N_nearest_things) (sc := defScope s_nearest_things) (by decide +kernel)) (fun _ _ _ _ _ => (pg_name (i := 8) sc_nearest_things.nd rfl (Or.inl rfl))) (fun _ _ _ _ _ => (pts_one (pt_cmpR (or_ne hr.units) (pe_ix (ix_D rfl) (pv 6) (pv 8) (fun _ _ => rfl)) (pe_ix (ix_D rfl) (pv 3) (pv 8) (fun _ _ => rfl)) (nomark _)))) (fun _ _ _ _ _ => (pv 8))) pa_nil)))
    (pss_one (ps_if (PW.pt (pw_or (pt_cmpR (or_is) (pv 4) pe_non (nomark _)) (pw_or1 (pt_cmpR (or_lt hr.units0) (pv 7) (pe_ix ix_T (pv 4) pe_int (fun _ _ => rfl)) (nomark _))))) (pss_one (ps_set (i := 4) sc_nearest_things.nd rfl (Or.inl rfl) (pe_tup (pa_cons (pe_lst (pa_cons (pv 5) pa_nil)) (pa_cons (pv 7) pa_nil))))) (pss_one (ps_if (pt_cmpR (or_eq hr.units) (pv 7) (pe_ix ix_T (pv 4) pe_int (fun _ _ => rfl)) (nomark _)) (pss_one (ps_expr (pe_bm PySem.F.plainAttrs_list PySem.F.slot_list_append PySem.F.type_list_append (mt_appendD) (pe_ix ix_T (pv 4) pe_int (fun _ _ => rfl)) (pa_cons (pv 5) pa_nil)))) pss_nil)))))))
    (pss_one (ps_ret (pv 4)))))))
abbrev s_law_cell : Stmt := topS 30
abbrev N_law_cell : List Str := ["script", "k"]
theorem sc_law_cell : FnScope N_law_cell ["script", "k"] (defScope s_law_cell) := ⟨rfl, rfl, rfl, by decide +kernel, rfl, by decide +kernel, by decide +kernel⟩
theorem fk_law_cell {P : Program} {mg : Str → Option Value} {base : Heap} {G : Ctx} (T : Tx G mg) (F : DefAt G mg "_law_cell" "_law_cell" s_law_cell ["script", "k"]) : FnF P G mg base 1 "_law_cell" ["script", "k"] S_law_cell := by
    refine fnF_mk (k := 0) F sc_law_cell len_law_cell (sem_law_cell G) (fun f cdv A outer s H E hr => ?_)
    have tk := takes_of (X := cxOf (L2.CX P G.w) P G.w G.K mg base N_law_cell "_law_cell" (defScope s_law_cell) f cdv A outer s H E) (E := E) rfl rfl rfl rfl
    have po := passes_of (X := cxOf (L2.CX P G.w) P G.w G.K mg base N_law_cell "_law_cell" (defScope s_law_cell) f cdv A outer s H E) rfl
    exact (pss_cons (ps_if (pt_truD (pv 0)) (pss_one (ps_ret (pe_ix (ix_D rfl) (pv 0) (pe_op (or_mod) (pv 1) (pe_callB (cr_len rfl) (by rfl) T.b_len PySem.boot_len (pa_cons (pv 0) pa_nil))) (fun _ _ => rfl)))) pss_nil)
    (pss_one (ps_ret pe_int)))
abbrev s_law_mix : Stmt := topS 31
abbrev N_law_mix : List Str := ["script", "k", "number"]
theorem sc_law_mix : FnScope N_law_mix ["script", "k"] (defScope s_law_mix) := ⟨rfl, rfl, rfl, by decide +kernel, rfl, by decide +kernel, by decide +kernel⟩
theorem fk_law_mix {P : Program} {mg : Str → Option Value} {base : Heap} {G : Ctx} (T : Tx G mg) (F : DefAt G mg "_law_mix" "_law_mix" s_law_mix ["script", "k"]) (h_law_cell : FnF P G mg base 1 "_law_cell" ["script", "k"] S_law_cell) : FnF P G mg base 2 "_law_mix" ["script", "k"] S_law_mix := by
    refine fnF_mk (k := 1) F sc_law_mix len_law_mix (sem_law_mix G) (fun f cdv A outer s H E hr => ?_)
    have tk := takes_of (X := cxOf (L2.CX P G.w) P G.w G.K mg base N_law_mix "_law_mix" (defScope s_law_mix) f cdv A outer s H E) (E := E) rfl rfl rfl rfl
    have po := passes_of (X := cxOf (L2.CX P G.w) P G.w G.K mg base N_law_mix "_law_mix" (defScope s_law_mix) f cdv A outer s H E) rfl
    exact (pss_cons (ps_set (i := 2) sc_law_mix.nd rfl (Or.inl rfl) (pe_op (or_mod) (pe_op (or_add rfl) (pe_callF h_law_cell rfl rfl (hr.mono (by decide)) tk (by rfl) (pa_cons (pv 0) (pa_cons (pv 1) pa_nil))) (pe_op (or_mul) pe_int (pe_op (or_add rfl) (pv 1) pe_int))) pe_int))
    (pss_cons (ps_set (i := 2) sc_law_mix.nd rfl (Or.inl rfl) (pe_op (or_mod) (pe_op (or_pow) (pv 2) pe_int) pe_int))
    (pss_one (ps_ret (pe_op (or_mod) (pe_op (or_add rfl) (pe_op (or_mul) (pe_op (or_div) (pv 2) pe_int) pe_int) (pv 2)) pe_int)))))
abbrev s_law_whole : Stmt := topS 32
abbrev N_law_whole : List Str := ["found"]
theorem sc_law_whole : FnScope N_law_whole ["found"] (defScope s_law_whole) := ⟨rfl, rfl, rfl, by decide +kernel, rfl, by decide +kernel, by decide +kernel⟩
theorem fk_law_whole {P : Program} {mg : Str → Option Value} {base : Heap} {G : Ctx} (T : Tx G mg) (F : DefAt G mg "_law_whole" "_law_whole" s_law_whole ["found"]) : FnF P G mg base 1 "_law_whole" ["found"] S_law_whole := by
    refine fnF_mk (k := 0) F sc_law_whole len_law_whole (sem_law_whole G) (fun f cdv A outer s H E hr => ?_)
    have tk := takes_of (X := cxOf (L2.CX P G.w) P G.w G.K mg base N_law_whole "_law_whole" (defScope s_law_whole) f cdv A outer s H E) (E := E) rfl rfl rfl rfl
    have po := passes_of (X := cxOf (L2.CX P G.w) P G.w G.K mg base N_law_whole "_law_whole" (defScope s_law_whole) f cdv A outer s H E) rfl
    exact (pss_one (ps_ret (pe_and (pe_callB (cr_isB rfl) (by rfl) T.b_isinstance bt_isinstance (pa_cons (pv 0) (pa_cons (pe_bltn (by rfl) T.b_int bt_int rfl) pa_nil))) (pe_one (pe_not (pe_callB (cr_isB rfl) (by rfl) T.b_isinstance bt_isinstance (pa_cons (pv 0) (pa_cons (pe_bltn (by rfl) T.b_bool bt_bool rfl) pa_nil))))))))
abbrev s_law_question : Stmt := topS 33
abbrev N_law_question : List Str := ["script", "k", "things", "found", "way", "thing", "number"]
theorem sc_law_question : FnScope N_law_question ["script", "k", "things"] (defScope s_law_question) := ⟨rfl, rfl, rfl, by decide +kernel, rfl, by decide +kernel, by decide +kernel⟩
theorem fk_law_question {P : Program} {mg : Str → Option Value} {base : Heap} {G : Ctx} (T : Tx G mg) (F : DefAt G mg "_law_question" "_law_question" s_law_question ["script", "k", "things"]) (h_law_mix : FnF P G mg base 2 "_law_mix" ["script", "k"] S_law_mix) : FnF P G mg base 3 "_law_question" ["script", "k", "things"] S_law_question := by
    refine fnF_mk (k := 2) F sc_law_question len_law_question (sem_law_question G) (fun f cdv A outer s H E hr => ?_)
    have tk := takes_of (X := cxOf (L2.CX P G.w) P G.w G.K mg base N_law_question "_law_question" (defScope s_law_question) f cdv A outer s H E) (E := E) rfl rfl rfl rfl
    have po := passes_of (X := cxOf (L2.CX P G.w) P G.w G.K mg base N_law_question "_law_question" (defScope s_law_question) f cdv A outer s H E) rfl
    exact (pss_cons (ps_set (i := 3) sc_law_question.nd rfl (Or.inl rfl) (pe_lst pa_nil))
    (pss_cons (ps_set (i := 4) sc_law_question.nd rfl (Or.inl rfl) (pe_op (or_mod) (pe_callF h_law_mix rfl rfl (hr.mono (by decide)) tk (by rfl) (pa_cons (pv 0) (pa_cons (pv 1) pa_nil))) pe_int))
    (pss_cons (ps_for po rfl (pi_range1 rfl T.b_range (pa_cons (pv 2) pa_nil)) (pg_name (i := 5) sc_law_question.nd rfl (Or.inl rfl)) (pss_cons (ps_set (i := 6) sc_law_question.nd rfl (Or.inl rfl) (pe_callF h_law_mix rfl rfl (hr.mono (by decide)) tk (by rfl) (pa_cons (pv 0) (pa_cons (pe_op (or_add rfl) (pe_op (or_add rfl) (pv 1) pe_int) (pv 5)) pa_nil))))
    (pss_one (ps_if (PW.pt (pw_or (PW.pt (pw_and (pt_cmpR (or_eq hr.units) (pv 4) pe_int (nomark _)) (pw_and1 (pt_cmpR (or_eq hr.units) (pe_op (or_mod) (pv 6) pe_int) pe_int (nomark _))))) (pw_or1 (PW.pt (pw_and (pt_cmpR (or_gt) (pv 4) pe_int (nomark _)) (pw_and1 (pt_cmpR (or_eq hr.units) (pe_op (or_mod) (pe_op (or_div) (pv 6) pe_int) pe_int) pe_int (nomark _)))))))) (pss_one (ps_expr (pe_bm PySem.F.plainAttrs_list PySem.F.slot_list_append PySem.F.type_list_append (mt_appendD) (pv 3) (pa_cons (pv 5) pa_nil)))) pss_nil))))
    (pss_one (ps_ret (pv 3))))))
abbrev s_law_ways : Stmt := topS 34
abbrev N_law_ways : List Str := ["many", "most", "rows", "k", "last", "j"]
theorem sc_law_ways : FnScope N_law_ways ["many", "most"] (defScope s_law_ways) := ⟨rfl, rfl, rfl, by decide +kernel, rfl, by decide +kernel, by decide +kernel⟩
theorem fk_law_ways {P : Program} {mg : Str → Option Value} {base : Heap} {G : Ctx} (T : Tx G mg) (F : DefAt G mg "_law_ways" "_law_ways" s_law_ways ["many", "most"]) : FnF P G mg base 1 "_law_ways" ["many", "most"] S_law_ways := by
    refine fnF_mk (k := 0) F sc_law_ways len_law_ways (sem_law_ways G) (fun f cdv A outer s H E hr => ?_)
    have tk := takes_of (X := cxOf (L2.CX P G.w) P G.w G.K mg base N_law_ways "_law_ways" (defScope s_law_ways) f cdv A outer s H E) (E := E) rfl rfl rfl rfl
    have po := passes_of (X := cxOf (L2.CX P G.w) P G.w G.K mg base N_law_ways "_law_ways" (defScope s_law_ways) f cdv A outer s H E) rfl
    exact (pss_cons (ps_set (i := 2) sc_law_ways.nd rfl (Or.inl rfl) (pe_lst (pa_cons (pe_op (or_add rfl) (pe_lst (pa_cons pe_int pa_nil)) (pe_op (or_mul) (pe_lst (pa_cons pe_int pa_nil)) (pv 1))) pa_nil)))
    (pss_cons (ps_for po rfl (pi_range1 rfl T.b_range (pa_cons (pv 0) pa_nil)) (pg_name (i := 3) sc_law_ways.nd rfl (Or.inl rfl)) (pss_cons (ps_set (i := 4) sc_law_ways.nd rfl (Or.inr rfl) (pe_ix (ix_D rfl) (pv 2) (pe_un ur_neg pe_int) (fun _ _ => rfl)))
    (pss_one (ps_expr (pe_bm PySem.F.plainAttrs_list PySem.F.slot_list_append PySem.F.type_list_append (mt_appendD) (pv 2) (pa_cons (pe_lc (own := [("j", 5)]) (by rfl) sc_law_ways.nd (pi_range1 rfl T.b_range (pa_cons (pe_op (or_add rfl) (pv 1) pe_int) pa_nil)) (blkOk_by (own := [("j", 5)]) (N := N_law_ways) (sc := defScope s_law_ways) (by decide +kernel)) (fun _ _ _ _ _ => (pg_name (i := 5) sc_law_ways.nd rfl (Or.inl rfl))) (fun _ _ _ _ _ => pts_nil) (fun _ _ _ _ _ => (pe_op (or_add rfl) (pe_ix (ix_D rfl) (pv 4) (pv 5) (fun _ _ => rfl)) (pe_ifExp (pt_cmpR (or_gt) (pv 5) pe_int (nomark _)) (pe_ix (ix_D rfl) (pv 4) (pe_op (or_sub) (pv 5) pe_int) (fun _ _ => rfl)) pe_int)))) pa_nil))))))
    (pss_one (ps_ret (pe_callB (cr_sumD rfl) (by rfl) T.b_sum bt_sum (pa_cons (pe_ix (ix_D rfl) (pv 2) (pe_un ur_neg pe_int) (fun _ _ => rfl)) pa_nil))))))
abbrev s_law_refusal : Stmt := topS 35
abbrev N_law_refusal : List Str := ["kept", "kinds"]
theorem sc_law_refusal : FnScope N_law_refusal ["kept"] (defScope s_law_refusal) := ⟨rfl, rfl, rfl, by decide +kernel, rfl, by decide +kernel, by decide +kernel⟩
theorem fk_law_refusal {P : Program} {mg : Str → Option Value} {base : Heap} {G : Ctx} (T : Tx G mg) (F : DefAt G mg "_law_refusal" "_law_refusal" s_law_refusal ["kept"]) : FnF P G mg base 1 "_law_refusal" ["kept"] S_law_refusal := by
    refine fnF_mk (k := 0) F sc_law_refusal len_law_refusal (sem_law_refusal G) (fun f cdv A outer s H E hr => ?_)
    have tk := takes_of (X := cxOf (L2.CX P G.w) P G.w G.K mg base N_law_refusal "_law_refusal" (defScope s_law_refusal) f cdv A outer s H E) (E := E) rfl rfl rfl rfl
    have po := passes_of (X := cxOf (L2.CX P G.w) P G.w G.K mg base N_law_refusal "_law_refusal" (defScope s_law_refusal) f cdv A outer s H E) rfl
    exact (pss_cons (ps_if (pt_cmpR (or_is) (pv 0) pe_non (nomark _)) (pss_one (ps_ret pe_str)) pss_nil)
    (pss_cons (ps_set (i := 1) sc_law_refusal.nd rfl (Or.inl rfl) (pe_lst (pa_cons (pe_callB (cr_isE rfl T.exc .counts T.e_counts.h) (by rfl) T.b_isinstance bt_isinstance (pa_cons (pv 0) (pa_cons (pe_glob rfl T.e_counts.g rfl) pa_nil))) (pa_cons (pe_callB (cr_isE rfl T.exc .game T.e_game.h) (by rfl) T.b_isinstance bt_isinstance (pa_cons (pv 0) (pa_cons (pe_glob rfl T.e_game.g rfl) pa_nil))) (pa_cons (pe_callB (cr_isE rfl T.exc .plan T.e_plan.h) (by rfl) T.b_isinstance bt_isinstance (pa_cons (pv 0) (pa_cons (pe_glob rfl T.e_plan.g rfl) pa_nil))) pa_nil)))))
    (pss_cons (ps_set (i := 1) sc_law_refusal.nd rfl (Or.inl rfl) (pe_op (or_add rfl) (pv 1) (pe_lst (pa_cons (pe_callB (cr_isE rfl T.exc .question T.e_question.h) (by rfl) T.b_isinstance bt_isinstance (pa_cons (pv 0) (pa_cons (pe_glob rfl T.e_question.g rfl) pa_nil))) (pa_cons (pe_callB (cr_isE rfl T.exc .text T.e_text.h) (by rfl) T.b_isinstance bt_isinstance (pa_cons (pv 0) (pa_cons (pe_glob rfl T.e_text.g rfl) pa_nil))) (pa_cons (pe_callB (cr_isE rfl T.exc .liar T.e_liar.h) (by rfl) T.b_isinstance bt_isinstance (pa_cons (pv 0) (pa_cons (pe_glob rfl T.e_liar.g rfl) pa_nil))) pa_nil))))))
    (pss_cons (ps_if (PW.pt (pw_or (pt_cmpR (or_ne hr.units) (pe_bm PySem.F.plainAttrs_list PySem.F.slot_list_count PySem.F.type_list_count (mt_countD (Room.u65 hr)) (pv 1) (pa_cons pe_bl pa_nil)) pe_int (nomark _)) (pw_or1 (pt_not (pt_truD (pe_callB (cr_isV rfl T.exc) (by rfl) T.b_isinstance bt_isinstance (pa_cons (pv 0) (pa_cons (pe_bltn (by rfl) T.b_ValueError bt_ValueError rfl) pa_nil)))))))) (pss_one (ps_ret pe_str)) pss_nil)
    (pss_one (ps_ret (pe_ix (ix_D rfl) (pe_lst (pa_cons pe_str (pa_cons pe_str (pa_cons pe_str (pa_cons pe_str (pa_cons pe_str (pa_cons pe_str pa_nil))))))) (pe_bm PySem.F.plainAttrs_list PySem.F.slot_list_index PySem.F.type_list_index (mt_indexF (Room.u65 hr)) (pv 1) (pa_cons pe_bl pa_nil)) (fun _ _ => rfl))))))))
abbrev s_law_told : Stmt := topS 36
abbrev N_law_told : List Str := ["way", "things", "lies", "questions", "extra", "kept", "found", "e"]
theorem sc_law_told : FnScope N_law_told ["way", "things", "lies", "questions", "extra"] (defScope s_law_told) := ⟨rfl, rfl, rfl, by decide +kernel, rfl, by decide +kernel, by decide +kernel⟩
theorem fk_law_told {P : Program} {mg : Str → Option Value} {base : Heap} {G : Ctx} (T : Tx G mg) (F : DefAt G mg "_law_told" "_law_told" s_law_told ["way", "things", "lies", "questions", "extra"]) (h_spread : FnF P G mg base 4 "spread" ["things", "lies", "questions"] S_spread) (h_is_full : FnF P G mg base 5 "is_full" ["things", "lies", "questions"] S_is_full) (h_rows_of : FnF P G mg base 4 "rows_of" ["things", "lies", "questions", "thing"] S_rows_of) (h_nearest_things : FnF P G mg base 3 "nearest_things" ["things", "lies", "questions", "answers"] S_nearest_things) (h_law_refusal : FnF P G mg base 1 "_law_refusal" ["kept"] S_law_refusal) : FnF P G mg base 6 "_law_told" ["way", "things", "lies", "questions", "extra"] S_law_told := by
    refine fnF_mk (k := 5) F sc_law_told len_law_told (sem_law_told G T.xall) (fun f cdv A outer s H E hr => ?_)
    have tk := takes_of (X := cxOf (L2.CX P G.w) P G.w G.K mg base N_law_told "_law_told" (defScope s_law_told) f cdv A outer s H E) (E := E) rfl rfl rfl rfl
    have po := passes_of (X := cxOf (L2.CX P G.w) P G.w G.K mg base N_law_told "_law_told" (defScope s_law_told) f cdv A outer s H E) rfl
    exact (pss_cons (ps_set (i := 5) sc_law_told.nd rfl (Or.inl rfl) pe_non)
    (pss_cons (ps_set (i := 6) sc_law_told.nd rfl (Or.inl rfl) pe_non)
    (pss_cons (ps_tryK rfl rfl rfl sc_law_told.nd rfl rfl ⟨by rfl, by decide, .inl T.le⟩ (fun W1 pn1 xe1 tk1 po1 => (pss_one (ps_if (pt_cmpR (or_eq hr.units) (pv 0) pe_int (nomark _)) (pss_one (ps_set (i := 6) sc_law_told.nd rfl (Or.inl rfl) (pe_callF h_spread rfl rfl (hr.mono (by decide)) tk1 (by rfl) (pa_cons (pv 1) (pa_cons (pv 2) (pa_cons (pv 3) pa_nil)))))) (pss_one (ps_if (pt_cmpR (or_eq hr.units) (pv 0) pe_int (nomark _)) (pss_one (ps_set (i := 6) sc_law_told.nd rfl (Or.inl rfl) (pe_callF h_is_full rfl rfl (hr.mono (by decide)) tk1 (by rfl) (pa_cons (pv 1) (pa_cons (pv 2) (pa_cons (pv 3) pa_nil)))))) (pss_one (ps_if (pt_cmpR (or_eq hr.units) (pv 0) pe_int (nomark _)) (pss_one (ps_set (i := 6) sc_law_told.nd rfl (Or.inl rfl) (pe_callF h_rows_of rfl rfl (hr.mono (by decide)) tk1 (by rfl) (pa_cons (pv 1) (pa_cons (pv 2) (pa_cons (pv 3) (pa_cons (pv 4) pa_nil))))))) (pss_one (ps_set (i := 6) sc_law_told.nd rfl (Or.inl rfl) (pe_callF h_nearest_things rfl rfl (hr.mono (by decide)) tk1 (by rfl) (pa_cons (pv 1) (pa_cons (pv 2) (pa_cons (pv 3) (pa_cons (pv 4) pa_nil)))))))))))))) (fun a1 o1 pn1 => pss_one (ps_set (i := 5) sc_law_told.nd rfl (Or.inl rfl) (pv 7))))
    (pss_one (ps_ret (pe_ifExp (pt_cmpR (or_is) (pv 5) pe_non (nomark _)) (pv 6) (pe_callF h_law_refusal rfl rfl (hr.mono (by decide)) tk (by rfl) (pa_cons (pv 5) pa_nil))))))))
abbrev s_law_rows : Stmt := topS 37
abbrev N_law_rows : List Str := ["many", "found", "k", "later", "row"]
theorem sc_law_rows : FnScope N_law_rows ["many"] (defScope s_law_rows) := ⟨rfl, rfl, rfl, by decide +kernel, rfl, by decide +kernel, by decide +kernel⟩
theorem fk_law_rows {P : Program} {mg : Str → Option Value} {base : Heap} {G : Ctx} (T : Tx G mg) (F : DefAt G mg "_law_rows" "_law_rows" s_law_rows ["many"]) : FnF P G mg base 1 "_law_rows" ["many"] S_law_rows := by
    refine fnF_mk (k := 0) F sc_law_rows len_law_rows (sem_law_rows G) (fun f cdv A outer s H E hr => ?_)
    have tk := takes_of (X := cxOf (L2.CX P G.w) P G.w G.K mg base N_law_rows "_law_rows" (defScope s_law_rows) f cdv A outer s H E) (E := E) rfl rfl rfl rfl
    have po := passes_of (X := cxOf (L2.CX P G.w) P G.w G.K mg base N_law_rows "_law_rows" (defScope s_law_rows) f cdv A outer s H E) rfl
    exact (pss_cons (ps_set (i := 1) sc_law_rows.nd rfl (Or.inl rfl) (pe_lst (pa_cons (pe_lst pa_nil) pa_nil)))
    (pss_cons (ps_for po rfl (pi_range1 rfl T.b_range (pa_cons (pv 0) pa_nil)) (pg_name (i := 2) sc_law_rows.nd rfl (Or.inl rfl)) (pss_cons (ps_set (i := 3) sc_law_rows.nd rfl (Or.inl rfl) (pe_lst pa_nil))
    (pss_cons (ps_for po rfl (pi_list (pv 1)) (pg_name (i := 4) sc_law_rows.nd rfl (Or.inl rfl)) (pss_one (ps_set (i := 3) sc_law_rows.nd rfl (Or.inl rfl) (pe_op (or_add rfl) (pv 3) (pe_lst (pa_cons (pe_op (or_add rfl) (pv 4) (pe_lst (pa_cons pe_bl pa_nil))) (pa_cons (pe_op (or_add rfl) (pv 4) (pe_lst (pa_cons pe_bl pa_nil))) pa_nil)))))))
    (pss_one (ps_set (i := 1) sc_law_rows.nd rfl (Or.inl rfl) (pv 3))))))
    (pss_one (ps_ret (pv 1)))))
abbrev s_law_lied : Stmt := topS 38
abbrev N_law_lied : List Str := ["questions", "row", "thing", "k"]
theorem sc_law_lied : FnScope N_law_lied ["questions", "row", "thing"] (defScope s_law_lied) := ⟨rfl, rfl, rfl, by decide +kernel, rfl, by decide +kernel, by decide +kernel⟩
theorem fk_law_lied {P : Program} {mg : Str → Option Value} {base : Heap} {G : Ctx} (T : Tx G mg) (F : DefAt G mg "_law_lied" "_law_lied" s_law_lied ["questions", "row", "thing"]) : FnF P G mg base 1 "_law_lied" ["questions", "row", "thing"] S_law_lied := by
    refine fnF_mk (k := 0) F sc_law_lied len_law_lied (sem_law_lied G) (fun f cdv A outer s H E hr => ?_)
    have tk := takes_of (X := cxOf (L2.CX P G.w) P G.w G.K mg base N_law_lied "_law_lied" (defScope s_law_lied) f cdv A outer s H E) (E := E) rfl rfl rfl rfl
    have po := passes_of (X := cxOf (L2.CX P G.w) P G.w G.K mg base N_law_lied "_law_lied" (defScope s_law_lied) f cdv A outer s H E) rfl
    exact (pss_one (ps_ret (pe_callB (cr_len rfl) (by rfl) T.b_len PySem.boot_len (pa_cons (pe_lc (own := [("k", 3)]) (by rfl) sc_law_lied.nd (pi_range1 rfl T.b_range (pa_cons (pe_callB (cr_len rfl) (by rfl) T.b_len PySem.boot_len (pa_cons (pv 1) pa_nil)) pa_nil)) (blkOk_by (own := [("k", 3)]) (N := N_law_lied) (sc := defScope s_law_lied) (by decide +kernel)) (fun _ _ _ _ _ => (pg_name (i := 3) sc_law_lied.nd rfl (Or.inl rfl))) (fun _ _ _ _ _ => (pts_one (pt_cmpR (or_ne hr.units) (pe_cmpR (or_in (Room.u65 hr)) (pv 2) (pe_ix (ix_D rfl) (pv 0) (pv 3) (fun _ _ => rfl)) (by rfl)) (pe_ix (ix_D rfl) (pv 1) (pv 3) (fun _ _ => rfl)) (nomark _)))) (fun _ _ _ _ _ => (pv 3))) pa_nil))))
abbrev s_law_questions : Stmt := topS 39
abbrev N_law_questions : List Str := ["script", "things", "found", "k", "question", "thing"]
theorem sc_law_questions : FnScope N_law_questions ["script", "things"] (defScope s_law_questions) := ⟨rfl, rfl, rfl, by decide +kernel, rfl, by decide +kernel, by decide +kernel⟩
theorem fk_law_questions {P : Program} {mg : Str → Option Value} {base : Heap} {G : Ctx} (T : Tx G mg) (F : DefAt G mg "_law_questions" "_law_questions" s_law_questions ["script", "things"]) (h_law_mix : FnF P G mg base 2 "_law_mix" ["script", "k"] S_law_mix) (h_law_question : FnF P G mg base 3 "_law_question" ["script", "k", "things"] S_law_question) : FnF P G mg base 4 "_law_questions" ["script", "things"] S_law_questions := by
    refine fnF_mk (k := 3) F sc_law_questions len_law_questions (sem_law_questions G) (fun f cdv A outer s H E hr => ?_)
    have tk := takes_of (X := cxOf (L2.CX P G.w) P G.w G.K mg base N_law_questions "_law_questions" (defScope s_law_questions) f cdv A outer s H E) (E := E) rfl rfl rfl rfl
    have po := passes_of (X := cxOf (L2.CX P G.w) P G.w G.K mg base N_law_questions "_law_questions" (defScope s_law_questions) f cdv A outer s H E) rfl
    exact (pss_cons (ps_set (i := 2) sc_law_questions.nd rfl (Or.inr rfl) (pe_lst pa_nil))
    (pss_cons (ps_for po rfl (pi_range1 rfl T.b_range (pa_cons (pe_op (or_mod) (pe_callF h_law_mix rfl rfl (hr.mono (by decide)) tk (by rfl) (pa_cons (pv 0) (pa_cons pe_int pa_nil))) pe_int) pa_nil)) (pg_name (i := 3) sc_law_questions.nd rfl (Or.inl rfl)) (pss_cons (ps_set (i := 4) sc_law_questions.nd rfl (Or.inl rfl) (pe_callF h_law_question rfl rfl (hr.mono (by decide)) tk (by rfl) (pa_cons (pv 0) (pa_cons (pe_op (or_add rfl) pe_int (pe_op (or_mul) pe_int (pv 3))) (pa_cons (pv 1) pa_nil)))))
    (pss_cons (ps_if (PW.pt (pw_and (pt_truD (pv 2)) (pw_and1 (pt_cmpR (or_eq hr.units) (pe_op (or_mod) (pe_callF h_law_mix rfl rfl (hr.mono (by decide)) tk (by rfl) (pa_cons (pv 0) (pa_cons (pe_op (or_add rfl) pe_int (pv 3)) pa_nil))) pe_int) pe_int (nomark _))))) (pss_one (ps_setLc (i := 4) (own := [("thing", 5)]) (by rfl) sc_law_questions.nd rfl rfl (sw_true rfl rfl rfl (by decide +kernel)) (pi_range1 rfl T.b_range (pa_cons (pv 1) pa_nil)) (blkOk_by (own := [("thing", 5)]) (N := N_law_questions) (sc := defScope s_law_questions) (by decide +kernel)) (fun _ _ _ _ _ => (pg_name (i := 5) sc_law_questions.nd rfl (Or.inl rfl))) (fun _ _ _ _ _ => (pts_one (pt_cmpR (or_notin (Room.u65 hr)) (pv 5) (pe_ix (ix_D rfl) (pv 2) (pe_un ur_neg pe_int) (fun _ _ => rfl)) (by rfl)))) (fun _ _ _ _ _ => (pv 5)))) pss_nil)
    (pss_one (ps_expr (pe_bm PySem.F.plainAttrs_list PySem.F.slot_list_append PySem.F.type_list_append (mt_appendD) (pv 2) (pa_cons (pv 4) pa_nil)))))))
    (pss_one (ps_ret (pv 2)))))
abbrev s_law_refused : Stmt := topS 40
abbrev N_law_refused : List Str := ["things", "lies", "questions", "row", "found", "thing", "way"]
theorem sc_law_refused : FnScope N_law_refused ["things", "lies", "questions", "row"] (defScope s_law_refused) := ⟨rfl, rfl, rfl, by decide +kernel, rfl, by decide +kernel, by decide +kernel⟩
theorem fk_law_refused {P : Program} {mg : Str → Option Value} {base : Heap} {G : Ctx} (T : Tx G mg) (F : DefAt G mg "_law_refused" "_law_refused" s_law_refused ["things", "lies", "questions", "row"]) (h_law_told : FnF P G mg base 6 "_law_told" ["way", "things", "lies", "questions", "extra"] S_law_told) : FnF P G mg base 7 "_law_refused" ["things", "lies", "questions", "row"] S_law_refused := by
    refine fnF_mk (k := 6) F sc_law_refused len_law_refused (sem_law_refused G) (fun f cdv A outer s H E hr => ?_)
    have tk := takes_of (X := cxOf (L2.CX P G.w) P G.w G.K mg base N_law_refused "_law_refused" (defScope s_law_refused) f cdv A outer s H E) (E := E) rfl rfl rfl rfl
    have po := passes_of (X := cxOf (L2.CX P G.w) P G.w G.K mg base N_law_refused "_law_refused" (defScope s_law_refused) f cdv A outer s H E) rfl
    exact (pss_cons (ps_setLc (i := 4) (own := [("thing", 5)]) (by rfl) sc_law_refused.nd rfl rfl (sw_true rfl rfl rfl (by decide +kernel)) (pi_tup (pe_tup (pa_cons (pe_un ur_neg pe_int) (pa_cons (pv 0) pa_nil)))) (blkOk_by (own := [("thing", 5)]) (N := N_law_refused) (sc := defScope s_law_refused) (by decide +kernel)) (fun _ _ _ _ _ => (pg_name (i := 5) sc_law_refused.nd rfl (Or.inl rfl))) (fun _ _ _ _ _ => pts_nil) (fun _ _ _ _ _ => (pe_callF h_law_told rfl rfl (hr.mono (by decide)) takes0 (by rfl) (pa_cons pe_int (pa_cons (pv 0) (pa_cons (pv 1) (pa_cons (pv 2) (pa_cons (pv 5) pa_nil))))))))
    (pss_cons (ps_set (i := 4) sc_law_refused.nd rfl (Or.inl rfl) (pe_op (or_add rfl) (pv 4) (pe_lc (own := [("way", 6)]) (by rfl) sc_law_refused.nd (pi_range1 rfl T.b_range (pa_cons pe_int pa_nil)) (blkOk_by (own := [("way", 6)]) (N := N_law_refused) (sc := defScope s_law_refused) (by decide +kernel)) (fun _ _ _ _ _ => (pg_name (i := 6) sc_law_refused.nd rfl (Or.inl rfl))) (fun _ _ _ _ _ => pts_nil) (fun _ _ _ _ _ => (pe_callF h_law_told rfl rfl (hr.mono (by decide)) takes0 (by rfl) (pa_cons (pv 6) (pa_cons (pv 0) (pa_cons (pv 1) (pa_cons (pe_op (or_mul) (pe_lst (pa_cons (pe_lst (pa_cons pe_int pa_nil)) pa_nil)) pe_int) (pa_cons pe_int pa_nil))))))))))
    (pss_one (ps_ret (pe_op (or_add rfl) (pv 4) (pe_lst (pa_cons (pe_callF h_law_told rfl rfl (hr.mono (by decide)) tk (by rfl) (pa_cons pe_int (pa_cons (pv 0) (pa_cons (pv 1) (pa_cons (pv 2) (pa_cons (pe_op (or_add rfl) (pv 3) (pe_lst (pa_cons pe_bl pa_nil))) pa_nil)))))) (pa_cons (pe_callF h_law_told rfl rfl (hr.mono (by decide)) tk (by rfl) (pa_cons pe_int (pa_cons pe_int (pa_cons (pv 1) (pa_cons (pe_lst (pa_cons (pe_lst (pa_cons pe_int pa_nil)) pa_nil)) (pa_cons pe_int pa_nil)))))) pa_nil))))))))
abbrev s_law : Stmt := topS 41
abbrev N_law : List Str := ["script", "things", "lies", "questions", "rows", "many", "row", "due", "found", "thing", "mine", "good", "full", "some", "fewest", "k", "one"]
theorem sc_law : FnScope N_law ["script"] (defScope s_law) := ⟨rfl, rfl, rfl, by decide +kernel, rfl, by decide +kernel, by decide +kernel⟩
theorem fl_law {P : Program} {mg : Str → Option Value} {base : Heap} {G : Ctx} {f : Addr} {fd : FuncData} (T : Tx G mg) (F : Fun G.K "law" "law" s_law f fd) (h_law_mix : FnF P G mg base 2 "_law_mix" ["script", "k"] S_law_mix) (h_law_questions : FnF P G mg base 4 "_law_questions" ["script", "things"] S_law_questions) (h_law_rows : FnF P G mg base 1 "_law_rows" ["many"] S_law_rows) (h_law_lied : FnF P G mg base 1 "_law_lied" ["questions", "row", "thing"] S_law_lied) (h_law_told : FnF P G mg base 6 "_law_told" ["way", "things", "lies", "questions", "extra"] S_law_told) (h_law_whole : FnF P G mg base 1 "_law_whole" ["found"] S_law_whole) (h_works : FnF P G mg base 3 "works" ["things", "lies", "questions"] S_works) (h_law_ways : FnF P G mg base 1 "_law_ways" ["many", "most"] S_law_ways) (h_law_refused : FnF P G mg base 7 "_law_refused" ["things", "lies", "questions", "row"] S_law_refused) : FnOk P G.w G.K mg base (L2.CX P G.w) 8 f fd ["script"] (spL G S_law) := by
    refine fn_D (k := 7) F sc_law len_law (sem_law G) (fun cdv A outer s H E hr => ?_)
    have tk := takes_of (X := cxOf (L2.CX P G.w) P G.w G.K mg base N_law "law" (defScope s_law) f cdv A outer s H E) (E := E) rfl rfl rfl rfl
    have po := passes_of (X := cxOf (L2.CX P G.w) P G.w G.K mg base N_law "law" (defScope s_law) f cdv A outer s H E) rfl
    exact (pss_cons (ps_set (i := 1) sc_law.nd rfl (Or.inl rfl) (pe_op (or_add rfl) pe_int (pe_op (or_mod) (pe_callF h_law_mix rfl rfl (hr.mono (by decide)) tk (by rfl) (pa_cons (pv 0) (pa_cons pe_int pa_nil))) pe_int)))
    (pss_cons (ps_set (i := 2) sc_law.nd rfl (Or.inr rfl) (pe_op (or_mod) (pe_callF h_law_mix rfl rfl (hr.mono (by decide)) tk (by rfl) (pa_cons (pv 0) (pa_cons pe_int pa_nil))) pe_int))
    (pss_cons (ps_set (i := 3) sc_law.nd rfl (Or.inr rfl) (pe_callF h_law_questions rfl rfl (hr.mono (by decide)) tk (by rfl) (pa_cons (pv 0) (pa_cons (pv 1) pa_nil))))
    (pss_cons (ps_set (i := 4) sc_law.nd rfl (Or.inl rfl) (pe_callF h_law_rows rfl rfl (hr.mono (by decide)) tk (by rfl) (pa_cons (pe_callB (cr_len rfl) (by rfl) T.b_len PySem.boot_len (pa_cons (pv 3) pa_nil)) pa_nil)))
    (pss_cons (ps_set (i := 5) sc_law.nd rfl (Or.inr rfl) (pe_lst pa_nil))
    (pss_cons (ps_for po rfl (pi_list (pv 4)) (pg_name (i := 6) sc_law.nd rfl (Or.inr rfl)) (pss_one (ps_expr (pe_bm PySem.F.plainAttrs_list PySem.F.slot_list_append PySem.F.type_list_append (mt_appendD) (pv 5) (pa_cons (pe_callB (cr_len rfl) (by rfl) T.b_len PySem.boot_len (pa_cons (pe_lc (own := [("thing", 9)]) (by rfl) sc_law.nd (pi_range1 rfl T.b_range (pa_cons (pv 1) pa_nil)) (blkOk_by (own := [("thing", 9)]) (N := N_law) (sc := defScope s_law) (by decide +kernel)) (fun _ _ _ _ _ => (pg_name (i := 9) sc_law.nd rfl (Or.inl rfl))) (fun _ _ _ _ _ => (pts_one (pt_cmpR (or_le) (pe_callF h_law_lied rfl rfl (hr.mono (by decide)) takes0 (by rfl) (pa_cons (pv 3) (pa_cons (pv 6) (pa_cons (pv 9) pa_nil)))) (pv 2) (nomark _)))) (fun _ _ _ _ _ => (pv 9))) pa_nil)) pa_nil)))))
    (pss_cons (ps_setLc (i := 7) (own := [("k", 15)]) (by rfl) sc_law.nd rfl rfl (sw_true rfl rfl rfl (by decide +kernel)) (pi_range1 rfl T.b_range (pa_cons (pe_op (or_add rfl) (pe_callB (cr_maxD rfl) (by rfl) T.b_max bt_max (pa_cons (pv 5) pa_nil)) pe_int) pa_nil)) (blkOk_by (own := [("k", 15)]) (N := N_law) (sc := defScope s_law) (by decide +kernel)) (fun _ _ _ _ _ => (pg_name (i := 15) sc_law.nd rfl (Or.inl rfl))) (fun _ _ _ _ _ => pts_nil) (fun _ _ _ _ _ => (pe_bm PySem.F.plainAttrs_list PySem.F.slot_list_count PySem.F.type_list_count (mt_countD (Room.u65 hr)) (pv 5) (pa_cons (pv 15) pa_nil))))
    (pss_cons (ps_set (i := 8) sc_law.nd rfl (Or.inl rfl) (pe_callF h_law_told rfl rfl (hr.mono (by decide)) tk (by rfl) (pa_cons pe_int (pa_cons (pv 1) (pa_cons (pv 2) (pa_cons (pv 3) (pa_cons pe_int pa_nil)))))))
    (pss_cons (ps_if (PW.pt (pw_or (pt_cmpR (or_ne hr.units) (pv 8) (pv 7) (nomark _)) (pw_or1 (pt_not (pt_truD (pe_callB (cr_allD rfl) (by rfl) T.b_all bt_all (pa_cons (pe_lc (own := [("one", 16)]) (by rfl) sc_law.nd (pi_list (pv 8)) (blkOk_by (own := [("one", 16)]) (N := N_law) (sc := defScope s_law) (by decide +kernel)) (fun _ _ _ _ _ => (pg_name (i := 16) sc_law.nd rfl (Or.inl rfl))) (fun _ _ _ _ _ => pts_nil) (fun _ _ _ _ _ => (pe_callF h_law_whole rfl rfl (hr.mono (by decide)) takes0 (by rfl) (pa_cons (pv 16) pa_nil)))) pa_nil))))))) (pss_one (ps_ret pe_bl)) pss_nil)
    (pss_cons (ps_set (i := 9) sc_law.nd rfl (Or.inr rfl) (pe_op (or_mod) (pe_callF h_law_mix rfl rfl (hr.mono (by decide)) tk (by rfl) (pa_cons (pv 0) (pa_cons pe_int pa_nil))) (pv 1)))
    (pss_cons (ps_setLc (i := 10) (own := [("row", 6)]) (by rfl) sc_law.nd rfl rfl (sw_true rfl rfl rfl (by decide +kernel)) (pi_list (pv 4)) (blkOk_by (own := [("row", 6)]) (N := N_law) (sc := defScope s_law) (by decide +kernel)) (fun _ _ _ _ _ => (pg_name (i := 6) sc_law.nd rfl (Or.inl rfl))) (fun _ _ _ _ _ => (pts_one (pt_cmpR (or_le) (pe_callF h_law_lied rfl rfl (hr.mono (by decide)) takes0 (by rfl) (pa_cons (pv 3) (pa_cons (pv 6) (pa_cons (pv 9) pa_nil)))) (pv 2) (nomark _)))) (fun _ _ _ _ _ => (pv 6)))
    (pss_cons (ps_set (i := 11) sc_law.nd rfl (Or.inl rfl) (pe_callF h_works rfl rfl (hr.mono (by decide)) tk (by rfl) (pa_cons (pv 1) (pa_cons (pv 2) (pa_cons (pv 3) pa_nil)))))
    (pss_cons (ps_set (i := 12) sc_law.nd rfl (Or.inl rfl) (pe_callF h_law_told rfl rfl (hr.mono (by decide)) tk (by rfl) (pa_cons pe_int (pa_cons (pv 1) (pa_cons (pv 2) (pa_cons (pv 3) (pa_cons pe_int pa_nil)))))))
    (pss_cons (ps_if (PW.pt (pw_or (pt_cmpR (or_ne hr.units) (pe_callF h_law_told rfl rfl (hr.mono (by decide)) tk (by rfl) (pa_cons pe_int (pa_cons (pv 1) (pa_cons (pv 2) (pa_cons (pv 3) (pa_cons (pv 9) pa_nil)))))) (pv 10) (nomark _)) (pw_or1 (pt_cmpR (or_ne hr.units) (pv 12) (pe_and (pv 11) (pe_one (pe_cmpR (or_eq hr.units) (pe_ix (ix_D rfl) (pv 7) pe_int (fun _ _ => rfl)) pe_int (nomark _)))) (nomark _))))) (pss_one (ps_ret pe_bl)) pss_nil)
    (pss_cons (ps_if (PW.pt (pw_or (pt_not (pt_truD (pe_callB (cr_isB rfl) (by rfl) T.b_isinstance bt_isinstance (pa_cons (pv 12) (pa_cons (pe_bltn (by rfl) T.b_bool bt_bool rfl) pa_nil))))) (pw_or1 (PW.pt (pw_and (pt_truD (pv 11)) (pw_and1 (pt_cmpR (or_ne hr.units) (pe_callB (cr_sumD rfl) (by rfl) T.b_sum bt_sum (pa_cons (pe_slice sl_D (pv 7) (po_some pe_int) po_none) pa_nil)) (pe_op (or_mul) (pv 1) (pe_callF h_law_ways rfl rfl (hr.mono (by decide)) tk (by rfl) (pa_cons (pe_callB (cr_len rfl) (by rfl) T.b_len PySem.boot_len (pa_cons (pv 3) pa_nil)) (pa_cons (pv 2) pa_nil)))) (nomark _)))))))) (pss_one (ps_ret pe_bl)) pss_nil)
    (pss_cons (ps_set (i := 6) sc_law.nd rfl (Or.inr rfl) (pe_ix (ix_D rfl) (pv 4) (pe_op (or_mod) (pe_callF h_law_mix rfl rfl (hr.mono (by decide)) tk (by rfl) (pa_cons (pv 0) (pa_cons pe_int pa_nil))) (pe_callB (cr_len rfl) (by rfl) T.b_len PySem.boot_len (pa_cons (pv 4) pa_nil))) (fun _ _ => rfl)))
    (pss_cons (ps_set (i := 13) sc_law.nd rfl (Or.inr rfl) (pe_lc (own := [("one", 16)]) (by rfl) sc_law.nd (pi_range1 rfl T.b_range (pa_cons (pv 1) pa_nil)) (blkOk_by (own := [("one", 16)]) (N := N_law) (sc := defScope s_law) (by decide +kernel)) (fun _ _ _ _ _ => (pg_name (i := 16) sc_law.nd rfl (Or.inl rfl))) (fun _ _ _ _ _ => pts_nil) (fun _ _ _ _ _ => (pe_callF h_law_lied rfl rfl (hr.mono (by decide)) takes0 (by rfl) (pa_cons (pv 3) (pa_cons (pv 6) (pa_cons (pv 16) pa_nil)))))))
    (pss_cons (ps_set (i := 14) sc_law.nd rfl (Or.inl rfl) (pe_tup (pa_cons (pe_lc (own := [("one", 16)]) (by rfl) sc_law.nd (pi_range1 rfl T.b_range (pa_cons (pv 1) pa_nil)) (blkOk_by (own := [("one", 16)]) (N := N_law) (sc := defScope s_law) (by decide +kernel)) (fun _ _ _ _ _ => (pg_name (i := 16) sc_law.nd rfl (Or.inl rfl))) (fun _ _ _ _ _ => (pts_one (pt_cmpR (or_eq hr.units) (pe_ix (ix_D rfl) (pv 13) (pv 16) (fun _ _ => rfl)) (pe_callB (cr_minD rfl) (by rfl) T.b_min bt_min (pa_cons (pv 13) pa_nil)) (nomark _)))) (fun _ _ _ _ _ => (pv 16))) (pa_cons (pe_callB (cr_minD rfl) (by rfl) T.b_min bt_min (pa_cons (pv 13) pa_nil)) pa_nil))))
    (pss_cons (ps_if (pt_cmpR (or_ne hr.units) (pe_callF h_law_told rfl rfl (hr.mono (by decide)) tk (by rfl) (pa_cons pe_int (pa_cons (pv 1) (pa_cons (pv 2) (pa_cons (pv 3) (pa_cons (pe_callTy (cr_listD) (by rfl) T.b_list bt_list (pa_cons (pv 6) pa_nil)) pa_nil)))))) (pv 14) (nomark _)) (pss_one (ps_ret pe_bl)) pss_nil)
    (pss_one (ps_ret (pe_cmpR (or_eq hr.units) (pe_callF h_law_refused rfl rfl (hr.mono (by decide)) tk (by rfl) (pa_cons (pv 1) (pa_cons (pv 2) (pa_cons (pv 3) (pa_cons (pv 6) pa_nil))))) (pe_op (or_add rfl) (pe_op (or_mul) (pe_lst (pa_cons pe_str pa_nil)) pe_int) (pe_lst (pa_cons pe_str pa_nil))) (nomark _)))))))))))))))))))))))
def exMap (C_game C_counts C_question C_liar C_plan C_text : Addr) : Tag → Addr
  | .game => C_game
  | .counts => C_counts
  | .question => C_question
  | .liar => C_liar
  | .plan => C_plan
  | .text => C_text
  | _ => C_game
def hasMap : Tag → Bool
  | .game => true
  | .counts => true
  | .question => true
  | .liar => true
  | .plan => true
  | .text => true
  | _ => false
theorem all_mk {P : Program} {w : World} {K : PySem.W.Frag} {h : Heap} {mg : Str → Option Value} {fa : Addr} {f_look_game f_look_question f_look_all f_far f_nearest f_works f_decoded f_look_few f_all_answers f_rows_of f_spread f_is_full f_word_of f_nearest_things f_law_cell f_law_mix f_law_whole f_law_question f_law_ways f_law_refusal f_law_told f_law_rows f_law_lied f_law_questions f_law_refused f_law CL C_game C_counts C_question C_liar C_plan C_text : Addr} {od_look_game an_look_game od_look_question an_look_question od_look_all an_look_all od_far an_far od_nearest an_nearest od_works an_works od_decoded an_decoded od_look_few an_look_few od_all_answers an_all_answers od_rows_of an_rows_of od_spread an_spread od_is_full an_is_full od_word_of an_word_of od_nearest_things an_nearest_things od_law_cell an_law_cell od_law_mix an_law_mix od_law_whole an_law_whole od_law_question an_law_question od_law_ways an_law_ways od_law_refusal an_law_refusal od_law_told an_law_told od_law_rows an_law_rows od_law_lied an_law_lied od_law_questions an_law_questions od_law_refused an_law_refused od_law an_law : Option Addr} {sl_look_game sl_look_question sl_look_all sl_far sl_nearest sl_works sl_decoded sl_look_few sl_all_answers sl_rows_of sl_spread sl_is_full sl_word_of sl_nearest_things sl_law_cell sl_law_mix sl_law_whole sl_law_question sl_law_ways sl_law_refusal sl_law_told sl_law_rows sl_law_lied sl_law_questions sl_law_refused sl_law : Array (Option Value)} {oc_look_game kV_look_game dc_look_game pm_look_game cd_look_game ct_look_game oc_look_question kV_look_question dc_look_question pm_look_question cd_look_question ct_look_question oc_look_all kV_look_all dc_look_all pm_look_all cd_look_all ct_look_all oc_far kV_far dc_far pm_far cd_far ct_far oc_nearest kV_nearest dc_nearest pm_nearest cd_nearest ct_nearest oc_works kV_works dc_works pm_works cd_works ct_works oc_decoded kV_decoded dc_decoded pm_decoded cd_decoded ct_decoded oc_look_few kV_look_few dc_look_few pm_look_few cd_look_few ct_look_few oc_all_answers kV_all_answers dc_all_answers pm_all_answers cd_all_answers ct_all_answers oc_rows_of kV_rows_of dc_rows_of pm_rows_of cd_rows_of ct_rows_of oc_spread kV_spread dc_spread pm_spread cd_spread ct_spread oc_is_full kV_is_full dc_is_full pm_is_full cd_is_full ct_is_full oc_word_of kV_word_of dc_word_of pm_word_of cd_word_of ct_word_of oc_nearest_things kV_nearest_things dc_nearest_things pm_nearest_things cd_nearest_things ct_nearest_things oc_law_cell kV_law_cell dc_law_cell pm_law_cell cd_law_cell ct_law_cell oc_law_mix kV_law_mix dc_law_mix pm_law_mix cd_law_mix ct_law_mix oc_law_whole kV_law_whole dc_law_whole pm_law_whole cd_law_whole ct_law_whole oc_law_question kV_law_question dc_law_question pm_law_question cd_law_question ct_law_question oc_law_ways kV_law_ways dc_law_ways pm_law_ways cd_law_ways ct_law_ways oc_law_refusal kV_law_refusal dc_law_refusal pm_law_refusal cd_law_refusal ct_law_refusal oc_law_told kV_law_told dc_law_told pm_law_told cd_law_told ct_law_told oc_law_rows kV_law_rows dc_law_rows pm_law_rows cd_law_rows ct_law_rows oc_law_lied kV_law_lied dc_law_lied pm_law_lied cd_law_lied ct_law_lied oc_law_questions kV_law_questions dc_law_questions pm_law_questions cd_law_questions ct_law_questions oc_law_refused kV_law_refused dc_law_refused pm_law_refused cd_law_refused ct_law_refused oc_law kV_law dc_law pm_law cd_law ct_law : Value} {tk_MOST_ANSWERED tk_MOST_ASKED tk_MOST_LIES tk_MOST_THINGS : Tok} (X : K.In h) (Gn : h.Ns mainGlobals mg) (hfa : mg "law" = some (.ref fa))
    (a_look_game : PySem.W.nsIn K mainGlobals "look_game" = some (some (.ref f_look_game)))
    (l_look_game : K.lookup f_look_game = some ⟨oc_look_game, od_look_game, .func (PySem.W.fnOf "look_game" "look_game" (defArgs s_look_game) (defBody s_look_game) (defScope s_look_game) .none kV_look_game dc_look_game pm_look_game an_look_game cd_look_game ct_look_game), sl_look_game⟩)
    (c_look_game : PySem.W.codeIn K cd_look_game "look_game" = true)
    (k_look_game : PySem.W.keepIn K (.ref f_look_game) = true)
    (a_look_question : PySem.W.nsIn K mainGlobals "look_question" = some (some (.ref f_look_question)))
    (l_look_question : K.lookup f_look_question = some ⟨oc_look_question, od_look_question, .func (PySem.W.fnOf "look_question" "look_question" (defArgs s_look_question) (defBody s_look_question) (defScope s_look_question) .none kV_look_question dc_look_question pm_look_question an_look_question cd_look_question ct_look_question), sl_look_question⟩)
    (c_look_question : PySem.W.codeIn K cd_look_question "look_question" = true)
    (k_look_question : PySem.W.keepIn K (.ref f_look_question) = true)
    (a_look_all : PySem.W.nsIn K mainGlobals "look_all" = some (some (.ref f_look_all)))
    (l_look_all : K.lookup f_look_all = some ⟨oc_look_all, od_look_all, .func (PySem.W.fnOf "look_all" "look_all" (defArgs s_look_all) (defBody s_look_all) (defScope s_look_all) .none kV_look_all dc_look_all pm_look_all an_look_all cd_look_all ct_look_all), sl_look_all⟩)
    (c_look_all : PySem.W.codeIn K cd_look_all "look_all" = true)
    (k_look_all : PySem.W.keepIn K (.ref f_look_all) = true)
    (a_far : PySem.W.nsIn K mainGlobals "far" = some (some (.ref f_far)))
    (l_far : K.lookup f_far = some ⟨oc_far, od_far, .func (PySem.W.fnOf "far" "far" (defArgs s_far) (defBody s_far) (defScope s_far) .none kV_far dc_far pm_far an_far cd_far ct_far), sl_far⟩)
    (c_far : PySem.W.codeIn K cd_far "far" = true)
    (k_far : PySem.W.keepIn K (.ref f_far) = true)
    (a_nearest : PySem.W.nsIn K mainGlobals "nearest" = some (some (.ref f_nearest)))
    (l_nearest : K.lookup f_nearest = some ⟨oc_nearest, od_nearest, .func (PySem.W.fnOf "nearest" "nearest" (defArgs s_nearest) (defBody s_nearest) (defScope s_nearest) .none kV_nearest dc_nearest pm_nearest an_nearest cd_nearest ct_nearest), sl_nearest⟩)
    (c_nearest : PySem.W.codeIn K cd_nearest "nearest" = true)
    (k_nearest : PySem.W.keepIn K (.ref f_nearest) = true)
    (a_works : PySem.W.nsIn K mainGlobals "works" = some (some (.ref f_works)))
    (l_works : K.lookup f_works = some ⟨oc_works, od_works, .func (PySem.W.fnOf "works" "works" (defArgs s_works) (defBody s_works) (defScope s_works) .none kV_works dc_works pm_works an_works cd_works ct_works), sl_works⟩)
    (c_works : PySem.W.codeIn K cd_works "works" = true)
    (k_works : PySem.W.keepIn K (.ref f_works) = true)
    (a_decoded : PySem.W.nsIn K mainGlobals "decoded" = some (some (.ref f_decoded)))
    (l_decoded : K.lookup f_decoded = some ⟨oc_decoded, od_decoded, .func (PySem.W.fnOf "decoded" "decoded" (defArgs s_decoded) (defBody s_decoded) (defScope s_decoded) .none kV_decoded dc_decoded pm_decoded an_decoded cd_decoded ct_decoded), sl_decoded⟩)
    (c_decoded : PySem.W.codeIn K cd_decoded "decoded" = true)
    (k_decoded : PySem.W.keepIn K (.ref f_decoded) = true)
    (a_look_few : PySem.W.nsIn K mainGlobals "look_few" = some (some (.ref f_look_few)))
    (l_look_few : K.lookup f_look_few = some ⟨oc_look_few, od_look_few, .func (PySem.W.fnOf "look_few" "look_few" (defArgs s_look_few) (defBody s_look_few) (defScope s_look_few) .none kV_look_few dc_look_few pm_look_few an_look_few cd_look_few ct_look_few), sl_look_few⟩)
    (c_look_few : PySem.W.codeIn K cd_look_few "look_few" = true)
    (k_look_few : PySem.W.keepIn K (.ref f_look_few) = true)
    (a_all_answers : PySem.W.nsIn K mainGlobals "all_answers" = some (some (.ref f_all_answers)))
    (l_all_answers : K.lookup f_all_answers = some ⟨oc_all_answers, od_all_answers, .func (PySem.W.fnOf "all_answers" "all_answers" (defArgs s_all_answers) (defBody s_all_answers) (defScope s_all_answers) .none kV_all_answers dc_all_answers pm_all_answers an_all_answers cd_all_answers ct_all_answers), sl_all_answers⟩)
    (c_all_answers : PySem.W.codeIn K cd_all_answers "all_answers" = true)
    (k_all_answers : PySem.W.keepIn K (.ref f_all_answers) = true)
    (a_rows_of : PySem.W.nsIn K mainGlobals "rows_of" = some (some (.ref f_rows_of)))
    (l_rows_of : K.lookup f_rows_of = some ⟨oc_rows_of, od_rows_of, .func (PySem.W.fnOf "rows_of" "rows_of" (defArgs s_rows_of) (defBody s_rows_of) (defScope s_rows_of) .none kV_rows_of dc_rows_of pm_rows_of an_rows_of cd_rows_of ct_rows_of), sl_rows_of⟩)
    (c_rows_of : PySem.W.codeIn K cd_rows_of "rows_of" = true)
    (k_rows_of : PySem.W.keepIn K (.ref f_rows_of) = true)
    (a_spread : PySem.W.nsIn K mainGlobals "spread" = some (some (.ref f_spread)))
    (l_spread : K.lookup f_spread = some ⟨oc_spread, od_spread, .func (PySem.W.fnOf "spread" "spread" (defArgs s_spread) (defBody s_spread) (defScope s_spread) .none kV_spread dc_spread pm_spread an_spread cd_spread ct_spread), sl_spread⟩)
    (c_spread : PySem.W.codeIn K cd_spread "spread" = true)
    (k_spread : PySem.W.keepIn K (.ref f_spread) = true)
    (a_is_full : PySem.W.nsIn K mainGlobals "is_full" = some (some (.ref f_is_full)))
    (l_is_full : K.lookup f_is_full = some ⟨oc_is_full, od_is_full, .func (PySem.W.fnOf "is_full" "is_full" (defArgs s_is_full) (defBody s_is_full) (defScope s_is_full) .none kV_is_full dc_is_full pm_is_full an_is_full cd_is_full ct_is_full), sl_is_full⟩)
    (c_is_full : PySem.W.codeIn K cd_is_full "is_full" = true)
    (k_is_full : PySem.W.keepIn K (.ref f_is_full) = true)
    (a_word_of : PySem.W.nsIn K mainGlobals "word_of" = some (some (.ref f_word_of)))
    (l_word_of : K.lookup f_word_of = some ⟨oc_word_of, od_word_of, .func (PySem.W.fnOf "word_of" "word_of" (defArgs s_word_of) (defBody s_word_of) (defScope s_word_of) .none kV_word_of dc_word_of pm_word_of an_word_of cd_word_of ct_word_of), sl_word_of⟩)
    (c_word_of : PySem.W.codeIn K cd_word_of "word_of" = true)
    (k_word_of : PySem.W.keepIn K (.ref f_word_of) = true)
    (a_nearest_things : PySem.W.nsIn K mainGlobals "nearest_things" = some (some (.ref f_nearest_things)))
    (l_nearest_things : K.lookup f_nearest_things = some ⟨oc_nearest_things, od_nearest_things, .func (PySem.W.fnOf "nearest_things" "nearest_things" (defArgs s_nearest_things) (defBody s_nearest_things) (defScope s_nearest_things) .none kV_nearest_things dc_nearest_things pm_nearest_things an_nearest_things cd_nearest_things ct_nearest_things), sl_nearest_things⟩)
    (c_nearest_things : PySem.W.codeIn K cd_nearest_things "nearest_things" = true)
    (k_nearest_things : PySem.W.keepIn K (.ref f_nearest_things) = true)
    (a_law_cell : PySem.W.nsIn K mainGlobals "_law_cell" = some (some (.ref f_law_cell)))
    (l_law_cell : K.lookup f_law_cell = some ⟨oc_law_cell, od_law_cell, .func (PySem.W.fnOf "_law_cell" "_law_cell" (defArgs s_law_cell) (defBody s_law_cell) (defScope s_law_cell) .none kV_law_cell dc_law_cell pm_law_cell an_law_cell cd_law_cell ct_law_cell), sl_law_cell⟩)
    (c_law_cell : PySem.W.codeIn K cd_law_cell "_law_cell" = true)
    (k_law_cell : PySem.W.keepIn K (.ref f_law_cell) = true)
    (a_law_mix : PySem.W.nsIn K mainGlobals "_law_mix" = some (some (.ref f_law_mix)))
    (l_law_mix : K.lookup f_law_mix = some ⟨oc_law_mix, od_law_mix, .func (PySem.W.fnOf "_law_mix" "_law_mix" (defArgs s_law_mix) (defBody s_law_mix) (defScope s_law_mix) .none kV_law_mix dc_law_mix pm_law_mix an_law_mix cd_law_mix ct_law_mix), sl_law_mix⟩)
    (c_law_mix : PySem.W.codeIn K cd_law_mix "_law_mix" = true)
    (k_law_mix : PySem.W.keepIn K (.ref f_law_mix) = true)
    (a_law_whole : PySem.W.nsIn K mainGlobals "_law_whole" = some (some (.ref f_law_whole)))
    (l_law_whole : K.lookup f_law_whole = some ⟨oc_law_whole, od_law_whole, .func (PySem.W.fnOf "_law_whole" "_law_whole" (defArgs s_law_whole) (defBody s_law_whole) (defScope s_law_whole) .none kV_law_whole dc_law_whole pm_law_whole an_law_whole cd_law_whole ct_law_whole), sl_law_whole⟩)
    (c_law_whole : PySem.W.codeIn K cd_law_whole "_law_whole" = true)
    (k_law_whole : PySem.W.keepIn K (.ref f_law_whole) = true)
    (a_law_question : PySem.W.nsIn K mainGlobals "_law_question" = some (some (.ref f_law_question)))
    (l_law_question : K.lookup f_law_question = some ⟨oc_law_question, od_law_question, .func (PySem.W.fnOf "_law_question" "_law_question" (defArgs s_law_question) (defBody s_law_question) (defScope s_law_question) .none kV_law_question dc_law_question pm_law_question an_law_question cd_law_question ct_law_question), sl_law_question⟩)
    (c_law_question : PySem.W.codeIn K cd_law_question "_law_question" = true)
    (k_law_question : PySem.W.keepIn K (.ref f_law_question) = true)
    (a_law_ways : PySem.W.nsIn K mainGlobals "_law_ways" = some (some (.ref f_law_ways)))
    (l_law_ways : K.lookup f_law_ways = some ⟨oc_law_ways, od_law_ways, .func (PySem.W.fnOf "_law_ways" "_law_ways" (defArgs s_law_ways) (defBody s_law_ways) (defScope s_law_ways) .none kV_law_ways dc_law_ways pm_law_ways an_law_ways cd_law_ways ct_law_ways), sl_law_ways⟩)
    (c_law_ways : PySem.W.codeIn K cd_law_ways "_law_ways" = true)
    (k_law_ways : PySem.W.keepIn K (.ref f_law_ways) = true)
    (a_law_refusal : PySem.W.nsIn K mainGlobals "_law_refusal" = some (some (.ref f_law_refusal)))
    (l_law_refusal : K.lookup f_law_refusal = some ⟨oc_law_refusal, od_law_refusal, .func (PySem.W.fnOf "_law_refusal" "_law_refusal" (defArgs s_law_refusal) (defBody s_law_refusal) (defScope s_law_refusal) .none kV_law_refusal dc_law_refusal pm_law_refusal an_law_refusal cd_law_refusal ct_law_refusal), sl_law_refusal⟩)
    (c_law_refusal : PySem.W.codeIn K cd_law_refusal "_law_refusal" = true)
    (k_law_refusal : PySem.W.keepIn K (.ref f_law_refusal) = true)
    (a_law_told : PySem.W.nsIn K mainGlobals "_law_told" = some (some (.ref f_law_told)))
    (l_law_told : K.lookup f_law_told = some ⟨oc_law_told, od_law_told, .func (PySem.W.fnOf "_law_told" "_law_told" (defArgs s_law_told) (defBody s_law_told) (defScope s_law_told) .none kV_law_told dc_law_told pm_law_told an_law_told cd_law_told ct_law_told), sl_law_told⟩)
    (c_law_told : PySem.W.codeIn K cd_law_told "_law_told" = true)
    (k_law_told : PySem.W.keepIn K (.ref f_law_told) = true)
    (a_law_rows : PySem.W.nsIn K mainGlobals "_law_rows" = some (some (.ref f_law_rows)))
    (l_law_rows : K.lookup f_law_rows = some ⟨oc_law_rows, od_law_rows, .func (PySem.W.fnOf "_law_rows" "_law_rows" (defArgs s_law_rows) (defBody s_law_rows) (defScope s_law_rows) .none kV_law_rows dc_law_rows pm_law_rows an_law_rows cd_law_rows ct_law_rows), sl_law_rows⟩)
    (c_law_rows : PySem.W.codeIn K cd_law_rows "_law_rows" = true)
    (k_law_rows : PySem.W.keepIn K (.ref f_law_rows) = true)
    (a_law_lied : PySem.W.nsIn K mainGlobals "_law_lied" = some (some (.ref f_law_lied)))
    (l_law_lied : K.lookup f_law_lied = some ⟨oc_law_lied, od_law_lied, .func (PySem.W.fnOf "_law_lied" "_law_lied" (defArgs s_law_lied) (defBody s_law_lied) (defScope s_law_lied) .none kV_law_lied dc_law_lied pm_law_lied an_law_lied cd_law_lied ct_law_lied), sl_law_lied⟩)
    (c_law_lied : PySem.W.codeIn K cd_law_lied "_law_lied" = true)
    (k_law_lied : PySem.W.keepIn K (.ref f_law_lied) = true)
    (a_law_questions : PySem.W.nsIn K mainGlobals "_law_questions" = some (some (.ref f_law_questions)))
    (l_law_questions : K.lookup f_law_questions = some ⟨oc_law_questions, od_law_questions, .func (PySem.W.fnOf "_law_questions" "_law_questions" (defArgs s_law_questions) (defBody s_law_questions) (defScope s_law_questions) .none kV_law_questions dc_law_questions pm_law_questions an_law_questions cd_law_questions ct_law_questions), sl_law_questions⟩)
    (c_law_questions : PySem.W.codeIn K cd_law_questions "_law_questions" = true)
    (k_law_questions : PySem.W.keepIn K (.ref f_law_questions) = true)
    (a_law_refused : PySem.W.nsIn K mainGlobals "_law_refused" = some (some (.ref f_law_refused)))
    (l_law_refused : K.lookup f_law_refused = some ⟨oc_law_refused, od_law_refused, .func (PySem.W.fnOf "_law_refused" "_law_refused" (defArgs s_law_refused) (defBody s_law_refused) (defScope s_law_refused) .none kV_law_refused dc_law_refused pm_law_refused an_law_refused cd_law_refused ct_law_refused), sl_law_refused⟩)
    (c_law_refused : PySem.W.codeIn K cd_law_refused "_law_refused" = true)
    (k_law_refused : PySem.W.keepIn K (.ref f_law_refused) = true)
    (a_law : PySem.W.nsIn K mainGlobals "law" = some (some (.ref f_law)))
    (l_law : K.lookup f_law = some ⟨oc_law, od_law, .func (PySem.W.fnOf "law" "law" (defArgs s_law) (defBody s_law) (defScope s_law) .none kV_law dc_law pm_law an_law cd_law ct_law), sl_law⟩)
    (c_law : PySem.W.codeIn K cd_law "law" = true)
    (k_law : PySem.W.keepIn K (.ref f_law) = true)
    (aL : PySem.W.nsIn K mainGlobals "LiarError" = some (some (.ref CL)))
    (oN : PySem.W.specialIn K (.builtin "object.__class__") "__get__" = some (some (.builtin "getset_descriptor.__get__")))
    (oT : PySem.W.takesIn K (.builtin "object.__class__") = some true)
    (eg_game : PySem.W.nsIn K mainGlobals "BadGame" = some (some (.ref C_game)))
    (eq_game : PySem.W.excIn K C_game [.type "ValueError", .type "Exception", .type "BaseException", .type "object"] "ValueError.__new__" = true)
    (ek_game : PySem.W.keepIn K (.ref C_game) = true)
    (eb_game : PySem.W.subIn K (.ref C_game) (.type "BaseException") = some true)
    (et_game : PySem.W.typeIn K (.ref C_game) = some (.type "type"))
    (xg_game : PySem.W.findIn K (.ref C_game) "__getattribute__" = some (some (.builtin "BaseException.__getattribute__")))
    (xk_game : PySem.W.findIn K (.ref C_game) "__getattr__" = some none)
    (xd_game : PySem.W.hasDictIn K C_game = true)
    (xa_game : PySem.W.findIn K (.ref C_game) "__class__" = some (some (.builtin "object.__class__")))
    (xm_game : PySem.W.mroIn K C_game (.type "object") = some true)
    (xv_game : PySem.W.kitOne K (.ref C_game) (.type "ValueError") = some true)
    (xl_game : PySem.W.exmOne K (.ref C_game) (.ref CL) = some true)
    (eg_counts : PySem.W.nsIn K mainGlobals "BadCounts" = some (some (.ref C_counts)))
    (eq_counts : PySem.W.excIn K C_counts [.type "ValueError", .type "Exception", .type "BaseException", .type "object"] "ValueError.__new__" = true)
    (ek_counts : PySem.W.keepIn K (.ref C_counts) = true)
    (eb_counts : PySem.W.subIn K (.ref C_counts) (.type "BaseException") = some true)
    (et_counts : PySem.W.typeIn K (.ref C_counts) = some (.type "type"))
    (xg_counts : PySem.W.findIn K (.ref C_counts) "__getattribute__" = some (some (.builtin "BaseException.__getattribute__")))
    (xk_counts : PySem.W.findIn K (.ref C_counts) "__getattr__" = some none)
    (xd_counts : PySem.W.hasDictIn K C_counts = true)
    (xa_counts : PySem.W.findIn K (.ref C_counts) "__class__" = some (some (.builtin "object.__class__")))
    (xm_counts : PySem.W.mroIn K C_counts (.type "object") = some true)
    (xv_counts : PySem.W.kitOne K (.ref C_counts) (.type "ValueError") = some true)
    (xl_counts : PySem.W.exmOne K (.ref C_counts) (.ref CL) = some true)
    (eg_question : PySem.W.nsIn K mainGlobals "BadQuestion" = some (some (.ref C_question)))
    (eq_question : PySem.W.excIn K C_question [.type "ValueError", .type "Exception", .type "BaseException", .type "object"] "ValueError.__new__" = true)
    (ek_question : PySem.W.keepIn K (.ref C_question) = true)
    (eb_question : PySem.W.subIn K (.ref C_question) (.type "BaseException") = some true)
    (et_question : PySem.W.typeIn K (.ref C_question) = some (.type "type"))
    (xg_question : PySem.W.findIn K (.ref C_question) "__getattribute__" = some (some (.builtin "BaseException.__getattribute__")))
    (xk_question : PySem.W.findIn K (.ref C_question) "__getattr__" = some none)
    (xd_question : PySem.W.hasDictIn K C_question = true)
    (xa_question : PySem.W.findIn K (.ref C_question) "__class__" = some (some (.builtin "object.__class__")))
    (xm_question : PySem.W.mroIn K C_question (.type "object") = some true)
    (xv_question : PySem.W.kitOne K (.ref C_question) (.type "ValueError") = some true)
    (xl_question : PySem.W.exmOne K (.ref C_question) (.ref CL) = some true)
    (eg_liar : PySem.W.nsIn K mainGlobals "Liar" = some (some (.ref C_liar)))
    (eq_liar : PySem.W.excIn K C_liar [.type "ValueError", .type "Exception", .type "BaseException", .type "object"] "ValueError.__new__" = true)
    (ek_liar : PySem.W.keepIn K (.ref C_liar) = true)
    (eb_liar : PySem.W.subIn K (.ref C_liar) (.type "BaseException") = some true)
    (et_liar : PySem.W.typeIn K (.ref C_liar) = some (.type "type"))
    (xg_liar : PySem.W.findIn K (.ref C_liar) "__getattribute__" = some (some (.builtin "BaseException.__getattribute__")))
    (xk_liar : PySem.W.findIn K (.ref C_liar) "__getattr__" = some none)
    (xd_liar : PySem.W.hasDictIn K C_liar = true)
    (xa_liar : PySem.W.findIn K (.ref C_liar) "__class__" = some (some (.builtin "object.__class__")))
    (xm_liar : PySem.W.mroIn K C_liar (.type "object") = some true)
    (xv_liar : PySem.W.kitOne K (.ref C_liar) (.type "ValueError") = some true)
    (xl_liar : PySem.W.exmOne K (.ref C_liar) (.ref CL) = some true)
    (eg_plan : PySem.W.nsIn K mainGlobals "BadPlan" = some (some (.ref C_plan)))
    (eq_plan : PySem.W.excIn K C_plan [.type "ValueError", .type "Exception", .type "BaseException", .type "object"] "ValueError.__new__" = true)
    (ek_plan : PySem.W.keepIn K (.ref C_plan) = true)
    (eb_plan : PySem.W.subIn K (.ref C_plan) (.type "BaseException") = some true)
    (et_plan : PySem.W.typeIn K (.ref C_plan) = some (.type "type"))
    (xg_plan : PySem.W.findIn K (.ref C_plan) "__getattribute__" = some (some (.builtin "BaseException.__getattribute__")))
    (xk_plan : PySem.W.findIn K (.ref C_plan) "__getattr__" = some none)
    (xd_plan : PySem.W.hasDictIn K C_plan = true)
    (xa_plan : PySem.W.findIn K (.ref C_plan) "__class__" = some (some (.builtin "object.__class__")))
    (xm_plan : PySem.W.mroIn K C_plan (.type "object") = some true)
    (xv_plan : PySem.W.kitOne K (.ref C_plan) (.type "ValueError") = some true)
    (xl_plan : PySem.W.exmOne K (.ref C_plan) (.ref CL) = some true)
    (eg_text : PySem.W.nsIn K mainGlobals "BadText" = some (some (.ref C_text)))
    (eq_text : PySem.W.excIn K C_text [.type "ValueError", .type "Exception", .type "BaseException", .type "object"] "ValueError.__new__" = true)
    (ek_text : PySem.W.keepIn K (.ref C_text) = true)
    (eb_text : PySem.W.subIn K (.ref C_text) (.type "BaseException") = some true)
    (et_text : PySem.W.typeIn K (.ref C_text) = some (.type "type"))
    (xg_text : PySem.W.findIn K (.ref C_text) "__getattribute__" = some (some (.builtin "BaseException.__getattribute__")))
    (xk_text : PySem.W.findIn K (.ref C_text) "__getattr__" = some none)
    (xd_text : PySem.W.hasDictIn K C_text = true)
    (xa_text : PySem.W.findIn K (.ref C_text) "__class__" = some (some (.builtin "object.__class__")))
    (xm_text : PySem.W.mroIn K C_text (.type "object") = some true)
    (xv_text : PySem.W.kitOne K (.ref C_text) (.type "ValueError") = some true)
    (xl_text : PySem.W.exmOne K (.ref C_text) (.ref CL) = some true)
    (kt_game_game : PySem.W.kitOne K (.ref C_game) (.ref C_game) = some true)
    (kt_game_counts : PySem.W.kitOne K (.ref C_game) (.ref C_counts) = some false)
    (kt_game_question : PySem.W.kitOne K (.ref C_game) (.ref C_question) = some false)
    (kt_game_liar : PySem.W.kitOne K (.ref C_game) (.ref C_liar) = some false)
    (kt_game_plan : PySem.W.kitOne K (.ref C_game) (.ref C_plan) = some false)
    (kt_game_text : PySem.W.kitOne K (.ref C_game) (.ref C_text) = some false)
    (kt_counts_game : PySem.W.kitOne K (.ref C_counts) (.ref C_game) = some false)
    (kt_counts_counts : PySem.W.kitOne K (.ref C_counts) (.ref C_counts) = some true)
    (kt_counts_question : PySem.W.kitOne K (.ref C_counts) (.ref C_question) = some false)
    (kt_counts_liar : PySem.W.kitOne K (.ref C_counts) (.ref C_liar) = some false)
    (kt_counts_plan : PySem.W.kitOne K (.ref C_counts) (.ref C_plan) = some false)
    (kt_counts_text : PySem.W.kitOne K (.ref C_counts) (.ref C_text) = some false)
    (kt_question_game : PySem.W.kitOne K (.ref C_question) (.ref C_game) = some false)
    (kt_question_counts : PySem.W.kitOne K (.ref C_question) (.ref C_counts) = some false)
    (kt_question_question : PySem.W.kitOne K (.ref C_question) (.ref C_question) = some true)
    (kt_question_liar : PySem.W.kitOne K (.ref C_question) (.ref C_liar) = some false)
    (kt_question_plan : PySem.W.kitOne K (.ref C_question) (.ref C_plan) = some false)
    (kt_question_text : PySem.W.kitOne K (.ref C_question) (.ref C_text) = some false)
    (kt_liar_game : PySem.W.kitOne K (.ref C_liar) (.ref C_game) = some false)
    (kt_liar_counts : PySem.W.kitOne K (.ref C_liar) (.ref C_counts) = some false)
    (kt_liar_question : PySem.W.kitOne K (.ref C_liar) (.ref C_question) = some false)
    (kt_liar_liar : PySem.W.kitOne K (.ref C_liar) (.ref C_liar) = some true)
    (kt_liar_plan : PySem.W.kitOne K (.ref C_liar) (.ref C_plan) = some false)
    (kt_liar_text : PySem.W.kitOne K (.ref C_liar) (.ref C_text) = some false)
    (kt_plan_game : PySem.W.kitOne K (.ref C_plan) (.ref C_game) = some false)
    (kt_plan_counts : PySem.W.kitOne K (.ref C_plan) (.ref C_counts) = some false)
    (kt_plan_question : PySem.W.kitOne K (.ref C_plan) (.ref C_question) = some false)
    (kt_plan_liar : PySem.W.kitOne K (.ref C_plan) (.ref C_liar) = some false)
    (kt_plan_plan : PySem.W.kitOne K (.ref C_plan) (.ref C_plan) = some true)
    (kt_plan_text : PySem.W.kitOne K (.ref C_plan) (.ref C_text) = some false)
    (kt_text_game : PySem.W.kitOne K (.ref C_text) (.ref C_game) = some false)
    (kt_text_counts : PySem.W.kitOne K (.ref C_text) (.ref C_counts) = some false)
    (kt_text_question : PySem.W.kitOne K (.ref C_text) (.ref C_question) = some false)
    (kt_text_liar : PySem.W.kitOne K (.ref C_text) (.ref C_liar) = some false)
    (kt_text_plan : PySem.W.kitOne K (.ref C_text) (.ref C_plan) = some false)
    (kt_text_text : PySem.W.kitOne K (.ref C_text) (.ref C_text) = some true)
    (b_ValueError : PySem.W.nsIn K mainGlobals "ValueError" = some none)
    (b_all : PySem.W.nsIn K mainGlobals "all" = some none)
    (b_bool : PySem.W.nsIn K mainGlobals "bool" = some none)
    (b_int : PySem.W.nsIn K mainGlobals "int" = some none)
    (b_isinstance : PySem.W.nsIn K mainGlobals "isinstance" = some none)
    (b_len : PySem.W.nsIn K mainGlobals "len" = some none)
    (b_list : PySem.W.nsIn K mainGlobals "list" = some none)
    (b_max : PySem.W.nsIn K mainGlobals "max" = some none)
    (b_min : PySem.W.nsIn K mainGlobals "min" = some none)
    (b_range : PySem.W.nsIn K mainGlobals "range" = some none)
    (b_set : PySem.W.nsIn K mainGlobals "set" = some none)
    (b_sorted : PySem.W.nsIn K mainGlobals "sorted" = some none)
    (b_sum : PySem.W.nsIn K mainGlobals "sum" = some none)
    (v_MOST_ANSWERED : PySem.W.nsIn K mainGlobals "MOST_ANSWERED" = some (some (.int 12 tk_MOST_ANSWERED)))
    (v_MOST_ASKED : PySem.W.nsIn K mainGlobals "MOST_ASKED" = some (some (.int 40 tk_MOST_ASKED)))
    (v_MOST_LIES : PySem.W.nsIn K mainGlobals "MOST_LIES" = some (some (.int 4 tk_MOST_LIES)))
    (v_MOST_THINGS : PySem.W.nsIn K mainGlobals "MOST_THINGS" = some (some (.int 64 tk_MOST_THINGS))) :
    ∃ fd : FuncData, (∀ (s : Shared) (v : Value), BindsTo s fd ⟨[v], []⟩ [("script", v)]) ∧ ∀ base : Heap, K.In base → base.Ns mainGlobals mg → FnOk P w K mg base (L2.CX P w) 8 fa fd ["script"] (sp_law K) := by
  have e := hfa.symm.trans (PySem.W.mg_of X Gn a_law)
  cases e
  let G : Ctx := { K := K, w := w, le := CL, ex := exMap C_game C_counts C_question C_liar C_plan C_text, has := hasMap, cl := fun _ => CL }
  have exc : ExcT G := by
    refine ⟨fun t ht => ?_, fun t u ht hu => ?_, fun t ht => ?_⟩
    · cases t with
      | game => exact ⟨xg_game, xk_game, eb_game, xd_game, xa_game, oN, oT, xm_game⟩
      | counts => exact ⟨xg_counts, xk_counts, eb_counts, xd_counts, xa_counts, oN, oT, xm_counts⟩
      | question => exact ⟨xg_question, xk_question, eb_question, xd_question, xa_question, oN, oT, xm_question⟩
      | liar => exact ⟨xg_liar, xk_liar, eb_liar, xd_liar, xa_liar, oN, oT, xm_liar⟩
      | plan => exact ⟨xg_plan, xk_plan, eb_plan, xd_plan, xa_plan, oN, oT, xm_plan⟩
      | text => exact ⟨xg_text, xk_text, eb_text, xd_text, xa_text, oN, oT, xm_text⟩
      | row => cases ht
    · cases t with
      | game =>
        cases u with
        | game => exact kt_game_game
        | counts => exact kt_game_counts
        | question => exact kt_game_question
        | liar => exact kt_game_liar
        | plan => exact kt_game_plan
        | text => exact kt_game_text
        | row => cases hu
      | counts =>
        cases u with
        | game => exact kt_counts_game
        | counts => exact kt_counts_counts
        | question => exact kt_counts_question
        | liar => exact kt_counts_liar
        | plan => exact kt_counts_plan
        | text => exact kt_counts_text
        | row => cases hu
      | question =>
        cases u with
        | game => exact kt_question_game
        | counts => exact kt_question_counts
        | question => exact kt_question_question
        | liar => exact kt_question_liar
        | plan => exact kt_question_plan
        | text => exact kt_question_text
        | row => cases hu
      | liar =>
        cases u with
        | game => exact kt_liar_game
        | counts => exact kt_liar_counts
        | question => exact kt_liar_question
        | liar => exact kt_liar_liar
        | plan => exact kt_liar_plan
        | text => exact kt_liar_text
        | row => cases hu
      | plan =>
        cases u with
        | game => exact kt_plan_game
        | counts => exact kt_plan_counts
        | question => exact kt_plan_question
        | liar => exact kt_plan_liar
        | plan => exact kt_plan_plan
        | text => exact kt_plan_text
        | row => cases hu
      | text =>
        cases u with
        | game => exact kt_text_game
        | counts => exact kt_text_counts
        | question => exact kt_text_question
        | liar => exact kt_text_liar
        | plan => exact kt_text_plan
        | text => exact kt_text_text
        | row => cases hu
      | row => cases ht
    · cases t with
      | game => exact xv_game
      | counts => exact xv_counts
      | question => exact xv_question
      | liar => exact xv_liar
      | plan => exact xv_plan
      | text => exact xv_text
      | row => cases ht
  have xall : XAll G := by
    intro t ht
    cases t with
    | game => exact xl_game
    | counts => exact xl_counts
    | question => exact xl_question
    | liar => exact xl_liar
    | plan => exact xl_plan
    | text => exact xl_text
    | row => cases ht
  have T : Tx G mg := ⟨PySem.W.mg_none_of X Gn b_ValueError, PySem.W.mg_none_of X Gn b_all, PySem.W.mg_none_of X Gn b_bool, PySem.W.mg_none_of X Gn b_int, PySem.W.mg_none_of X Gn b_isinstance, PySem.W.mg_none_of X Gn b_len, PySem.W.mg_none_of X Gn b_list, PySem.W.mg_none_of X Gn b_max, PySem.W.mg_none_of X Gn b_min, PySem.W.mg_none_of X Gn b_range, PySem.W.mg_none_of X Gn b_set, PySem.W.mg_none_of X Gn b_sorted, PySem.W.mg_none_of X Gn b_sum, ⟨_, PySem.W.mg_of X Gn v_MOST_ANSWERED⟩, ⟨_, PySem.W.mg_of X Gn v_MOST_ASKED⟩, ⟨_, PySem.W.mg_of X Gn v_MOST_LIES⟩, ⟨_, PySem.W.mg_of X Gn v_MOST_THINGS⟩, ⟨rfl, PySem.W.mg_of X Gn eg_game, eq_game, ek_game, eb_game, et_game⟩, ⟨rfl, PySem.W.mg_of X Gn eg_counts, eq_counts, ek_counts, eb_counts, et_counts⟩, ⟨rfl, PySem.W.mg_of X Gn eg_question, eq_question, ek_question, eb_question, et_question⟩, ⟨rfl, PySem.W.mg_of X Gn eg_liar, eq_liar, ek_liar, eb_liar, et_liar⟩, ⟨rfl, PySem.W.mg_of X Gn eg_plan, eq_plan, ek_plan, eb_plan, et_plan⟩, ⟨rfl, PySem.W.mg_of X Gn eg_text, eq_text, ek_text, eb_text, et_text⟩, PySem.W.mg_of X Gn aL, exc, xall⟩
  have F_look_game : DefAt G mg "look_game" "look_game" s_look_game ["things", "lies"] := ⟨_, _, fun_mk l_look_game c_look_game k_look_game, (fun_mk (st := s_look_game) l_look_game c_look_game k_look_game).binds (fun _ _ _ _ _ _ us hl => match us, hl with | [_, _], _ => rfl), PySem.W.mg_of X Gn a_look_game⟩
  have F_look_question : DefAt G mg "look_question" "look_question" s_look_question ["things", "question"] := ⟨_, _, fun_mk l_look_question c_look_question k_look_question, (fun_mk (st := s_look_question) l_look_question c_look_question k_look_question).binds (fun _ _ _ _ _ _ us hl => match us, hl with | [_, _], _ => rfl), PySem.W.mg_of X Gn a_look_question⟩
  have F_look_all : DefAt G mg "look_all" "look_all" s_look_all ["things", "lies", "questions"] := ⟨_, _, fun_mk l_look_all c_look_all k_look_all, (fun_mk (st := s_look_all) l_look_all c_look_all k_look_all).binds (fun _ _ _ _ _ _ us hl => match us, hl with | [_, _, _], _ => rfl), PySem.W.mg_of X Gn a_look_all⟩
  have F_far : DefAt G mg "far" "far" s_far ["one", "other", "questions"] := ⟨_, _, fun_mk l_far c_far k_far, (fun_mk (st := s_far) l_far c_far k_far).binds (fun _ _ _ _ _ _ us hl => match us, hl with | [_, _, _], _ => rfl), PySem.W.mg_of X Gn a_far⟩
  have F_nearest : DefAt G mg "nearest" "nearest" s_nearest ["things", "questions"] := ⟨_, _, fun_mk l_nearest c_nearest k_nearest, (fun_mk (st := s_nearest) l_nearest c_nearest k_nearest).binds (fun _ _ _ _ _ _ us hl => match us, hl with | [_, _], _ => rfl), PySem.W.mg_of X Gn a_nearest⟩
  have F_works : DefAt G mg "works" "works" s_works ["things", "lies", "questions"] := ⟨_, _, fun_mk l_works c_works k_works, (fun_mk (st := s_works) l_works c_works k_works).binds (fun _ _ _ _ _ _ us hl => match us, hl with | [_, _, _], _ => rfl), PySem.W.mg_of X Gn a_works⟩
  have F_decoded : DefAt G mg "decoded" "decoded" s_decoded ["things", "lies", "questions", "answers"] := ⟨_, _, fun_mk l_decoded c_decoded k_decoded, (fun_mk (st := s_decoded) l_decoded c_decoded k_decoded).binds (fun _ _ _ _ _ _ us hl => match us, hl with | [_, _, _, _], _ => rfl), PySem.W.mg_of X Gn a_decoded⟩
  have F_look_few : DefAt G mg "look_few" "look_few" s_look_few ["things", "lies", "questions"] := ⟨_, _, fun_mk l_look_few c_look_few k_look_few, (fun_mk (st := s_look_few) l_look_few c_look_few k_look_few).binds (fun _ _ _ _ _ _ us hl => match us, hl with | [_, _, _], _ => rfl), PySem.W.mg_of X Gn a_look_few⟩
  have F_all_answers : DefAt G mg "all_answers" "all_answers" s_all_answers ["many"] := ⟨_, _, fun_mk l_all_answers c_all_answers k_all_answers, (fun_mk (st := s_all_answers) l_all_answers c_all_answers k_all_answers).binds (fun _ _ _ _ _ _ us hl => match us, hl with | [_], _ => rfl), PySem.W.mg_of X Gn a_all_answers⟩
  have F_rows_of : DefAt G mg "rows_of" "rows_of" s_rows_of ["things", "lies", "questions", "thing"] := ⟨_, _, fun_mk l_rows_of c_rows_of k_rows_of, (fun_mk (st := s_rows_of) l_rows_of c_rows_of k_rows_of).binds (fun _ _ _ _ _ _ us hl => match us, hl with | [_, _, _, _], _ => rfl), PySem.W.mg_of X Gn a_rows_of⟩
  have F_spread : DefAt G mg "spread" "spread" s_spread ["things", "lies", "questions"] := ⟨_, _, fun_mk l_spread c_spread k_spread, (fun_mk (st := s_spread) l_spread c_spread k_spread).binds (fun _ _ _ _ _ _ us hl => match us, hl with | [_, _, _], _ => rfl), PySem.W.mg_of X Gn a_spread⟩
  have F_is_full : DefAt G mg "is_full" "is_full" s_is_full ["things", "lies", "questions"] := ⟨_, _, fun_mk l_is_full c_is_full k_is_full, (fun_mk (st := s_is_full) l_is_full c_is_full k_is_full).binds (fun _ _ _ _ _ _ us hl => match us, hl with | [_, _, _], _ => rfl), PySem.W.mg_of X Gn a_is_full⟩
  have F_word_of : DefAt G mg "word_of" "word_of" s_word_of ["questions", "thing"] := ⟨_, _, fun_mk l_word_of c_word_of k_word_of, (fun_mk (st := s_word_of) l_word_of c_word_of k_word_of).binds (fun _ _ _ _ _ _ us hl => match us, hl with | [_, _], _ => rfl), PySem.W.mg_of X Gn a_word_of⟩
  have F_nearest_things : DefAt G mg "nearest_things" "nearest_things" s_nearest_things ["things", "lies", "questions", "answers"] := ⟨_, _, fun_mk l_nearest_things c_nearest_things k_nearest_things, (fun_mk (st := s_nearest_things) l_nearest_things c_nearest_things k_nearest_things).binds (fun _ _ _ _ _ _ us hl => match us, hl with | [_, _, _, _], _ => rfl), PySem.W.mg_of X Gn a_nearest_things⟩
  have F_law_cell : DefAt G mg "_law_cell" "_law_cell" s_law_cell ["script", "k"] := ⟨_, _, fun_mk l_law_cell c_law_cell k_law_cell, (fun_mk (st := s_law_cell) l_law_cell c_law_cell k_law_cell).binds (fun _ _ _ _ _ _ us hl => match us, hl with | [_, _], _ => rfl), PySem.W.mg_of X Gn a_law_cell⟩
  have F_law_mix : DefAt G mg "_law_mix" "_law_mix" s_law_mix ["script", "k"] := ⟨_, _, fun_mk l_law_mix c_law_mix k_law_mix, (fun_mk (st := s_law_mix) l_law_mix c_law_mix k_law_mix).binds (fun _ _ _ _ _ _ us hl => match us, hl with | [_, _], _ => rfl), PySem.W.mg_of X Gn a_law_mix⟩
  have F_law_whole : DefAt G mg "_law_whole" "_law_whole" s_law_whole ["found"] := ⟨_, _, fun_mk l_law_whole c_law_whole k_law_whole, (fun_mk (st := s_law_whole) l_law_whole c_law_whole k_law_whole).binds (fun _ _ _ _ _ _ us hl => match us, hl with | [_], _ => rfl), PySem.W.mg_of X Gn a_law_whole⟩
  have F_law_question : DefAt G mg "_law_question" "_law_question" s_law_question ["script", "k", "things"] := ⟨_, _, fun_mk l_law_question c_law_question k_law_question, (fun_mk (st := s_law_question) l_law_question c_law_question k_law_question).binds (fun _ _ _ _ _ _ us hl => match us, hl with | [_, _, _], _ => rfl), PySem.W.mg_of X Gn a_law_question⟩
  have F_law_ways : DefAt G mg "_law_ways" "_law_ways" s_law_ways ["many", "most"] := ⟨_, _, fun_mk l_law_ways c_law_ways k_law_ways, (fun_mk (st := s_law_ways) l_law_ways c_law_ways k_law_ways).binds (fun _ _ _ _ _ _ us hl => match us, hl with | [_, _], _ => rfl), PySem.W.mg_of X Gn a_law_ways⟩
  have F_law_refusal : DefAt G mg "_law_refusal" "_law_refusal" s_law_refusal ["kept"] := ⟨_, _, fun_mk l_law_refusal c_law_refusal k_law_refusal, (fun_mk (st := s_law_refusal) l_law_refusal c_law_refusal k_law_refusal).binds (fun _ _ _ _ _ _ us hl => match us, hl with | [_], _ => rfl), PySem.W.mg_of X Gn a_law_refusal⟩
  have F_law_told : DefAt G mg "_law_told" "_law_told" s_law_told ["way", "things", "lies", "questions", "extra"] := ⟨_, _, fun_mk l_law_told c_law_told k_law_told, (fun_mk (st := s_law_told) l_law_told c_law_told k_law_told).binds (fun _ _ _ _ _ _ us hl => match us, hl with | [_, _, _, _, _], _ => rfl), PySem.W.mg_of X Gn a_law_told⟩
  have F_law_rows : DefAt G mg "_law_rows" "_law_rows" s_law_rows ["many"] := ⟨_, _, fun_mk l_law_rows c_law_rows k_law_rows, (fun_mk (st := s_law_rows) l_law_rows c_law_rows k_law_rows).binds (fun _ _ _ _ _ _ us hl => match us, hl with | [_], _ => rfl), PySem.W.mg_of X Gn a_law_rows⟩
  have F_law_lied : DefAt G mg "_law_lied" "_law_lied" s_law_lied ["questions", "row", "thing"] := ⟨_, _, fun_mk l_law_lied c_law_lied k_law_lied, (fun_mk (st := s_law_lied) l_law_lied c_law_lied k_law_lied).binds (fun _ _ _ _ _ _ us hl => match us, hl with | [_, _, _], _ => rfl), PySem.W.mg_of X Gn a_law_lied⟩
  have F_law_questions : DefAt G mg "_law_questions" "_law_questions" s_law_questions ["script", "things"] := ⟨_, _, fun_mk l_law_questions c_law_questions k_law_questions, (fun_mk (st := s_law_questions) l_law_questions c_law_questions k_law_questions).binds (fun _ _ _ _ _ _ us hl => match us, hl with | [_, _], _ => rfl), PySem.W.mg_of X Gn a_law_questions⟩
  have F_law_refused : DefAt G mg "_law_refused" "_law_refused" s_law_refused ["things", "lies", "questions", "row"] := ⟨_, _, fun_mk l_law_refused c_law_refused k_law_refused, (fun_mk (st := s_law_refused) l_law_refused c_law_refused k_law_refused).binds (fun _ _ _ _ _ _ us hl => match us, hl with | [_, _, _, _], _ => rfl), PySem.W.mg_of X Gn a_law_refused⟩
  refine ⟨PySem.W.fnOf "law" "law" (defArgs s_law) (defBody s_law) (defScope s_law) .none kV_law dc_law pm_law an_law cd_law ct_law, fun s v => .of_eq rfl, fun base _ _ => ?_⟩
  have h_look_game := fk_look_game (P := P) (base := base) T F_look_game
  have h_look_question := fk_look_question (P := P) (base := base) T F_look_question
  have h_look_all := fk_look_all (P := P) (base := base) T F_look_all h_look_game h_look_question
  have h_far := fk_far (P := P) (base := base) T F_far
  have h_nearest := fk_nearest (P := P) (base := base) T F_nearest h_far
  have h_works := fk_works (P := P) (base := base) T F_works h_look_all h_nearest
  have h_decoded := fk_decoded (P := P) (base := base) T F_decoded h_look_all
  have h_look_few := fk_look_few (P := P) (base := base) T F_look_few h_look_all
  have h_all_answers := fk_all_answers (P := P) (base := base) T F_all_answers
  have h_rows_of := fk_rows_of (P := P) (base := base) T F_rows_of h_look_few h_all_answers h_decoded
  have h_spread := fk_spread (P := P) (base := base) T F_spread h_look_few h_all_answers h_decoded
  have h_is_full := fk_is_full (P := P) (base := base) T F_is_full h_look_few h_works h_spread
  have h_word_of := fk_word_of (P := P) (base := base) T F_word_of
  have h_nearest_things := fk_nearest_things (P := P) (base := base) T F_nearest_things h_look_all h_word_of
  have h_law_cell := fk_law_cell (P := P) (base := base) T F_law_cell
  have h_law_mix := fk_law_mix (P := P) (base := base) T F_law_mix h_law_cell
  have h_law_whole := fk_law_whole (P := P) (base := base) T F_law_whole
  have h_law_question := fk_law_question (P := P) (base := base) T F_law_question h_law_mix
  have h_law_ways := fk_law_ways (P := P) (base := base) T F_law_ways
  have h_law_refusal := fk_law_refusal (P := P) (base := base) T F_law_refusal
  have h_law_told := fk_law_told (P := P) (base := base) T F_law_told h_spread h_is_full h_rows_of h_nearest_things h_law_refusal
  have h_law_rows := fk_law_rows (P := P) (base := base) T F_law_rows
  have h_law_lied := fk_law_lied (P := P) (base := base) T F_law_lied
  have h_law_questions := fk_law_questions (P := P) (base := base) T F_law_questions h_law_mix h_law_question
  have h_law_refused := fk_law_refused (P := P) (base := base) T F_law_refused h_law_told
  exact law_end (G := G) (S := S_law) (fun ns hl => ask_law ns hl) (fl_law T (fun_mk (st := s_law) l_law c_law k_law) h_law_mix h_law_questions h_law_rows h_law_lied h_law_told h_law_whole h_works h_law_ways h_law_refused)
end Lb

open PySem PySem.W PyProof.Rows
set_option maxRecDepth 100000 in
set_option maxHeartbeats 0 in
theorem PySem.Challenge.cw_liarbook_k60_whole_answers_holds : PySem.Challenge.rw_liarbook_k60_whole_answers.Holds := by
  w_on; o_law; k_head; (case hw => w_witness2)
  k_fill
  refine L2.walk_of (l := PySem.Challenge.rw_liarbook_k60_whole_answers) (n := 63) (k := 8) (x := "script") (CX := fun w => L2.CX PySem.Challenge.rw_liarbook_k60_whole_answers.prog w) (sp := fun w => Lb.sp_law _) rfl (by decide) rfl ⟨rfl, by decide, by decide⟩ (fun w h Y => PySem.W.kIn_of Y) ?F (fun _ _ a ns hl _ hS => ⟨a, ns, rfl, hS, hl, fun _ => rfl⟩) (fun _ _ _ _ _ z => Lb.no_cx z)
  case F =>
    intro w mg fa h KX G hmg
    refine' Lb.all_mk KX G hmg ?a_look_game ?l_look_game ?c_look_game ?k_look_game ?a_look_question ?l_look_question ?c_look_question ?k_look_question ?a_look_all ?l_look_all ?c_look_all ?k_look_all ?a_far ?l_far ?c_far ?k_far ?a_nearest ?l_nearest ?c_nearest ?k_nearest ?a_works ?l_works ?c_works ?k_works ?a_decoded ?l_decoded ?c_decoded ?k_decoded ?a_look_few ?l_look_few ?c_look_few ?k_look_few ?a_all_answers ?l_all_answers ?c_all_answers ?k_all_answers ?a_rows_of ?l_rows_of ?c_rows_of ?k_rows_of ?a_spread ?l_spread ?c_spread ?k_spread ?a_is_full ?l_is_full ?c_is_full ?k_is_full ?a_word_of ?l_word_of ?c_word_of ?k_word_of ?a_nearest_things ?l_nearest_things ?c_nearest_things ?k_nearest_things ?a_law_cell ?l_law_cell ?c_law_cell ?k_law_cell ?a_law_mix ?l_law_mix ?c_law_mix ?k_law_mix ?a_law_whole ?l_law_whole ?c_law_whole ?k_law_whole ?a_law_question ?l_law_question ?c_law_question ?k_law_question ?a_law_ways ?l_law_ways ?c_law_ways ?k_law_ways ?a_law_refusal ?l_law_refusal ?c_law_refusal ?k_law_refusal ?a_law_told ?l_law_told ?c_law_told ?k_law_told ?a_law_rows ?l_law_rows ?c_law_rows ?k_law_rows ?a_law_lied ?l_law_lied ?c_law_lied ?k_law_lied ?a_law_questions ?l_law_questions ?c_law_questions ?k_law_questions ?a_law_refused ?l_law_refused ?c_law_refused ?k_law_refused ?a_law ?l_law ?c_law ?k_law ?aL ?oN ?oT ?eg_game ?eq_game ?ek_game ?eb_game ?et_game ?xg_game ?xk_game ?xd_game ?xa_game ?xm_game ?xv_game ?xl_game ?eg_counts ?eq_counts ?ek_counts ?eb_counts ?et_counts ?xg_counts ?xk_counts ?xd_counts ?xa_counts ?xm_counts ?xv_counts ?xl_counts ?eg_question ?eq_question ?ek_question ?eb_question ?et_question ?xg_question ?xk_question ?xd_question ?xa_question ?xm_question ?xv_question ?xl_question ?eg_liar ?eq_liar ?ek_liar ?eb_liar ?et_liar ?xg_liar ?xk_liar ?xd_liar ?xa_liar ?xm_liar ?xv_liar ?xl_liar ?eg_plan ?eq_plan ?ek_plan ?eb_plan ?et_plan ?xg_plan ?xk_plan ?xd_plan ?xa_plan ?xm_plan ?xv_plan ?xl_plan ?eg_text ?eq_text ?ek_text ?eb_text ?et_text ?xg_text ?xk_text ?xd_text ?xa_text ?xm_text ?xv_text ?xl_text ?kt_game_game ?kt_game_counts ?kt_game_question ?kt_game_liar ?kt_game_plan ?kt_game_text ?kt_counts_game ?kt_counts_counts ?kt_counts_question ?kt_counts_liar ?kt_counts_plan ?kt_counts_text ?kt_question_game ?kt_question_counts ?kt_question_question ?kt_question_liar ?kt_question_plan ?kt_question_text ?kt_liar_game ?kt_liar_counts ?kt_liar_question ?kt_liar_liar ?kt_liar_plan ?kt_liar_text ?kt_plan_game ?kt_plan_counts ?kt_plan_question ?kt_plan_liar ?kt_plan_plan ?kt_plan_text ?kt_text_game ?kt_text_counts ?kt_text_question ?kt_text_liar ?kt_text_plan ?kt_text_text ?b_ValueError ?b_all ?b_bool ?b_int ?b_isinstance ?b_len ?b_list ?b_max ?b_min ?b_range ?b_set ?b_sorted ?b_sum ?v_MOST_ANSWERED ?v_MOST_ASKED ?v_MOST_LIES ?v_MOST_THINGS
    (case a_look_game => k_is)
    (case l_look_game => k_is)
    (case c_look_game => k_is)
    (case k_look_game => k_is)
    (case a_look_question => k_is)
    (case l_look_question => k_is)
    (case c_look_question => k_is)
    (case k_look_question => k_is)
    (case a_look_all => k_is)
    (case l_look_all => k_is)
    (case c_look_all => k_is)
    (case k_look_all => k_is)
    (case a_far => k_is)
    (case l_far => k_is)
    (case c_far => k_is)
    (case k_far => k_is)
    (case a_nearest => k_is)
    (case l_nearest => k_is)
    (case c_nearest => k_is)
    (case k_nearest => k_is)
    (case a_works => k_is)
    (case l_works => k_is)
    (case c_works => k_is)
    (case k_works => k_is)
    (case a_decoded => k_is)
    (case l_decoded => k_is)
    (case c_decoded => k_is)
    (case k_decoded => k_is)
    (case a_look_few => k_is)
    (case l_look_few => k_is)
    (case c_look_few => k_is)
    (case k_look_few => k_is)
    (case a_all_answers => k_is)
    (case l_all_answers => k_is)
    (case c_all_answers => k_is)
    (case k_all_answers => k_is)
    (case a_rows_of => k_is)
    (case l_rows_of => k_is)
    (case c_rows_of => k_is)
    (case k_rows_of => k_is)
    (case a_spread => k_is)
    (case l_spread => k_is)
    (case c_spread => k_is)
    (case k_spread => k_is)
    (case a_is_full => k_is)
    (case l_is_full => k_is)
    (case c_is_full => k_is)
    (case k_is_full => k_is)
    (case a_word_of => k_is)
    (case l_word_of => k_is)
    (case c_word_of => k_is)
    (case k_word_of => k_is)
    (case a_nearest_things => k_is)
    (case l_nearest_things => k_is)
    (case c_nearest_things => k_is)
    (case k_nearest_things => k_is)
    (case a_law_cell => k_is)
    (case l_law_cell => k_is)
    (case c_law_cell => k_is)
    (case k_law_cell => k_is)
    (case a_law_mix => k_is)
    (case l_law_mix => k_is)
    (case c_law_mix => k_is)
    (case k_law_mix => k_is)
    (case a_law_whole => k_is)
    (case l_law_whole => k_is)
    (case c_law_whole => k_is)
    (case k_law_whole => k_is)
    (case a_law_question => k_is)
    (case l_law_question => k_is)
    (case c_law_question => k_is)
    (case k_law_question => k_is)
    (case a_law_ways => k_is)
    (case l_law_ways => k_is)
    (case c_law_ways => k_is)
    (case k_law_ways => k_is)
    (case a_law_refusal => k_is)
    (case l_law_refusal => k_is)
    (case c_law_refusal => k_is)
    (case k_law_refusal => k_is)
    (case a_law_told => k_is)
    (case l_law_told => k_is)
    (case c_law_told => k_is)
    (case k_law_told => k_is)
    (case a_law_rows => k_is)
    (case l_law_rows => k_is)
    (case c_law_rows => k_is)
    (case k_law_rows => k_is)
    (case a_law_lied => k_is)
    (case l_law_lied => k_is)
    (case c_law_lied => k_is)
    (case k_law_lied => k_is)
    (case a_law_questions => k_is)
    (case l_law_questions => k_is)
    (case c_law_questions => k_is)
    (case k_law_questions => k_is)
    (case a_law_refused => k_is)
    (case l_law_refused => k_is)
    (case c_law_refused => k_is)
    (case k_law_refused => k_is)
    (case a_law => k_is)
    (case l_law => k_is)
    (case c_law => k_is)
    (case k_law => k_is)
    (case aL => k_is)
    (case oN => k_is)
    (case oT => k_is)
    (case eg_game => k_is)
    (case eq_game => k_exc)
    (case ek_game => k_is)
    (case eb_game => k_is)
    (case et_game => k_is)
    (case xg_game => k_is)
    (case xk_game => k_is)
    (case xd_game => k_is)
    (case xa_game => k_is)
    (case xm_game => k_is)
    (case xv_game => kit_is)
    (case xl_game => kts_exm)
    (case eg_counts => k_is)
    (case eq_counts => k_exc)
    (case ek_counts => k_is)
    (case eb_counts => k_is)
    (case et_counts => k_is)
    (case xg_counts => k_is)
    (case xk_counts => k_is)
    (case xd_counts => k_is)
    (case xa_counts => k_is)
    (case xm_counts => k_is)
    (case xv_counts => kit_is)
    (case xl_counts => kts_exm)
    (case eg_question => k_is)
    (case eq_question => k_exc)
    (case ek_question => k_is)
    (case eb_question => k_is)
    (case et_question => k_is)
    (case xg_question => k_is)
    (case xk_question => k_is)
    (case xd_question => k_is)
    (case xa_question => k_is)
    (case xm_question => k_is)
    (case xv_question => kit_is)
    (case xl_question => kts_exm)
    (case eg_liar => k_is)
    (case eq_liar => k_exc)
    (case ek_liar => k_is)
    (case eb_liar => k_is)
    (case et_liar => k_is)
    (case xg_liar => k_is)
    (case xk_liar => k_is)
    (case xd_liar => k_is)
    (case xa_liar => k_is)
    (case xm_liar => k_is)
    (case xv_liar => kit_is)
    (case xl_liar => kts_exm)
    (case eg_plan => k_is)
    (case eq_plan => k_exc)
    (case ek_plan => k_is)
    (case eb_plan => k_is)
    (case et_plan => k_is)
    (case xg_plan => k_is)
    (case xk_plan => k_is)
    (case xd_plan => k_is)
    (case xa_plan => k_is)
    (case xm_plan => k_is)
    (case xv_plan => kit_is)
    (case xl_plan => kts_exm)
    (case eg_text => k_is)
    (case eq_text => k_exc)
    (case ek_text => k_is)
    (case eb_text => k_is)
    (case et_text => k_is)
    (case xg_text => k_is)
    (case xk_text => k_is)
    (case xd_text => k_is)
    (case xa_text => k_is)
    (case xm_text => k_is)
    (case xv_text => kit_is)
    (case xl_text => kts_exm)
    (case kt_game_game => kit_is)
    (case kt_game_counts => kit_is)
    (case kt_game_question => kit_is)
    (case kt_game_liar => kit_is)
    (case kt_game_plan => kit_is)
    (case kt_game_text => kit_is)
    (case kt_counts_game => kit_is)
    (case kt_counts_counts => kit_is)
    (case kt_counts_question => kit_is)
    (case kt_counts_liar => kit_is)
    (case kt_counts_plan => kit_is)
    (case kt_counts_text => kit_is)
    (case kt_question_game => kit_is)
    (case kt_question_counts => kit_is)
    (case kt_question_question => kit_is)
    (case kt_question_liar => kit_is)
    (case kt_question_plan => kit_is)
    (case kt_question_text => kit_is)
    (case kt_liar_game => kit_is)
    (case kt_liar_counts => kit_is)
    (case kt_liar_question => kit_is)
    (case kt_liar_liar => kit_is)
    (case kt_liar_plan => kit_is)
    (case kt_liar_text => kit_is)
    (case kt_plan_game => kit_is)
    (case kt_plan_counts => kit_is)
    (case kt_plan_question => kit_is)
    (case kt_plan_liar => kit_is)
    (case kt_plan_plan => kit_is)
    (case kt_plan_text => kit_is)
    (case kt_text_game => kit_is)
    (case kt_text_counts => kit_is)
    (case kt_text_question => kit_is)
    (case kt_text_liar => kit_is)
    (case kt_text_plan => kit_is)
    (case kt_text_text => kit_is)
    (case b_ValueError => k_is)
    (case b_all => k_is)
    (case b_bool => k_is)
    (case b_int => k_is)
    (case b_isinstance => k_is)
    (case b_len => k_is)
    (case b_list => k_is)
    (case b_max => k_is)
    (case b_min => k_is)
    (case b_range => k_is)
    (case b_set => k_is)
    (case b_sorted => k_is)
    (case b_sum => k_is)
    (case v_MOST_ANSWERED => k_is)
    (case v_MOST_ASKED => k_is)
    (case v_MOST_LIES => k_is)
    (case v_MOST_THINGS => k_is)
