import PyProof.Rows.All
import Wide.All
import OpenK.AllK
import Wide.FinOn
import HandS.ForMost
import HandS.IsInst
import HandS.Wide
import HandS.Style
import HandS.Flow
import HandS.TupAny
import HandS.TupMul
import HandS.EndBits
import HandS.Evl
import KE.KDictKeyed
import HandS.Zip
import KE.KeyNested
import KE.KDictDisplayH
import KE.GoesEnum
import HandS.Set
import HandS.SetFor
import HandS.SetKeys
import HandS.Strs
import PySem.Challenge.RW_selfstarts_k08_whole_good_values
set_option Elab.async false
set_option linter.all false
set_option maxRecDepth 100000
set_option maxHeartbeats 4000000
set_option autoImplicit false
/-! PD: what a program over plain data computes, as Lean functions over plain data (states: the slots of a def); each rule of HandS is told once over this reading. -/
namespace PD
open PySem PySem.Spec L2
open Evl (Ex)

abbrev D := PyData
/-- what a slot holds: a datum, or a list that nobody else holds -/
inductive LV where
  | d (x : D)
  | own (xs : List D)
  | dct (kvs : List (D × D))
def LV.owned : LV → Bool
  | .d _ => false
  | .own _ => true
  | .dct _ => true
abbrev DE := List (Option LV)
/-- an error that is raised: its class's name, its field -/
structure EV where
  cls : Str
  arg : Option Int
/-- how an expression ends: a value and the slots; an error; or it is not told -/
inductive R (α : Type) where
  | ok (a : α) (ρ : DE)
  | ex (e : EV) (ρ : DE)
  | bad
abbrev M (α : Type) : Type := DE → R α
def M.bind {α β : Type} (m : M α) (k : α → M β) : M β := fun ρ => match m ρ with
  | .ok a ρ1 => k a ρ1
  | .ex e ρ1 => .ex e ρ1
  | .bad => .bad
def M.ret {α : Type} (a : α) : M α := fun ρ => .ok a ρ
def M.lift {α : Type} (o : Option α) : M α := fun ρ => match o with
  | some a => .ok a ρ
  | none => .bad

end PD
namespace L2
open PySem PySem.Spec
open Evl (Ex)
abbrev PDD := PyData
/-! ### data at an address -/
mutual
theorem Dp.mono {K : PySem.W.Frag} {H H' : Hp} (e : Ex H H') : ∀ (d : PDD) (v : V), Dp K H v d → Dp K H' v d
  | .none, _, h => by cases h; exact .non
  | .bool b, _, h => by cases h; exact .bl b
  | .int i, _, h => by cases h; exact .int i
  | .str x, _, h => by cases h; exact .str x
  | .list ds, _, h => by
    cases h with
    | lst hs ha => exact .lst (Evl.ex_l e hs) (DpAll.mono e ds _ ha)
  | .tuple ds, _, h => by
    cases h with
    | tup hs ha => exact .tup (Evl.ex_t e hs) (DpAll.mono e ds _ ha)
  | .dict _, _, h => by cases h
theorem DpAll.mono {K : PySem.W.Frag} {H H' : Hp} (e : Ex H H') : ∀ (ds : List PDD) (vs : List V), DpAll K H vs ds → DpAll K H' vs ds
  | [], _, h => by cases h; exact .nil
  | d :: ds, _, h => by
    cases h with
    | cons h1 h2 => exact .cons (Dp.mono e d _ h1) (DpAll.mono e ds _ h2)
end
section
variable {K : PySem.W.Frag} {H H' : Hp}
theorem DpAll.length : ∀ {vs : List V} {ds : List PDD}, DpAll K H vs ds → vs.length = ds.length
  | _, _, .nil => rfl
  | _, _, .cons _ h => by rw [List.length_cons, List.length_cons, DpAll.length h]
theorem DpAll.get : ∀ {vs : List V} {ds : List PDD} {i : Nat} {x : PDD}, DpAll K H vs ds → ds[i]? = some x → ∃ v, vs[i]? = some v ∧ Dp K H v x
  | _, _, _, _, .nil, e => by simp at e
  | _, _, 0, _, .cons h _, e => by
    simp at e
    subst e
    exact ⟨_, rfl, h⟩
  | _, _, i + 1, x, .cons _ h, e => by
    obtain ⟨v, h1, h2⟩ := DpAll.get (i := i) (x := x) h (by simpa using e)
    exact ⟨v, by simpa using h1, h2⟩
theorem DpAll.get' : ∀ {vs : List V} {ds : List PDD} {i : Nat} {v : V}, DpAll K H vs ds → vs[i]? = some v → ∃ x, ds[i]? = some x ∧ Dp K H v x
  | _, _, _, _, .nil, e => by simp at e
  | _, _, 0, _, .cons h _, e => by
    simp at e
    subst e
    exact ⟨_, rfl, h⟩
  | _, _, i + 1, v, .cons _ h, e => by
    obtain ⟨x, h1, h2⟩ := DpAll.get' (i := i) (v := v) h (by simpa using e)
    exact ⟨x, by simpa using h1, h2⟩
theorem DpAll.append : ∀ {vs ws : List V} {ds es : List PDD}, DpAll K H vs ds → DpAll K H ws es → DpAll K H (vs ++ ws) (ds ++ es)
  | _, _, _, _, .nil, h => h
  | _, _, _, _, .cons a b, h => .cons a (DpAll.append b h)
theorem DpAll.take : ∀ {vs : List V} {ds : List PDD} (n : Nat), DpAll K H vs ds → DpAll K H (vs.take n) (ds.take n)
  | _, _, 0, _ => .nil
  | _, _, _ + 1, .nil => .nil
  | _, _, n + 1, .cons a b => .cons a (DpAll.take n b)
theorem DpAll.drop : ∀ {vs : List V} {ds : List PDD} (n : Nat), DpAll K H vs ds → DpAll K H (vs.drop n) (ds.drop n)
  | _, _, 0, h => h
  | _, _, _ + 1, .nil => .nil
  | _, _, n + 1, .cons _ b => DpAll.drop n b
theorem DpAll.set : ∀ {vs : List V} {ds : List PDD} {v : V} {x : PDD} (i : Nat), DpAll K H vs ds → Dp K H v x → DpAll K H (vs.set i v) (ds.set i x)
  | _, _, _, _, _, .nil, _ => .nil
  | _, _, _, _, 0, .cons _ b, h => .cons h b
  | _, _, _, _, i + 1, .cons a b, h => .cons a (DpAll.set i b h)
theorem DpAll.rep : ∀ {vs : List V} {ds : List PDD} (n : Nat), DpAll K H vs ds → DpAll K H (List.replicate n vs).flatten (List.replicate n ds).flatten
  | _, _, 0, _ => .nil
  | vs, ds, n + 1, h => by
    rw [List.replicate_succ, List.replicate_succ, List.flatten_cons, List.flatten_cons]
    exact DpAll.append h (DpAll.rep n h)
theorem DpAll.dropLast {vs : List V} {ds : List PDD} (h : DpAll K H vs ds) : DpAll K H vs.dropLast ds.dropLast := by
  rw [List.dropLast_eq_take, List.dropLast_eq_take, DpAll.length h]
  exact DpAll.take _ h
theorem Dp.int_of {i : Int} {v : V} (h : Dp K H v (.int i)) : v = .int i := by cases h; rfl
theorem Dp.bool_of {i : Bool} {v : V} (h : Dp K H v (.bool i)) : v = .bl i := by cases h; rfl
theorem Dp.str_of {i : Str} {v : V} (h : Dp K H v (.str i)) : v = .str i := by cases h; rfl
theorem Dp.none_of {v : V} (h : Dp K H v .none) : v = .non := by cases h; rfl
theorem Dp.tup_of {ds : List PDD} {v : V} (h : Dp K H v (.tuple ds)) : ∃ a vs, v = .ref a ∧ SqT K H a vs ∧ DpAll K H vs ds := by
  cases h with
  | tup hs ha => exact ⟨_, _, rfl, hs, ha⟩
theorem Dp.list_of {ds : List PDD} {v : V} (h : Dp K H v (.list ds)) : ∃ a vs, v = .ref a ∧ SqL K H a vs ∧ DpAll K H vs ds := by
  cases h with
  | lst hs ha => exact ⟨_, _, rfl, hs, ha⟩
end

end L2
namespace PD
open PySem PySem.Spec L2
open Evl (Ex)
/-! ### dicts that nobody else holds -/
mutual
/-- a datum as a key -/
def nk : D → Option NestedKey
  | .none => some .none
  | .bool b => some (.num (if b then 1 else 0))
  | .int i => some (.num i)
  | .str x => some (.text x)
  | .tuple xs => (nkAll xs).map .tup
  | .list _ => none
  | .dict _ => none
def nkAll : List D → Option (List NestedKey)
  | [] => some []
  | x :: xs => (nk x).bind fun k => (nkAll xs).map fun ks => k :: ks
end
/-- a key of a dict of ints and texts, as a datum -/
def keyD : Key → D
  | .inl i => .int i
  | .inr x => .str x
def entN (w : World) (x : NestedKey × Addr × Value) : DictEntry := ⟨x.1.hash w, .ref x.2.1, x.2.2⟩
/-- at a stands a dict with just these entries, its keys tuples -/
def RawN (w : World) (a : Addr) (xs : List (NestedKey × Addr × Value)) : Heap → Prop := fun h => xs.length ≤ sizeLine ∧ (a == sysModules) = false ∧
  ∃ o es ep, h.get? a = some o ∧ o.ExactDict ∧ o.data = .dict es ep ∧ es.toList = xs.map (entN w) ∧ (xs.map (·.1)).Nodup
def KeysRel (K : PySem.W.Frag) (Hf : Hp) : List (Key × V) → List (D × D) → Prop := Paired fun p q => keyD p.1 = q.1 ∧ Dp K Hf p.2 q.2
def RelN (K : PySem.W.Frag) (Hf : Hp) : List (NestedKey × Addr × Value) → List (D × D) → Prop :=
  Paired fun x q => nk q.1 = some x.1 ∧ x.1.depth ≤ 8 ∧ Dp K Hf (.ref x.2.1) q.1 ∧ ∃ v, RelV v x.2.2 ∧ Dp K Hf v q.2
def DictHo (w : World) (K : PySem.W.Frag) (Hf : Hp) (a : Addr) (ho : HO) (kvs : List (D × D)) : Prop :=
  (∃ ks, ho = .dK ks ∧ KeysRel K Hf ks kvs) ∨ ∃ xs, ho = .ext (RawN w a xs) ∧ RelN K Hf xs kvs ∧ xs ≠ []
/-- what stands at a is what the slot says -/
def HoldsO (w : World) (K : PySem.W.Frag) (Hf : Hp) (a : Addr) (ho : HO) : LV → Prop
  | .d _ => False
  | .own xs => ∃ vs, ho = .lst vs ∧ DpAll K Hf vs xs
  | .dct kvs => DictHo w K Hf a ho kvs
theorem HoldsO.mono {w : World} {K : PySem.W.Frag} {Hf Hf' : Hp} {a : Addr} {ho : HO} (e : Ex Hf Hf') : ∀ {l : LV}, HoldsO w K Hf a ho l → HoldsO w K Hf' a ho l
  | .own _, ⟨vs, h1, h2⟩ => ⟨vs, h1, DpAll.mono e _ _ h2⟩
  | .dct _, .inl ⟨ks, h1, h2⟩ => .inl ⟨ks, h1, Paired.mapP h2 fun _ _ z => ⟨z.1, Dp.mono e _ _ z.2⟩⟩
  | .dct _, .inr ⟨xs, h1, h2, h3⟩ => .inr ⟨xs, h1, Paired.mapP h2 fun _ _ z => ⟨z.1, z.2.1, Dp.mono e _ _ z.2.2.1, let ⟨v, r, d⟩ := z.2.2.2; ⟨v, r, Dp.mono e _ _ d⟩⟩, h3⟩
theorem HoldsO.owned {w : World} {K : PySem.W.Frag} {Hf : Hp} {a : Addr} {ho : HO} : ∀ {l : LV}, HoldsO w K Hf a ho l → l.owned = true
  | .own _, _ => rfl
  | .dct _, _ => rfl
/-! ### the state of a def, and what it means -/
/-- the def's entry: what was frozen, the heap; the one list that a caller handed in as its own (slot, address); lists that are being made around us; the wish of errors -/
structure Fc where
  Hf0 : Hp
  H0 : Hp
  io : Option (Nat × Addr)
  no : List (Addr × HO)
  E : EV → Hp → Prop
  w : World
/-- the slot holds a thing of our own -/
def IsOwn (ρ : DE) (i : Nat) : Prop := ∃ l : LV, ρ[i]? = some (some l) ∧ l.owned = true
def IsLst (ρ : DE) (i : Nat) : Prop := ∃ xs : List D, ρ[i]? = some (some (LV.own xs))
theorem IsLst.own {ρ : DE} {i : Nat} (h : IsLst ρ i) : IsOwn ρ i := let ⟨_, e⟩ := h; ⟨_, e, rfl⟩
structure SR (K : PySem.W.Frag) (C : Fc) (Hf H : Hp) (σ : L2.St) (ρ : DE) : Prop where
  len : σ.length = ρ.length
  e0 : Ex C.Hf0 Hf
  e1 : Ex Hf H
  fresh : ∀ b o, Hf b = some o → C.Hf0 b = some o ∨ C.H0 b = none
  keep : ∀ b o, C.H0 b = some o → (∀ q, C.io = some q → b ≠ q.2) → H b = some o
  pin : ∀ q, C.io = some q → σ[q.1]? = some (some (.ref q.2)) ∧ IsLst ρ q.1
  no : ∀ p ∈ C.no, Hf p.1 = none ∧ H p.1 = some p.2
  val : ∀ (i : Nat) (x : D), ρ[i]? = some (some (.d x)) → ∃ v, σ[i]? = some (some v) ∧ Dp K Hf v x
  ownd : ∀ (i : Nat) (l : LV), ρ[i]? = some (some l) → l.owned = true → ∃ a ho, σ[i]? = some (some (.ref a)) ∧ Hf a = none ∧ H a = some ho ∧ HoldsO C.w K Hf a ho l ∧ (C.H0 a = none ∨ ∃ q, C.io = some q ∧ a = q.2) ∧ ∀ p ∈ C.no, a ≠ p.1
  apart : ∀ (i j : Nat) (a : Addr), i ≠ j → IsOwn ρ i → IsOwn ρ j → σ[i]? = some (some (.ref a)) → σ[j]? = some (some (.ref a)) → False

theorem SR.own {K : PySem.W.Frag} {C : Fc} {Hf H : Hp} {σ : L2.St} {ρ : DE} (s : SR K C Hf H σ ρ) (i : Nat) (xs : List D) (h : ρ[i]? = some (some (.own xs))) : ∃ a vs, σ[i]? = some (some (.ref a)) ∧ Hf a = none ∧ H a = some (.lst vs) ∧ DpAll K Hf vs xs ∧ (C.H0 a = none ∨ ∃ q, C.io = some q ∧ a = q.2) ∧ ∀ p ∈ C.no, a ≠ p.1 := by
  obtain ⟨a, ho, h1, h2, h3, ⟨vs, rfl, h4⟩, h5, h6⟩ := s.ownd i _ h rfl
  exact ⟨a, vs, h1, h2, h3, h4, h5, h6⟩
theorem SR.dct {K : PySem.W.Frag} {C : Fc} {Hf H : Hp} {σ : L2.St} {ρ : DE} (s : SR K C Hf H σ ρ) (i : Nat) (kvs : List (D × D)) (h : ρ[i]? = some (some (.dct kvs))) : ∃ a ho, σ[i]? = some (some (.ref a)) ∧ Hf a = none ∧ H a = some ho ∧ DictHo C.w K Hf a ho kvs ∧ (C.H0 a = none ∨ ∃ q, C.io = some q ∧ a = q.2) ∧ ∀ p ∈ C.no, a ≠ p.1 := s.ownd i _ h rfl
/-- both heaps grow by new objects -/
structure Grow (Hf H Hf' H' : Hp) : Prop where
  f : Ex Hf Hf'
  h : Ex H H'
  s : Ex Hf' H'
  n : ∀ b o, Hf' b = some o → Hf b = some o ∨ H b = none
theorem Grow.refl {Hf H : Hp} (e : Ex Hf H) : Grow Hf H Hf H := ⟨Ex.refl _, Ex.refl _, e, fun _ _ h => .inl h⟩
theorem Grow.trans {Hf H Hf1 H1 Hf2 H2 : Hp} (a : Grow Hf H Hf1 H1) (b : Grow Hf1 H1 Hf2 H2) : Grow Hf H Hf2 H2 :=
  ⟨a.f.trans b.f, a.h.trans b.h, b.s, fun c o h => by
    rcases b.n c o h with h1 | h1
    · exact a.n c o h1
    · exact .inr (Evl.fresh_back a.h h1)⟩
theorem ex_upd2 {Hf H : Hp} {p : Addr} {o : HO} (e : Ex Hf H) : Ex (upd Hf p o) (upd H p o) := fun b u h => by
  by_cases hb : b = p
  · subst hb
    rw [upd_same] at h ⊢
    exact h
  · rw [upd_ne hb] at h ⊢
    exact e b u h
/-- a new object, known to all -/
theorem Grow.new {Hf H : Hp} {p : Addr} {o : HO} (e : Ex Hf H) (hp : H p = none) : Grow Hf H (upd Hf p o) (upd H p o) :=
  ⟨Ex.new (Evl.fresh_back e hp), Ex.new hp, ex_upd2 e, fun b u h => by
    by_cases hb : b = p
    · exact .inr (hb ▸ hp)
    · rw [upd_ne hb] at h
      exact .inl h⟩
/-- a new object of ours -/
theorem Grow.mine {Hf H : Hp} {p : Addr} {o : HO} (e : Ex Hf H) (hp : H p = none) : Grow Hf H Hf (upd H p o) :=
  ⟨Ex.refl _, Ex.new hp, e.trans (Ex.new hp), fun _ _ h => .inl h⟩

section
variable {K : PySem.W.Frag} {C : Fc} {Hf H Hf' H' : Hp} {σ : L2.St} {ρ : DE}
theorem SR.h0 (s : SR K C Hf H σ ρ) {p : Addr} (hp : H p = none) : C.H0 p = none := by
  cases hz : C.H0 p with
  | none => rfl
  | some o =>
    by_cases hq : ∀ q, C.io = some q → p ≠ q.2
    · rw [s.keep p o hz hq] at hp
      cases hp
    · cases hi : C.io with
      | none => exact absurd (fun q h => by rw [hi] at h; cases h) hq
      | some q =>
        by_cases e : p = q.2
        · subst e
          obtain ⟨h1, xs, h2⟩ := s.pin q hi
          obtain ⟨a, vs, h3, _, h4, _⟩ := s.own _ _ h2
          rw [h1] at h3
          cases h3
          rw [h4] at hp
          cases hp
        · exact absurd (fun q' h => by rw [hi] at h; cases h; exact e) hq
theorem SR.grow (s : SR K C Hf H σ ρ) (g : Grow Hf H Hf' H') : SR K C Hf' H' σ ρ where
  len := s.len
  e0 := s.e0.trans g.f
  e1 := g.s
  fresh := fun b o h => by
    rcases g.n b o h with h1 | h1
    · exact s.fresh b o h1
    · exact .inr (s.h0 h1)
  keep := fun b o h q => g.h b o (s.keep b o h q)
  pin := s.pin
  no := fun p hp => by
    obtain ⟨h1, h2⟩ := s.no p hp
    refine ⟨?_, g.h _ _ h2⟩
    cases q : Hf' p.1 with
    | none => rfl
    | some o =>
      rcases g.n _ _ q with h3 | h3
      · rw [h1] at h3; cases h3
      · rw [h2] at h3; cases h3
  val := fun i x h => by
    obtain ⟨v, h1, h2⟩ := s.val i x h
    exact ⟨v, h1, Dp.mono g.f _ _ h2⟩
  ownd := fun i l h hl => by
    obtain ⟨a, ho, h1, h2, h3, h4, h5, h6⟩ := s.ownd i l h hl
    refine ⟨a, ho, h1, ?_, g.h _ _ h3, h4.mono g.f, h5, h6⟩
    cases q : Hf' a with
    | none => rfl
    | some o =>
      rcases g.n _ _ q with h7 | h7
      · rw [h2] at h7; cases h7
      · rw [h3] at h7; cases h7
  apart := s.apart
theorem get_set {α : Type} {l : List α} {i j : Nat} {x y : α} (h : (l.set i x)[j]? = some y) : (i = j ∧ y = x ∧ j < l.length) ∨ (i ≠ j ∧ l[j]? = some y) := by
  by_cases e : i = j
  · subst e
    by_cases hl : i < l.length
    · rw [List.getElem?_set_self hl] at h
      exact .inl ⟨rfl, (Option.some.inj h).symm, hl⟩
    · rw [List.getElem?_eq_none (by simpa using hl)] at h
      cases h
  · rw [List.getElem?_set_ne e] at h
    exact .inr ⟨e, h⟩
/-- a slot takes a datum -/
theorem SR.setD (s : SR K C Hf H σ ρ) {i : Nat} {v : V} {x : D} (h : Dp K Hf v x) (hp : ∀ q, C.io = some q → q.1 ≠ i) : SR K C Hf H (σ.set i (some v)) (ρ.set i (some (.d x))) := by
  have old : ∀ {j l}, (ρ.set i (some (.d x)))[j]? = some (some l) → l.owned = true → i ≠ j ∧ ρ[j]? = some (some l) := fun {j l} h hl => by
    rcases get_set h with ⟨_, e, _⟩ | h
    · cases e
      cases hl
    · exact h
  refine ⟨by simpa using s.len, s.e0, s.e1, s.fresh, s.keep, fun q hq => ?_, s.no, fun j y hj => ?_, fun j l hj hl => ?_, fun j k a hne h1 h2 h3 h4 => ?_⟩
  · have ne := hp q hq
    obtain ⟨h1, xs, h2⟩ := s.pin q hq
    exact ⟨by rw [List.getElem?_set_ne (Ne.symm ne)]; exact h1, xs, by rw [List.getElem?_set_ne (Ne.symm ne)]; exact h2⟩
  · rcases get_set hj with ⟨e, e2, hl⟩ | ⟨ne, hj⟩
    · subst e
      cases e2
      exact ⟨v, List.getElem?_set_self (by rw [s.len]; exact hl), h⟩
    · obtain ⟨v', h1, h2⟩ := s.val j y hj
      exact ⟨v', by rw [List.getElem?_set_ne ne]; exact h1, h2⟩
  · obtain ⟨ne, hj⟩ := old hj hl
    obtain ⟨a, vs, h1, h2⟩ := s.ownd j l hj hl
    exact ⟨a, vs, by rw [List.getElem?_set_ne ne]; exact h1, h2⟩
  · obtain ⟨xs, h1, o1⟩ := h1
    obtain ⟨ys, h2, o2⟩ := h2
    obtain ⟨n1, h1⟩ := old h1 o1
    obtain ⟨n2, h2⟩ := old h2 o2
    rw [List.getElem?_set_ne n1] at h3
    rw [List.getElem?_set_ne n2] at h4
    exact s.apart j k a hne ⟨xs, h1, o1⟩ ⟨ys, h2, o2⟩ h3 h4
/-- a slot takes a thing of our own -/
theorem SR.setL (s : SR K C Hf H σ ρ) {i : Nat} {a : Addr} {ho : HO} {l : LV} (h1 : Hf a = none) (h2 : H a = some ho) (h3 : HoldsO C.w K Hf a ho l) (h4 : C.H0 a = none) (h5 : ∀ p ∈ C.no, a ≠ p.1)
    (h6 : ∀ j, IsOwn ρ j → σ[j]? ≠ some (some (.ref a))) (hp : ∀ q, C.io = some q → q.1 ≠ i) : SR K C Hf H (σ.set i (some (.ref a))) (ρ.set i (some l)) := by
  refine ⟨by simpa using s.len, s.e0, s.e1, s.fresh, s.keep, fun q hq => ?_, s.no, fun j y hj => ?_, fun j m hj hm => ?_, fun j k b hne g1 g2 g3 g4 => ?_⟩
  · have ne := hp q hq
    obtain ⟨h1, xs, h2⟩ := s.pin q hq
    exact ⟨by rw [List.getElem?_set_ne (Ne.symm ne)]; exact h1, xs, by rw [List.getElem?_set_ne (Ne.symm ne)]; exact h2⟩
  · rcases get_set hj with ⟨_, e2, _⟩ | ⟨ne, hj⟩
    · cases e2
      cases h3.owned
    · obtain ⟨v', h1, h2⟩ := s.val j y hj
      exact ⟨v', by rw [List.getElem?_set_ne ne]; exact h1, h2⟩
  · rcases get_set hj with ⟨e, e2, hl⟩ | ⟨ne, hj⟩
    · subst e
      cases e2
      exact ⟨a, ho, List.getElem?_set_self (by rw [s.len]; exact hl), h1, h2, h3, .inl h4, h5⟩
    · obtain ⟨b, ws, g1, g2⟩ := s.ownd j m hj hm
      exact ⟨b, ws, by rw [List.getElem?_set_ne ne]; exact g1, g2⟩
  · obtain ⟨ys, g1, o1⟩ := g1
    obtain ⟨zs, g2, o2⟩ := g2
    rcases get_set g1 with ⟨e, _, hl⟩ | ⟨ne, g1⟩
    · subst e
      rcases get_set g2 with ⟨e, _, _⟩ | ⟨ne2, g2⟩
      · exact hne e
      · rw [List.getElem?_set_self (by rw [s.len]; exact hl)] at g3
        cases g3
        rw [List.getElem?_set_ne ne2] at g4
        exact h6 k ⟨_, g2, o2⟩ g4
    · rcases get_set g2 with ⟨e, _, hl⟩ | ⟨ne2, g2⟩
      · subst e
        rw [List.getElem?_set_self (by rw [s.len]; exact hl)] at g4
        cases g4
        rw [List.getElem?_set_ne ne] at g3
        exact h6 j ⟨_, g1, o1⟩ g3
      · rw [List.getElem?_set_ne ne] at g3
        rw [List.getElem?_set_ne ne2] at g4
        exact s.apart j k b hne ⟨_, g1, o1⟩ ⟨_, g2, o2⟩ g3 g4
/-- a slot takes a list of our own -/
theorem SR.setO (s : SR K C Hf H σ ρ) {i : Nat} {a : Addr} {vs : List V} {xs : List D} (h1 : Hf a = none) (h2 : H a = some (.lst vs)) (h3 : DpAll K Hf vs xs) (h4 : C.H0 a = none) (h5 : ∀ p ∈ C.no, a ≠ p.1)
    (h6 : ∀ j, IsOwn ρ j → σ[j]? ≠ some (some (.ref a))) (hp : ∀ q, C.io = some q → q.1 ≠ i) : SR K C Hf H (σ.set i (some (.ref a))) (ρ.set i (some (.own xs))) := s.setL h1 h2 (l := .own xs) ⟨vs, rfl, h3⟩ h4 h5 h6 hp
/-- a thing of our own changes -/
theorem SR.mutL (s : SR K C Hf H σ ρ) {i : Nat} {a : Addr} {ho : HO} {l l' : LV} (hi : ρ[i]? = some (some l)) (hl : l.owned = true) (ha : σ[i]? = some (some (.ref a))) (h3 : HoldsO C.w K Hf a ho l') (hk : ∀ q, C.io = some q → q.1 = i → ∃ xs, l' = .own xs) :
    SR K C Hf (upd H a ho) σ (ρ.set i (some l')) := by
  obtain ⟨a', us, g1, g2, g3, g4, g5, g6⟩ := s.ownd i l hi hl
  rw [ha] at g1
  cases g1
  have hown : ∀ {j}, IsOwn (ρ.set i (some l')) j → IsOwn ρ j := fun {j} ⟨zs, h, o⟩ => by
    rcases get_set h with ⟨e, _, _⟩ | ⟨_, h⟩
    · subst e; exact ⟨l, hi, hl⟩
    · exact ⟨zs, h, o⟩
  refine ⟨by simpa using s.len, s.e0, fun b o h => ?_, s.fresh, fun b o h q => ?_, fun q hq => ?_, fun p hp => ?_, fun j y hj => ?_, fun j m hj hm => ?_, fun j k b hne h1 h2 h3 h4 => s.apart j k b hne (hown h1) (hown h2) h3 h4⟩
  · have nb : b ≠ a := fun e => by rw [e, g2] at h; cases h
    rw [upd_ne nb]
    exact s.e1 b o h
  · have nb : b ≠ a := fun e => by
      subst e
      rcases g5 with g5 | ⟨q', h1, h2⟩
      · rw [g5] at h; cases h
      · exact q q' h1 h2
    rw [upd_ne nb]
    exact s.keep b o h q
  · obtain ⟨h1, zs, h2⟩ := s.pin q hq
    refine ⟨h1, ?_⟩
    by_cases e : i = q.1
    · obtain ⟨xs, rfl⟩ := hk q hq e.symm
      subst e
      exact ⟨xs, List.getElem?_set_self (List.getElem?_eq_some_iff.mp hi).1⟩
    · exact ⟨zs, by rw [List.getElem?_set_ne e]; exact h2⟩
  · obtain ⟨h1, h2⟩ := s.no p hp
    exact ⟨h1, by rw [upd_ne (Ne.symm (g6 p hp))]; exact h2⟩
  · rcases get_set hj with ⟨_, e2, _⟩ | ⟨ne, hj⟩
    · cases e2
      cases h3.owned
    · exact s.val j y hj
  · rcases get_set hj with ⟨e, e2, hl⟩ | ⟨ne, hj⟩
    · subst e
      cases e2
      exact ⟨a, ho, ha, g2, upd_same, h3, g5, g6⟩
    · obtain ⟨b, ws, q1, q2, q3, q4⟩ := s.ownd j m hj hm
      have nb : b ≠ a := fun e => by
        subst e
        exact s.apart i j b ne ⟨l, hi, hl⟩ ⟨m, hj, hm⟩ ha q1
      exact ⟨b, ws, q1, q2, by rw [upd_ne nb]; exact q3, q4⟩
/-- a list of our own changes -/
theorem SR.mut (s : SR K C Hf H σ ρ) {i : Nat} {a : Addr} {vs : List V} {xs ys : List D} (hi : ρ[i]? = some (some (.own ys))) (ha : σ[i]? = some (some (.ref a))) (h3 : DpAll K Hf vs xs) :
    SR K C Hf (upd H a (.lst vs)) σ (ρ.set i (some (.own xs))) := s.mutL hi rfl ha (l' := .own xs) ⟨vs, rfl, h3⟩ fun _ _ _ => ⟨xs, rfl⟩
/-- a list of our own is known to all from now on -/
theorem SR.freeze (s : SR K C Hf H σ ρ) {i : Nat} {xs : List D} (hi : ρ[i]? = some (some (.own xs))) (hp : ∀ q, C.io = some q → q.1 ≠ i) :
    ∃ a vs, σ[i]? = some (some (.ref a)) ∧ H a = some (.lst vs) ∧ Ex Hf (upd Hf a (.lst vs)) ∧ SR K C (upd Hf a (.lst vs)) H σ (ρ.set i (some (.d (.list xs)))) := by
  obtain ⟨a, vs, g1, g2, g3, g4, g5, g6⟩ := s.own i xs hi
  have ee : Ex Hf (upd Hf a (.lst vs)) := Ex.new g2
  have hl : i < ρ.length := (List.getElem?_eq_some_iff.mp hi).1
  have old : ∀ {j l}, (ρ.set i (some (.d (.list xs))))[j]? = some (some l) → l.owned = true → i ≠ j ∧ ρ[j]? = some (some l) := fun {j l} h hl => by
    rcases get_set h with ⟨_, e, _⟩ | h
    · cases e
      cases hl
    · exact h
  have nio : ∀ q, C.io = some q → a ≠ q.2 := fun q hq e => by
    obtain ⟨h1, zs, h2⟩ := s.pin q hq
    have ne := hp q hq
    exact s.apart i q.1 a (Ne.symm ne) ⟨_, hi, rfl⟩ ⟨_, h2, rfl⟩ g1 (by rw [e]; exact h1)
  refine ⟨a, vs, g1, g3, ee, by simpa using s.len, s.e0.trans ee, fun b o h => ?_, fun b o h => ?_, s.keep, fun q hq => ?_, fun p hpn => ?_, fun j y hj => ?_, fun j m hj hm => ?_, fun j k b hne h1 h2 h3 h4 => ?_⟩
  · by_cases hb : b = a
    · subst hb
      rw [upd_same] at h
      rw [g3]; exact h
    · rw [upd_ne hb] at h
      exact s.e1 b o h
  · by_cases hb : b = a
    · subst hb
      rcases g5 with g5 | ⟨q', h1, h2⟩
      · exact .inr g5
      · exact absurd h2 (nio q' h1)
    · rw [upd_ne hb] at h
      exact s.fresh b o h
  · obtain ⟨h1, zs, h2⟩ := s.pin q hq
    exact ⟨h1, zs, by rw [List.getElem?_set_ne (Ne.symm (hp q hq))]; exact h2⟩
  · obtain ⟨h1, h2⟩ := s.no p hpn
    exact ⟨by rw [upd_ne (Ne.symm (g6 p hpn))]; exact h1, h2⟩
  · rcases get_set hj with ⟨e, e2, _⟩ | ⟨ne, hj⟩
    · subst e
      cases e2
      exact ⟨.ref a, g1, .lst (SqL.of upd_same) (DpAll.mono ee _ _ g4)⟩
    · obtain ⟨v, h1, h2⟩ := s.val j y hj
      exact ⟨v, h1, Dp.mono ee _ _ h2⟩
  · obtain ⟨ne, hj⟩ := old hj hm
    obtain ⟨b, ws, q1, q2, q3, q4, q5, q6⟩ := s.ownd j m hj hm
    have nb : b ≠ a := fun e => by
      subst e
      exact s.apart i j b ne ⟨_, hi, rfl⟩ ⟨m, hj, hm⟩ g1 q1
    exact ⟨b, ws, q1, by rw [upd_ne nb]; exact q2, q3, q4.mono ee, q5, q6⟩
  · obtain ⟨ys, h1, o1⟩ := h1
    obtain ⟨zs, h2, o2⟩ := h2
    obtain ⟨n1, h1⟩ := old h1 o1
    obtain ⟨n2, h2⟩ := old h2 o2
    exact s.apart j k b hne ⟨_, h1, o1⟩ ⟨_, h2, o2⟩ h3 h4
end
end PD

set_option maxRecDepth 100000
set_option maxHeartbeats 4000000
set_option autoImplicit false
namespace PD
open PySem PySem.Spec L2
open Evl (Ex)

/-! ### readings -/
section
variable (K : PySem.W.Frag) (C : Fc)
/-- what must hold of a way's end -/
def PostG {α β : Type} (σ : L2.St) (rel : Hp → Hp → DE → β → α → Prop) (Hf : Hp) (r : R α) (Q : β → Hp → Prop) : Prop :=
  match r with
  | .ok x ρ' => ∀ (b : β) (H' Hf' : Hp), Ex Hf Hf' → SR K C Hf' H' σ ρ' → rel Hf' H' ρ' b x → Q b H'
  | .ex e ρ' => ∀ (H' Hf' : Hp), Ex Hf Hf' → SR K C Hf' H' σ ρ' → C.E e H'
  | .bad => False
def tG {α β : Type} (rel : L2.St → Hp → Hp → DE → β → α → Prop) (f : M α) : L2.St → Hp → (β → Hp → Prop) → Prop := fun σ H Q =>
  ∃ Hf ρ, SR K C Hf H σ ρ ∧ PostG K C σ (rel σ) Hf (f ρ) Q
def relD : L2.St → Hp → Hp → DE → V → D → Prop := fun _ Hf _ _ v x => Dp K Hf v x
def relB : L2.St → Hp → Hp → DE → Bool → Bool → Prop := fun _ _ _ _ b x => b = x
def relO : L2.St → Hp → Hp → DE → Option Int → Option Int → Prop := fun _ _ _ _ b x => b = x
/-- a new list of ours -/
def relL : L2.St → Hp → Hp → DE → V → List D → Prop := fun σ Hf H ρ v xs => ∃ a vs, v = .ref a ∧ Hf a = none ∧ H a = some (.lst vs) ∧ DpAll K Hf vs xs ∧ C.H0 a = none ∧ (∀ p ∈ C.no, a ≠ p.1) ∧ ∀ j, IsOwn ρ j → σ[j]? ≠ some (some (.ref a))
/-- an argument: a datum, or the list at a slot -/
inductive Arg where
  | dat (x : D)
  | slot (i : Nat)
inductive ArgsRel (σ : L2.St) (Hf : Hp) : List V → List Arg → Prop
  | nil : ArgsRel σ Hf [] []
  | dat {v : V} {x : D} {vs : List V} {as : List Arg} (h : Dp K Hf v x) (t : ArgsRel σ Hf vs as) : ArgsRel σ Hf (v :: vs) (.dat x :: as)
  | slot {v : V} {i : Nat} {vs : List V} {as : List Arg} (h : σ[i]? = some (some v)) (t : ArgsRel σ Hf vs as) : ArgsRel σ Hf (v :: vs) (.slot i :: as)
def relA : L2.St → Hp → Hp → DE → List V → List Arg → Prop := fun σ Hf _ _ vs as => ArgsRel K σ Hf vs as
/-- what a loop walks: it yields just these data -/
def relI : L2.St → Hp → Hp → DE → It → List D → Prop := fun _ Hf _ _ J xs =>
  (∀ (i : Nat) (Hf1 H : Hp) (x : D), Ex Hf Hf1 → Ex Hf1 H → xs[i]? = some x → J.go i H ∧ ∀ v H2, J.yld i H v H2 → ∃ Hf2, Grow Hf1 H Hf2 H2 ∧ Dp K Hf2 v x) ∧
  ∀ (i : Nat) (Hf1 H : Hp), Ex Hf Hf1 → Ex Hf1 H → xs.length ≤ i → J.stop i H
end
section
variable (X : Cx) (C : Fc)
def PDe (e : Expr) (f : M D) : Prop := PE X e (tG X.K C (relD X.K) f)
def PDt (e : Expr) (f : M Bool) : Prop := PT X e (tG X.K C relB f)
def PDw (e : Expr) (f : M Bool) : Prop := PW X e (tG X.K C relB f)
def PDa (es : List Expr) (f : M (List Arg)) : Prop := PA X es (tG X.K C (relA X.K) f)
def PDl (e : Expr) (f : M (List D)) : Prop := PE X e (tG X.K C (relL X.K C) f)
def PDo (e : Option Expr) (f : M (Option Int)) : Prop := PO X e (tG X.K C relO f)
def PDi (tg iter : Expr) (f : M (List D)) : Prop := PI X tg iter (tG X.K C (relI X.K) f)
end
/-! ### weakening of readings -/
section
variable {X : Cx} {C : Fc}
theorem pe_imp {e : Expr} {t t' : TE} (h : PE X e t) (w : ∀ σ H Q, t' σ H Q → t σ H Q) : PE X e t' := ⟨fun pins s σ H Q I q => h.run pins s σ H Q I (w σ H Q q)⟩
theorem pt_imp {e : Expr} {t t' : TT} (h : PT X e t) (w : ∀ σ H Q, t' σ H Q → t σ H Q) : PT X e t' := ⟨fun pins s σ H Q I q => h.run pins s σ H Q I (w σ H Q q)⟩
theorem pw_imp {e : Expr} {t t' : TT} (h : PW X e t) (w : ∀ σ H Q, t' σ H Q → t σ H Q) : PW X e t' := ⟨fun wh pins s σ H Q I q => h.run wh pins s σ H Q I (w σ H Q q)⟩
theorem pa_imp {es : List Expr} {t t' : TA} (h : PA X es t) (w : ∀ σ H Q, t' σ H Q → t σ H Q) : PA X es t' := ⟨fun pos pins s σ H Q I q => h.run pos pins s σ H Q I (w σ H Q q)⟩
theorem po_imp {e : Option Expr} {t t' : TO} (h : PO X e t) (w : ∀ σ H Q, t' σ H Q → t σ H Q) : PO X e t' := ⟨fun pins s σ H Q I q => h.run pins s σ H Q I (w σ H Q q)⟩
theorem pi_imp {tg e : Expr} {t t' : TI} (h : PI X tg e t) (w : ∀ σ H Q, t' σ H Q → t σ H Q) : PI X tg e t' := ⟨fun pins s σ H Q I q => h.run pins s σ H Q I (w σ H Q q)⟩
theorem ps_imp {st : Stmt} {t t' : TS} (h : PS X st t) (w : ∀ D σ H, t' D σ H → t D σ H) : PS X st t' := ⟨fun pins s σ H D I q => h.run pins s σ H D I (w D σ H q)⟩
theorem pss_imp {st : List Stmt} {t t' : TS} (h : PSs X st t) (w : ∀ D σ H, t' D σ H → t D σ H) : PSs X st t' := ⟨fun pins s σ H D I q => h.run pins s σ H D I (w D σ H q)⟩
end
section
variable {K : PySem.W.Frag} {C : Fc} {α β γ δ : Type} {σ : L2.St} {Hf Hf' H : Hp}
theorem PostG.mono {rel : Hp → Hp → DE → β → α → Prop} {r : R α} {Q : β → Hp → Prop} (e : Ex Hf Hf') (h : PostG K C σ rel Hf r Q) : PostG K C σ rel Hf' r Q := by
  cases r with
  | ok x ρ' => exact fun b H' Hf'' e' s q => h b H' Hf'' (e.trans e') s q
  | ex x ρ' => exact fun H' Hf'' e' s => h H' Hf'' (e.trans e') s
  | bad => exact h
/-- first f, then the rest -/
theorem tG_bind {rel : L2.St → Hp → Hp → DE → β → α → Prop} {rel2 : Hp → Hp → DE → δ → γ → Prop} {f : M α} {k : α → M γ} {ρ : DE} {Q : δ → Hp → Prop} {Q1 : β → Hp → Prop} (s : SR K C Hf H σ ρ) (h : PostG K C σ rel2 Hf (M.bind f k ρ) Q)
    (w : ∀ (b : β) (x : α) (H1 Hf1 : Hp) (ρ1 : DE), Ex Hf Hf1 → SR K C Hf1 H1 σ ρ1 → rel σ Hf1 H1 ρ1 b x → PostG K C σ rel2 Hf1 (k x ρ1) Q → Q1 b H1) : tG K C rel f σ H Q1 := by
  refine ⟨Hf, ρ, s, ?_⟩
  unfold M.bind at h
  cases hf : f ρ with
  | ok x ρ1 =>
    rw [hf] at h
    exact fun b H1 Hf1 e s1 r => w b x H1 Hf1 ρ1 e s1 r (PostG.mono e h)
  | ex x ρ1 =>
    rw [hf] at h
    exact h
  | bad =>
    rw [hf] at h
    exact h.elim
/-- a value that needs nothing new -/
theorem PostG.now {rel : Hp → Hp → DE → β → α → Prop} {x : α} {ρ : DE} {Q : β → Hp → Prop} {b : β} (h : PostG K C σ rel Hf (.ok x ρ) Q) (s : SR K C Hf H σ ρ) (r : rel Hf H ρ b x) : Q b H := h b H Hf (Ex.refl _) s r
theorem PostG.nowG {rel : Hp → Hp → DE → β → α → Prop} {x : α} {ρ : DE} {Q : β → Hp → Prop} {b : β} {H' : Hp} (h : PostG K C σ rel Hf (.ok x ρ) Q) (s : SR K C Hf H σ ρ) (g : Grow Hf H Hf' H') (r : rel Hf' H' ρ b x) : Q b H' := h b H' Hf' g.f (s.grow g) r
theorem PostG.lift {rel : Hp → Hp → DE → β → α → Prop} {o : Option α} {ρ : DE} {Q : β → Hp → Prop} (h : PostG K C σ rel Hf (M.lift o ρ) Q) : ∃ x, o = some x ∧ PostG K C σ rel Hf (.ok x ρ) Q := by
  cases o with
  | some x => exact ⟨x, rfl, h⟩
  | none => exact (show False from h).elim
end

/-! ### names, constants -/
section
variable {X : Cx} {C : Fc} {pos : Pos}
def M.var (i : Nat) : M D := fun ρ => match ρ[i]? with
  | some (some (.d x)) => .ok x ρ
  | _ => .bad
theorem pd_var (i : Nat) {x : Str} (hN : X.N[i]? = some x := by rfl) (hv : Vis X.env.scope x := by first | exact Or.inl rfl | exact Or.inr (Or.inl rfl) | exact Or.inr (Or.inr rfl)) (hd : (x == ("__debug__" : Str)) = false := by decide)
    (hcd : (x == ("__classdict__" : Str)) = false := by decide) : PDe X C (.Name x pos) (M.var i) := pe_imp (pe_var hN hv hd hcd) fun σ H Q ⟨Hf, ρ, s, h⟩ => by
  unfold M.var at h
  split at h
  · rename_i y hy
    obtain ⟨v, h1, h2⟩ := s.val i y hy
    exact ⟨v, h1, h.now s h2⟩
  · exact (show False from h).elim
theorem pd_c {e : Expr} {v : V} {x : D} (h : PE X e (tC v)) (hd : ∀ H, Dp X.K H v x) : PDe X C e (M.ret x) := pe_imp h fun σ H Q ⟨Hf, ρ, s, q⟩ => PostG.now (b := v) q s (hd Hf)
theorem pd_int {i : Int} {j : Nat} : PDe X C (.Constant (.int i) j pos) (M.ret (.int i)) := pd_c pe_int fun _ => .int i
theorem pd_bl {i : Bool} {j : Nat} : PDe X C (.Constant (.bool i) j pos) (M.ret (.bool i)) := pd_c pe_bl fun _ => .bl i
theorem pd_non {j : Nat} : PDe X C (.Constant .none j pos) (M.ret .none) := pd_c pe_non fun _ => .non
theorem pd_str {x : Str} {j : Nat} : PDe X C (.Constant (.str x) j pos) (M.ret (.str x)) := pd_c pe_str fun _ => .str x
/-- a constant of the module -/
theorem pd_glob {x : Str} {v : V} {u : Value} {d : D} (hg : Gl X x) (hm : X.mg x = some u) (r : RelV v u) (hd : ∀ H, Dp X.K H v d) (hdb : (x == ("__debug__" : Str)) = false := by decide) : PDe X C (.Name x pos) (M.ret d) := pd_c (pe_glob hg hm r hdb) hd
end

/-! ### operators -/
section
variable {X : Cx} {C : Fc} {pos : Pos} {a b c : Expr} {f g k : M D}
def M.op2 (o : D → D → Option D) (f g : M D) : M D := M.bind f fun x => M.bind g fun y => M.lift (o x y)
def M.op1 (o : D → Option D) (f : M D) : M D := M.bind f fun x => M.lift (o x)
/-- a two-place operation on data -/
def Op2 (K : PySem.W.Frag) (r : R2) (o : D → D → Option D) : Prop :=
  ∀ (C : Fc) (Hf H : Hp) (σ : L2.St) (ρ : DE) (v w : V) (x y z : D) (Q : VK), SR K C Hf H σ ρ → Dp K Hf v x → Dp K Hf w y → o x y = some z → PostG K C σ (relD K σ) Hf (.ok z ρ) Q → r v w H Q
def Op1 (K : PySem.W.Frag) (r : V → Hp → VK → Prop) (o : D → Option D) : Prop :=
  ∀ (C : Fc) (Hf H : Hp) (σ : L2.St) (ρ : DE) (v : V) (x z : D) (Q : VK), SR K C Hf H σ ρ → Dp K Hf v x → o x = some z → PostG K C σ (relD K σ) Hf (.ok z ρ) Q → r v H Q
theorem op2_go {r : R2} {o : D → D → Option D} (ho : Op2 X.K r o) {σ : L2.St} {H : Hp} {Q : VK} (h : tG X.K C (relD X.K) (M.op2 o f g) σ H Q) : tOp r (tG X.K C (relD X.K) f) (tG X.K C (relD X.K) g) σ H Q := by
  obtain ⟨Hf, ρ, s, h⟩ := h
  refine tG_bind s h fun v x H1 Hf1 ρ1 e1 s1 d1 h1 => ?_
  refine tG_bind s1 h1 fun w y H2 Hf2 ρ2 e2 s2 d2 h2 => ?_
  obtain ⟨z, hz, h3⟩ := h2.lift
  exact ho C Hf2 H2 σ ρ2 v w x y z Q s2 (Dp.mono e2 _ _ d1) d2 hz h3
theorem pd_op {op : Operator} {r : R2} {o : D → D → Option D} (hr : OpR X (binaryOp op) r) (ho : Op2 X.K r o) (ha : PDe X C a f) (hb : PDe X C b g) : PDe X C (.BinOp a op b pos) (M.op2 o f g) :=
  pe_imp (pe_op hr ha hb) fun _ _ _ h => op2_go ho h
theorem pd_un {op : UnaryOp} {r : V → Hp → VK → Prop} {o : D → Option D} (hr : UnR X (unaryOp op) r) (ho : Op1 X.K r o) (ha : PDe X C a f) : PDe X C (.UnaryOp op a pos) (M.op1 o f) :=
  pe_imp (pe_un hr ha) fun σ H Q ⟨Hf, ρ, s, h⟩ => tG_bind s h fun v x H1 Hf1 ρ1 e1 s1 d1 h1 => by
    obtain ⟨z, hz, h3⟩ := h1.lift
    exact ho C Hf1 H1 σ ρ1 v x z Q s1 d1 hz h3
theorem pd_cmp {op : CmpOp} {r : R2} {o : D → D → Option D} (hr : OpR X (compareOp op) r) (ho : Op2 X.K r o) (ha : PDe X C a f) (hb : PDe X C b g) (hm : behindInMarks op b = false) : PDe X C (.Compare a [op] [b] pos) (M.op2 o f g) :=
  pe_imp (pe_cmpR hr ha hb hm) fun _ _ _ h => op2_go ho h
theorem pd_ix {r : R2} {o : D → D → Option D} (hr : IxR X r) (ho : Op2 X.K r o) (ha : PDe X C a f) (hb : PDe X C b g) (hs : PlainIx b) : PDe X C (.Subscript a b pos) (M.op2 o f g) :=
  pe_imp (pe_ix hr ha hb hs) fun _ _ _ h => op2_go ho h
/-- the truth of a comparison -/
def asB : D → Option Bool
  | .bool b => some b
  | _ => none
def M.test (f : M D) : M Bool := M.bind f fun x => M.lift (asB x)
theorem test_go {t : TE} {σ : L2.St} {H : Hp} {Q : Bool → Hp → Prop} (h : tG X.K C relB (M.test f) σ H Q) : tG X.K C (relD X.K) f σ H fun x H' => ∃ k, x = .bl k ∧ Q k H' := by
  obtain ⟨Hf, ρ, s, h⟩ := h
  refine tG_bind s h fun v x H1 Hf1 ρ1 e1 s1 d1 h1 => ?_
  obtain ⟨z, hz, h3⟩ := h1.lift
  cases x <;> first | (cases hz) | skip
  exact ⟨z, Dp.bool_of d1, h3.now s1 rfl⟩
theorem pt_of {e : Expr} {te : TE} (h : PT X e (tTest te)) (w : ∀ σ H Q, tG X.K C (relD X.K) f σ H Q → te σ H Q) : PDt X C e (M.test f) := pt_imp h fun σ H Q q => w σ H _ (test_go (t := te) q)
theorem pdt_cmp {op : CmpOp} {r : R2} {o : D → D → Option D} (hr : OpR X (compareOp op) r) (ho : Op2 X.K r o) (ha : PDe X C a f) (hb : PDe X C b g) (hm : behindInMarks op b = false) : PDt X C (.Compare a [op] [b] pos) (M.test (M.op2 o f g)) :=
  pt_of (pt_cmpR hr ha hb hm) fun _ _ _ h => op2_go ho h
/-- a value that is a truth value, as a test -/
theorem pdt_val {e : Expr} (h : PDe X C e f) (he : ∀ whole, isTrue e X.env whole = (do let v ← whole; standAt e.pos; holding [v] (truthy v)) := by intro _; rfl) : PDt X C e (M.test f) :=
  pt_imp (pt_val h he) fun σ H Q q => test_go (t := tG X.K C (relD X.K) f) q
/-- a op1 b op2 c -/
def M.chain (o o' : D → D → Option D) (f g k : M D) : M D := M.bind f fun x => M.bind g fun y => M.bind (M.lift (o x y)) fun z => M.bind (M.lift (asB z)) fun t => if t = true then M.bind k fun w => M.lift (o' y w) else M.ret (.bool false)
/-- an operation that gives a truth value and makes nothing -/
def Op2B (K : PySem.W.Frag) (r : R2) (o : D → D → Option D) : Prop :=
  ∀ (Hf H : Hp) (v w : V) (x y : D) (z : Bool) (Q : VK), Ex Hf H → Dp K Hf v x → Dp K Hf w y → o x y = some (.bool z) → Q (.bl z) H → r v w H Q
theorem Op2B.op2 {K : PySem.W.Frag} {r : R2} {o : D → D → Option D} (h : Op2B K r o) (hb : ∀ x y z, o x y = some z → ∃ b, z = .bool b) : Op2 K r o := fun C Hf H σ ρ v w x y z Q s d1 d2 e q => by
  obtain ⟨b, rfl⟩ := hb x y z e
  exact h Hf H v w x y b Q s.e1 d1 d2 e (q.now s (.bl b))
theorem chain_go {r r' : R2} {o o' : D → D → Option D} (ho : Op2B X.K r o) (ho' : Op2B X.K r' o') (hb : ∀ x y z, o' x y = some z → ∃ b, z = .bool b) {σ : L2.St} {H : Hp} {Q : VK} (h : tG X.K C (relD X.K) (M.chain o o' f g k) σ H Q) :
    tChain r r' (tG X.K C (relD X.K) f) (tG X.K C (relD X.K) g) (tG X.K C (relD X.K) k) σ H Q := by
  obtain ⟨Hf, ρ, s, h⟩ := h
  refine tG_bind s h fun v x H1 Hf1 ρ1 e1 s1 d1 h1 => ?_
  refine tG_bind s1 h1 fun w y H2 Hf2 ρ2 e2 s2 d2 h2 => ?_
  have hz : ∃ b, o x y = some (.bool b) ∧ PostG X.K C σ (relD X.K σ) Hf2 ((if b = true then M.bind k fun w => M.lift (o' y w) else M.ret (.bool false)) ρ2) Q := by
    unfold M.bind M.lift at h2
    cases hx : o x y with
    | none => rw [hx] at h2; exact (show False from h2).elim
    | some z =>
      rw [hx] at h2
      cases z <;> first | exact (show False from h2).elim | exact ⟨_, rfl, h2⟩
  obtain ⟨b, hb1, h3⟩ := hz
  refine ho Hf2 H2 v w x y b _ s2.e1 (Dp.mono e2 _ _ d1) d2 hb1 ⟨b, rfl, ?_⟩
  cases b with
  | true =>
    refine L2.iteT ?_
    refine tG_bind s2 h3 fun u t H3 Hf3 ρ3 e3 s3 d3 h4 => ?_
    obtain ⟨t', ht, h5⟩ := h4.lift
    obtain ⟨b, rfl⟩ := hb _ _ _ ht
    exact ho' Hf3 H3 w u y t b Q s3.e1 (Dp.mono e3 _ _ d2) d3 ht (h5.now s3 (.bl b))
  | false => exact L2.iteF (PostG.now (b := V.bl false) h3 s2 (.bl false))
theorem pd_chain {op op' : CmpOp} {r r' : R2} {o o' : D → D → Option D} (hr : OpR X (compareOp op) r) (hr' : OpR X (compareOp op') r') (ho : Op2B X.K r o) (ho' : Op2B X.K r' o') (hb : ∀ x y z, o' x y = some z → ∃ b, z = .bool b) (ha : PDe X C a f) (hbb : PDe X C b g) (hc : PDe X C c k)
    (hm : lastMarks [op, op'] [b, c] = false := by with_unfolding_all rfl) : PDe X C (.Compare a [op, op'] [b, c] pos) (M.chain o o' f g k) := pe_imp (pe_chain hr hr' ha hbb hc hm) fun _ _ _ h => chain_go ho ho' hb h
theorem pdt_chain {op op' : CmpOp} {r r' : R2} {o o' : D → D → Option D} (hr : OpR X (compareOp op) r) (hr' : OpR X (compareOp op') r') (ho : Op2B X.K r o) (ho' : Op2B X.K r' o') (hb : ∀ x y z, o' x y = some z → ∃ b, z = .bool b) (ha : PDe X C a f) (hbb : PDe X C b g) (hc : PDe X C c k)
    (hm : lastMarks [op, op'] [b, c] = false := by with_unfolding_all rfl) : PDt X C (.Compare a [op, op'] [b, c] pos) (M.test (M.chain o o' f g k)) := pt_of (pt_chain hr hr' ha hbb hc hm) fun _ _ _ h => chain_go ho ho' hb h
end

/-! ### and, or, not, if-else -/
section
variable {X : Cx} {C : Fc} {pos : Pos} {a b c : Expr} {rest : List Expr} {f g : M D} {p q : M Bool}
def M.andT (p q : M Bool) : M Bool := M.bind p fun b => if b = true then q else M.ret false
def M.orT (p q : M Bool) : M Bool := M.bind p fun b => if b = true then M.ret true else q
def M.notT (p : M Bool) : M Bool := M.bind p fun b => M.ret (!b)
theorem pdw_and1 (ha : PDt X C a p) : PDw X C (.BoolOp .And [a] pos) p := pw_and1 ha
theorem pdw_or1 (ha : PDt X C a p) : PDw X C (.BoolOp .Or [a] pos) p := pw_or1 ha
theorem pdw_and (ha : PDt X C a p) (hb : PDw X C (.BoolOp .And (b :: rest) pos) q) : PDw X C (.BoolOp .And (a :: b :: rest) pos) (M.andT p q) := pw_imp (pw_and ha hb) fun σ H Q ⟨Hf, ρ, s, h⟩ =>
  tG_bind s h fun v x H1 Hf1 ρ1 e1 s1 d1 h1 => by
    have d1 : v = x := d1
    subst d1
    cases v with
    | true => exact L2.iteT ⟨Hf1, ρ1, s1, h1⟩
    | false => exact L2.iteF (PostG.now (b := false) h1 s1 rfl)
theorem pdw_or (ha : PDt X C a p) (hb : PDw X C (.BoolOp .Or (b :: rest) pos) q) : PDw X C (.BoolOp .Or (a :: b :: rest) pos) (M.orT p q) := pw_imp (pw_or ha hb) fun σ H Q ⟨Hf, ρ, s, h⟩ =>
  tG_bind s h fun v x H1 Hf1 ρ1 e1 s1 d1 h1 => by
    have d1 : v = x := d1
    subst d1
    cases v with
    | true => exact L2.iteT (PostG.now (b := true) h1 s1 rfl)
    | false => exact L2.iteF ⟨Hf1, ρ1, s1, h1⟩
theorem pdt_w (h : PDw X C a p) : PDt X C a p := PW.pt h
theorem pdt_not (ha : PDt X C a p) : PDt X C (.UnaryOp .Not a pos) (M.notT p) := pt_imp (pt_not ha) fun σ H Q ⟨Hf, ρ, s, h⟩ =>
  tG_bind s h fun v x H1 Hf1 ρ1 e1 s1 d1 h1 => by
    have d1 : v = x := d1
    subst d1
    exact PostG.now (b := !v) h1 s1 rfl
/-- .. as values -/
def M.andV (f g : M D) : M D := M.bind f fun x => M.bind (M.lift (asB x)) fun b => if b = true then g else M.ret (.bool false)
def M.orV (f g : M D) : M D := M.bind f fun x => M.bind (M.lift (asB x)) fun b => if b = true then M.ret (.bool true) else g
def notD : D → Option D
  | .bool b => some (.bool !b)
  | _ => none
theorem pd_one {op} (h : PDe X C a f) : PDe X C (.BoolOp op [a] pos) f := pe_one h
theorem bv {Hf H : Hp} {σ : L2.St} {ρ : DE} {x : D} {k : Bool → M D} {Q : VK} (h : PostG X.K C σ (relD X.K σ) Hf (M.bind (M.lift (asB x)) k ρ) Q) : ∃ b, x = .bool b ∧ PostG X.K C σ (relD X.K σ) Hf (k b ρ) Q := by
  unfold M.bind M.lift at h
  cases x <;> first | exact (show False from h).elim | exact ⟨_, rfl, h⟩
theorem pd_and (ha : PDe X C a f) (hb : PDe X C (.BoolOp .And (b :: rest) pos) g) : PDe X C (.BoolOp .And (a :: b :: rest) pos) (M.andV f g) := pe_imp (pe_and ha hb) fun σ H Q ⟨Hf, ρ, s, h⟩ =>
  tG_bind s h fun v x H1 Hf1 ρ1 e1 s1 d1 h1 => by
    obtain ⟨t, rfl, h2⟩ := bv (H := H1) h1
    refine ⟨t, Dp.bool_of d1, ?_⟩
    cases t with
    | true => exact L2.iteT ⟨Hf1, ρ1, s1, h2⟩
    | false => exact L2.iteF (PostG.now (b := V.bl false) h2 s1 (.bl false))
theorem pd_or (ha : PDe X C a f) (hb : PDe X C (.BoolOp .Or (b :: rest) pos) g) : PDe X C (.BoolOp .Or (a :: b :: rest) pos) (M.orV f g) := pe_imp (pe_or ha hb) fun σ H Q ⟨Hf, ρ, s, h⟩ =>
  tG_bind s h fun v x H1 Hf1 ρ1 e1 s1 d1 h1 => by
    obtain ⟨t, rfl, h2⟩ := bv (H := H1) h1
    refine ⟨t, Dp.bool_of d1, ?_⟩
    cases t with
    | true => exact L2.iteT (PostG.now (b := V.bl true) h2 s1 (.bl true))
    | false => exact L2.iteF ⟨Hf1, ρ1, s1, h2⟩
theorem pd_not (ha : PDe X C a f) : PDe X C (.UnaryOp .Not a pos) (M.op1 notD f) := pe_imp (pe_not ha) fun σ H Q ⟨Hf, ρ, s, h⟩ =>
  tG_bind s h fun v x H1 Hf1 ρ1 e1 s1 d1 h1 => by
    obtain ⟨z, hz, h2⟩ := h1.lift
    cases x <;> first | cases hz | skip
    exact ⟨_, Dp.bool_of d1, PostG.now (b := V.bl _) h2 s1 (.bl _)⟩
def M.ite {α : Type} (p : M Bool) (f g : M α) : M α := M.bind p fun b => if b = true then f else g
theorem pd_if (hc : PDt X C c p) (ha : PDe X C a f) (hb : PDe X C b g) : PDe X C (.IfExp c a b pos) (M.ite p f g) := pe_imp (pe_ifExp hc ha hb) fun σ H Q ⟨Hf, ρ, s, h⟩ =>
  tG_bind s h fun v x H1 Hf1 ρ1 e1 s1 d1 h1 => by
    have d1 : v = x := d1
    subst d1
    cases v with
    | true => exact L2.iteT ⟨Hf1, ρ1, s1, h1⟩
    | false => exact L2.iteF ⟨Hf1, ρ1, s1, h1⟩
end

/-! ### argument lists, displays -/
section
variable {X : Cx} {C : Fc} {pos : Pos} {e : Expr} {es : List Expr} {f : M D} {g : M (List Arg)}
def M.argN : M (List Arg) := M.ret []
def M.argD (f : M D) (g : M (List Arg)) : M (List Arg) := M.bind f fun x => M.bind g fun as => M.ret (.dat x :: as)
def M.argS (i : Nat) (g : M (List Arg)) : M (List Arg) := fun ρ => match ρ[i]? with
  | some (some (.own _)) => M.bind g (fun as => M.ret (.slot i :: as)) ρ
  | _ => .bad
theorem ArgsRel.mono {K : PySem.W.Frag} {σ : L2.St} {Hf Hf' : Hp} (e : Ex Hf Hf') : ∀ {vs : List V} {as : List Arg}, ArgsRel K σ Hf vs as → ArgsRel K σ Hf' vs as
  | _, _, .nil => .nil
  | _, _, .dat h t => .dat (Dp.mono e _ _ h) (ArgsRel.mono e t)
  | _, _, .slot h t => .slot h (ArgsRel.mono e t)
theorem pda_nil : PDa X C [] M.argN := pa_imp pa_nil fun σ H Q ⟨Hf, ρ, s, h⟩ => PostG.now (b := ([] : List V)) h s .nil
theorem pda_cons (ha : PDe X C e f) (hr : PDa X C es g) (hs : starEach (e :: es) X.env = (false, eval e X.env) :: starEach es X.env := by rfl) : PDa X C (e :: es) (M.argD f g) := pa_imp (pa_cons ha hr hs) fun σ H Q ⟨Hf, ρ, s, h⟩ =>
  tG_bind s h fun v x H1 Hf1 ρ1 e1 s1 d1 h1 => tG_bind s1 h1 fun vs as H2 Hf2 ρ2 e2 s2 d2 h2 => PostG.now (b := v :: vs) h2 s2 (.dat (Dp.mono e2 _ _ d1) d2)
/-- the list at a slot, as it is -/
theorem pda_slot (i : Nat) {x : Str} {px : Pos} (hr : PDa X C es g) (hN : X.N[i]? = some x := by rfl) (hv : Vis X.env.scope x := by first | exact Or.inl rfl | exact Or.inr (Or.inl rfl) | exact Or.inr (Or.inr rfl)) (hd : (x == ("__debug__" : Str)) = false := by decide)
    (hcd : (x == ("__classdict__" : Str)) = false := by decide) (hs : starEach (.Name x px :: es) X.env = (false, eval (.Name x px) X.env) :: starEach es X.env := by rfl) : PDa X C (.Name x px :: es) (M.argS i g) :=
  pa_imp (pa_cons (pe_var hN hv hd hcd) hr hs) fun σ H Q ⟨Hf, ρ, s, h⟩ => by
    unfold M.argS at h
    split at h
    · rename_i xs hx
      obtain ⟨a, vs, h1, h2⟩ := s.own i xs hx
      refine ⟨.ref a, h1, ?_⟩
      exact tG_bind s h fun vs as H2 Hf2 ρ2 e2 s2 d2 h2 => PostG.now (b := V.ref a :: vs) h2 s2 (.slot h1 d2)
    · exact (show False from h).elim
def datOf : List Arg → Option (List D)
  | [] => some []
  | .dat x :: as => (datOf as).map (x :: ·)
  | .slot _ :: _ => none
theorem ArgsRel.dats {K : PySem.W.Frag} {σ : L2.St} {Hf : Hp} : ∀ {vs : List V} {as : List Arg} {xs : List D}, ArgsRel K σ Hf vs as → datOf as = some xs → DpAll K Hf vs xs
  | _, _, xs, .nil, e => by cases e; exact .nil
  | _, _, xs, .dat (as := as) h t, e => by
    unfold datOf at e
    cases q : datOf as with
    | none => rw [q] at e; cases e
    | some ys =>
      rw [q] at e
      cases e
      exact .cons h (ArgsRel.dats t q)
  | _, _, _, .slot _ _, e => by cases e
def M.dats (g : M (List Arg)) : M (List D) := M.bind g fun as => M.lift (datOf as)
def M.tup (g : M (List Arg)) : M D := M.bind g fun as => M.lift ((datOf as).bind fun xs => if xs.length ≤ sizeLine then some (.tuple xs) else none)
theorem pd_tup {x1} (h : PDa X C es g) : PDe X C (.Tuple es x1 pos) (M.tup g) := pe_imp (pe_tup h) fun σ H Q ⟨Hf, ρ, s, h⟩ =>
  tG_bind s h fun vs as H1 Hf1 ρ1 e1 s1 d1 h1 => by
    obtain ⟨z, hz, h2⟩ := h1.lift
    cases q : datOf as with
    | none => rw [q] at hz; cases hz
    | some xs =>
      rw [q] at hz
      simp only [Option.bind_some] at hz
      split at hz
      · rename_i hl
        cases hz
        have da := ArgsRel.dats d1 q
        refine ⟨by rw [DpAll.length da]; exact hl, fun p hp => ?_⟩
        have g := Grow.new (o := .tup vs) s1.e1 hp
        exact PostG.nowG (b := V.ref p) h2 s1 g (.tup (SqT.of upd_same) (DpAll.mono g.f _ _ da))
      · cases hz
def M.lst (g : M (List Arg)) : M (List D) := M.bind g fun as => M.lift ((datOf as).bind fun xs => if xs.length ≤ sizeLine then some xs else none)
theorem SR.newL {K : PySem.W.Frag} {Hf H : Hp} {σ : L2.St} {ρ : DE} {p : Addr} {vs : List V} {xs : List D} (s : SR K C Hf H σ ρ) (hp : H p = none) (d : DpAll K Hf vs xs) : relL K C σ Hf (upd H p (.lst vs)) ρ (.ref p) xs := by
  refine ⟨p, vs, rfl, Evl.fresh_back s.e1 hp, upd_same, d, s.h0 hp, fun q hq e => ?_, fun j ⟨ys, hj, oj⟩ e => ?_⟩
  · obtain ⟨_, h⟩ := s.no q hq
    rw [e, h] at hp
    cases hp
  · obtain ⟨a, ws, h1, _, h3, _⟩ := s.ownd j ys hj oj
    rw [h1] at e
    cases e
    rw [h3] at hp
    cases hp
theorem pdl_lst (h : PDa X C es g) : PDl X C (.List es pos) (M.lst g) := pe_imp (pe_lst h) fun σ H Q ⟨Hf, ρ, s, h⟩ =>
  tG_bind s h fun vs as H1 Hf1 ρ1 e1 s1 d1 h1 => by
    obtain ⟨z, hz, h2⟩ := h1.lift
    cases q : datOf as with
    | none => rw [q] at hz; cases hz
    | some xs =>
      rw [q] at hz
      simp only [Option.bind_some] at hz
      split at hz
      · rename_i hl
        cases hz
        have da := ArgsRel.dats d1 q
        refine ⟨by rw [DpAll.length da]; exact hl, fun p hp => ?_⟩
        exact PostG.nowG (b := V.ref p) h2 s1 (Grow.mine (o := .lst vs) s1.e1 hp) (s1.newL hp da)
      · cases hz
/-- a new list as a datum -/
theorem SR.known {K : PySem.W.Frag} {Hf H : Hp} {σ : L2.St} {ρ : DE} {v : V} {xs : List D} (s : SR K C Hf H σ ρ) (r : relL K C σ Hf H ρ v xs) : ∃ Hf', Ex Hf Hf' ∧ SR K C Hf' H σ ρ ∧ Dp K Hf' v (.list xs) := by
  obtain ⟨a, vs, rfl, h1, h2, h3, h4, h5, h6⟩ := r
  have ee : Ex Hf (upd Hf a (.lst vs)) := Ex.new h1
  refine ⟨upd Hf a (.lst vs), ee, ⟨s.len, s.e0.trans ee, fun b o h => ?_, fun b o h => ?_, s.keep, s.pin, fun p hp => ?_, fun i x hi => ?_, fun i ys hi oi => ?_, s.apart⟩, .lst (SqL.of upd_same) (DpAll.mono ee _ _ h3)⟩
  · by_cases hb : b = a
    · subst hb
      rw [upd_same] at h
      rw [h2]; exact h
    · rw [upd_ne hb] at h
      exact s.e1 b o h
  · by_cases hb : b = a
    · exact .inr (hb ▸ h4)
    · rw [upd_ne hb] at h
      exact s.fresh b o h
  · obtain ⟨g1, g2⟩ := s.no p hp
    exact ⟨by rw [upd_ne (Ne.symm (h5 p hp))]; exact g1, g2⟩
  · obtain ⟨v, g1, g2⟩ := s.val i x hi
    exact ⟨v, g1, Dp.mono ee _ _ g2⟩
  · obtain ⟨b, ws, g1, g2, g3, g4, g5, g6⟩ := s.ownd i ys hi oi
    refine ⟨b, ws, g1, ?_, g3, g4.mono ee, g5, g6⟩
    rw [upd_ne (fun e => h6 i ⟨ys, hi, oi⟩ (by rw [g1, e]))]
    exact g2
def M.known (f : M (List D)) : M D := M.bind f fun xs => M.ret (.list xs)
theorem pd_l {fl : M (List D)} (h : PDl X C e fl) : PDe X C e (M.known fl) := pe_imp h fun σ H Q ⟨Hf, ρ, s, h⟩ =>
  tG_bind s h fun v xs H1 Hf1 ρ1 e1 s1 d1 h1 => by
    obtain ⟨Hf2, e2, s2, d2⟩ := s1.known d1
    exact h1 v H1 Hf2 e2 s2 d2
end
end PD

set_option maxRecDepth 100000
set_option maxHeartbeats 4000000
set_option autoImplicit false
namespace PD
open PySem PySem.Spec L2
open Evl (Ex)

/-! ### arithmetic on data -/
section
variable {X : Cx}
def CMulB (i j : Int) : Prop := i.natAbs.log2 + j.natAbs.log2 < 100000000
theorem CMulB.ok {i j : Int} (h : CMulB i j) : IntMulOk i j := by
  have b : ∀ x : Int, Builtin.Int.intBits x ≤ x.natAbs.log2 + 1 := fun x => by
    unfold Builtin.Int.intBits
    split <;> omega
  have h1 := b i
  have h2 := b j
  have h3 : i.natAbs.log2 + j.natAbs.log2 < 100000000 := h
  have e : bitsLine = 134217728 := by decide
  unfold IntMulOk
  intro z
  rw [Bool.and_eq_true] at z
  have z2 := z.2
  unfold Builtin.Int.intTooBig at z2
  have z3 := of_decide_eq_true z2
  rw [e] at z3
  omega
theorem op_mulB : OpR X (binaryOp .Mult) (rI CMulB fun i j => .int (i * j)) := opI fun _ _ _ _ _ _ _ hc q => PyProof.Rows.mul_int q hc.ok
/-- list + list, any two lists that are read -/
def rCatL (K : PySem.W.Frag) : R2 := fun x y H Q => ∃ l b xs zs, x = .ref l ∧ y = .ref b ∧ SqL K H l xs ∧ SqL K H b zs ∧ xs.length + zs.length ≤ sizeLine ∧ ∀ p, H p = none → Q (.ref p) (upd H p (.lst (xs ++ zs)))
theorem op_catL : OpR X (binaryOp .Add) (rCatL X.K) := by
  intro pins s σ H x y v u Q I rx ry h
  obtain ⟨l, b, xs, zs, rfl, rfl, hH, hB, hz, q⟩ := h
  cases rx
  cases ry
  obtain ⟨its, r, p1, _⟩ := I.list hH
  obtain ⟨its2, r2, p2, _⟩ := I.list hB
  obtain ⟨⟨cls, dd, data, sl⟩, ho, hc, n, hd⟩ := p1.isList
  obtain ⟨⟨cls2, dd2, data2, sl2⟩, ho2, hc2, n2, hd2⟩ := p2.isList
  simp only at hc hd hc2 hd2
  subst hc hd hc2 hd2
  have l1 := r.length
  have l2 := r2.length
  have e : its.toArray ++ its2.toArray = (its ++ its2).toArray := by simp
  refine concat_meets ⟨_, ho, rfl⟩ ⟨_, ho2, rfl⟩ noFill_list_add seq_list_add PySem.F.slot_list_add PySem.F.entry_list_add (PySem.F.args_list_add_2 _ _) (PyProof.Rows.list_addW l b its.toArray its2.toArray n n2 dd dd2 sl sl2 (by simp; omega)) ⟨ho, ho2, ?_⟩
  rw [e]
  exact ⟨.ref _, _, I.lnew (t' := s.toks) (r.append r2) (by rw [List.length_append]; omega), rfl, q _ I.fresh⟩
end

def addD : D → D → Option D
  | .int i, .int j => some (.int (i + j))
  | .str a, .str b => if a.length + b.length ≤ sizeLine then some (.str (a ++ b)) else none
  | .tuple xs, .tuple ys => if xs.length + ys.length ≤ sizeLine then some (.tuple (xs ++ ys)) else none
  | _, _ => none
def subD : D → D → Option D
  | .int i, .int j => some (.int (i - j))
  | _, _ => none
def mulOk (i j : Int) : Bool := decide (i.natAbs.log2 + j.natAbs.log2 < 100000000)
def mulD : D → D → Option D
  | .int i, .int j => if mulOk i j = true then some (.int (i * j)) else none
  | _, _ => none
def divOk (j : Int) : Bool := decide (0 < j) && decide (j.natAbs.log2 < 9000)
def fdivD : D → D → Option D
  | .int i, .int j => if divOk j = true then some (.int (i / j)) else none
  | _, _ => none
def modD : D → D → Option D
  | .int i, .int j => if 0 < j then some (.int (i % j)) else none
  | _, _ => none
def powD : D → D → Option D
  | .int i, .int j => if 0 ≤ j ∧ j ≤ 1000000 ∧ i.natAbs < 2 ^ 64 then some (.int (i ^ j.toNat)) else none
  | _, _ => none
def negD : D → Option D
  | .int i => some (.int (-i))
  | _ => none
section
variable {X : Cx} {C : Fc} {pos : Pos} {a b : Expr} {f g : M D}
def rAddS : R2 := fun x y H Q => ∃ i j, x = .str i ∧ y = .str j ∧ i.length + j.length ≤ sizeLine ∧ Q (.str (i ++ j)) H
theorem add_ok : Op2 X.K (fun x y H Q => rI0 (fun i j => .int (i + j)) x y H Q ∨ (rAddS x y H Q ∨ rCatA X.K x y H Q)) addD := fun C Hf H σ ρ v w x y z Q s d1 d2 e q => by
  cases x with
  | int i =>
    cases y <;> first | cases e | skip
    exact .inl ⟨_, _, d1.int_of, d2.int_of, q.now s (.int _)⟩
  | str i =>
    cases y with
    | str j =>
      simp only [addD] at e
      split at e
      · rename_i hl
        cases e
        exact .inr (.inl ⟨_, _, d1.str_of, d2.str_of, hl, q.now s (.str _)⟩)
      · cases e
    | _ => cases e
  | tuple xs =>
    cases y with
    | tuple ys =>
      simp only [addD] at e
      split at e
      · rename_i hl
        cases e
        obtain ⟨p, vs, rfl, h1, h2⟩ := d1.tup_of
        obtain ⟨p', ws, rfl, h3, h4⟩ := d2.tup_of
        have l1 := DpAll.length h2
        have l2 := DpAll.length h4
        refine .inr (.inr ⟨p, p', vs, ws, rfl, rfl, Evl.ex_t s.e1 h1, Evl.ex_t s.e1 h3, by omega, fun e => ?_, fun _ e => ?_, fun _ _ t ht => ?_⟩)
        · subst e
          have : xs = [] := List.eq_nil_of_length_eq_zero l1.symm
          subst this
          exact q.now s (.tup h3 h4)
        · subst e
          have : ys = [] := List.eq_nil_of_length_eq_zero l2.symm
          subst this
          rw [List.append_nil] at q
          exact q.now s (.tup h1 h2)
        · have gr := Grow.new (o := .tup (vs ++ ws)) s.e1 ht
          exact q.nowG s gr (.tup (SqT.of upd_same) (DpAll.append (DpAll.mono gr.f _ _ h2) (DpAll.mono gr.f _ _ h4)))
      · cases e
    | _ => cases e
  | _ => cases e
theorem pd_add (ha : PDe X C a f) (hb : PDe X C b g) : PDe X C (.BinOp a .Add b pos) (M.op2 addD f g) := pd_op (op_add.or (op_add_str.or op_catA)) add_ok ha hb
theorem int2_ok {K : PySem.W.Frag} {c : Int → Int → Prop} {h : Int → Int → Int} {o : D → D → Option D} (ho : ∀ x y z, o x y = some z → ∃ i j, x = .int i ∧ y = .int j ∧ c i j ∧ z = .int (h i j)) : Op2 K (rI c fun i j => .int (h i j)) o := fun C Hf H σ ρ v w x y z Q s d1 d2 e q => by
  obtain ⟨i, j, rfl, rfl, hc, rfl⟩ := ho x y z e
  exact ⟨i, j, d1.int_of, d2.int_of, hc, q.now s (.int _)⟩
theorem int2_ok0 {K : PySem.W.Frag} {h : Int → Int → Int} {o : D → D → Option D} (ho : ∀ x y z, o x y = some z → ∃ i j, x = .int i ∧ y = .int j ∧ z = .int (h i j)) : Op2 K (rI0 fun i j => .int (h i j)) o := fun C Hf H σ ρ v w x y z Q s d1 d2 e q => by
  obtain ⟨i, j, rfl, rfl, rfl⟩ := ho x y z e
  exact ⟨i, j, d1.int_of, d2.int_of, q.now s (.int _)⟩
theorem pd_sub (ha : PDe X C a f) (hb : PDe X C b g) : PDe X C (.BinOp a .Sub b pos) (M.op2 subD f g) := pd_op op_sub (int2_ok0 fun x y z e => by
  cases x <;> cases y <;> cases e
  exact ⟨_, _, rfl, rfl, rfl⟩) ha hb
theorem pd_fdiv (ha : PDe X C a f) (hb : PDe X C b g) : PDe X C (.BinOp a .FloorDiv b pos) (M.op2 fdivD f g) := pd_op op_fdivW (int2_ok fun x y z e => by
  cases x <;> cases y <;> first | cases e | skip
  simp only [fdivD] at e
  split at e
  · rename_i h
    cases e
    unfold divOk at h
    rw [Bool.and_eq_true] at h
    exact ⟨_, _, rfl, rfl, ⟨of_decide_eq_true h.1, of_decide_eq_true h.2⟩, rfl⟩
  · cases e) ha hb
theorem pd_mod (ha : PDe X C a f) (hb : PDe X C b g) : PDe X C (.BinOp a .Mod b pos) (M.op2 modD f g) := pd_op op_mod (int2_ok fun x y z e => by
  cases x <;> cases y <;> first | cases e | skip
  simp only [modD] at e
  split at e
  · rename_i h
    cases e
    exact ⟨_, _, rfl, rfl, h, rfl⟩
  · cases e) ha hb
theorem pd_pow (ha : PDe X C a f) (hb : PDe X C b g) : PDe X C (.BinOp a .Pow b pos) (M.op2 powD f g) := pd_op op_pow (int2_ok fun x y z e => by
  cases x <;> cases y <;> first | cases e | skip
  simp only [powD] at e
  split at e
  · rename_i h
    cases e
    exact ⟨_, _, rfl, rfl, h, rfl⟩
  · cases e) ha hb
theorem pd_mul (ha : PDe X C a f) (hb : PDe X C b g) : PDe X C (.BinOp a .Mult b pos) (M.op2 mulD f g) := pd_op op_mulB (int2_ok fun x y z e => by
  cases x <;> cases y <;> first | cases e | skip
  simp only [mulD] at e
  split at e
  · rename_i h
    cases e
    simp only [mulOk, decide_eq_true_eq] at h
    exact ⟨_, _, rfl, rfl, h, rfl⟩
  · cases e) ha hb
theorem pd_neg (ha : PDe X C a f) : PDe X C (.UnaryOp .USub a pos) (M.op1 negD f) := pd_un un_neg (fun C Hf H σ ρ v x z Q s d e q => by
  cases x <;> cases e
  exact ⟨_, d.int_of, q.now s (.int _)⟩) ha

/-! ### comparisons -/
def ltD : D → D → Option D
  | .int i, .int j => some (.bool (decide (i < j)))
  | _, _ => none
def leD : D → D → Option D
  | .int i, .int j => some (.bool (decide (i ≤ j)))
  | _, _ => none
def gtD : D → D → Option D
  | .int i, .int j => some (.bool (decide (j < i)))
  | _, _ => none
def geD : D → D → Option D
  | .int i, .int j => some (.bool (decide (j ≤ i)))
  | _, _ => none
theorem cmpI_ok {K : PySem.W.Frag} {h : Int → Int → Bool} {o : D → D → Option D} (ho : ∀ x y z, o x y = some z → ∃ i j, x = .int i ∧ y = .int j ∧ z = .bool (h i j)) : Op2B K (rI0 fun i j => .bl (h i j)) o := fun Hf H v w x y z Q e d1 d2 ez q => by
  obtain ⟨i, j, rfl, rfl, e2⟩ := ho x y _ ez
  cases e2
  exact ⟨i, j, d1.int_of, d2.int_of, q⟩
theorem ltI {x y z : D} (e : ltD x y = some z) : ∃ i j, x = .int i ∧ y = .int j ∧ z = .bool (decide (i < j)) := by
  cases x <;> cases y <;> cases e
  exact ⟨_, _, rfl, rfl, rfl⟩
theorem leI {x y z : D} (e : leD x y = some z) : ∃ i j, x = .int i ∧ y = .int j ∧ z = .bool (decide (i ≤ j)) := by
  cases x <;> cases y <;> cases e
  exact ⟨_, _, rfl, rfl, rfl⟩
theorem gtI {x y z : D} (e : gtD x y = some z) : ∃ i j, x = .int i ∧ y = .int j ∧ z = .bool (decide (j < i)) := by
  cases x <;> cases y <;> cases e
  exact ⟨_, _, rfl, rfl, rfl⟩
theorem geI {x y z : D} (e : geD x y = some z) : ∃ i j, x = .int i ∧ y = .int j ∧ z = .bool (decide (j ≤ i)) := by
  cases x <;> cases y <;> cases e
  exact ⟨_, _, rfl, rfl, rfl⟩
theorem bI {o : D → D → Option D} {h : Int → Int → Bool} (ho : ∀ x y z, o x y = some z → ∃ i j, x = .int i ∧ y = .int j ∧ z = .bool (h i j)) : ∀ x y z, o x y = some z → ∃ b, z = .bool b := fun x y z e => by
  obtain ⟨_, _, _, _, h⟩ := ho x y z e
  exact ⟨_, h⟩
theorem lt_okB {K : PySem.W.Frag} : Op2B K (rI0 fun i j => .bl (decide (i < j))) ltD := cmpI_ok fun _ _ _ => ltI
theorem le_okB {K : PySem.W.Frag} : Op2B K (rI0 fun i j => .bl (decide (i ≤ j))) leD := cmpI_ok fun _ _ _ => leI
theorem gt_okB {K : PySem.W.Frag} : Op2B K (rI0 fun i j => .bl (decide (j < i))) gtD := cmpI_ok fun _ _ _ => gtI
theorem ge_okB {K : PySem.W.Frag} : Op2B K (rI0 fun i j => .bl (decide (j ≤ i))) geD := cmpI_ok fun _ _ _ => geI
theorem lt_b : ∀ x y z, ltD x y = some z → ∃ b, z = .bool b := bI fun _ _ _ => ltI
theorem le_b : ∀ x y z, leD x y = some z → ∃ b, z = .bool b := bI fun _ _ _ => leI
theorem gt_b : ∀ x y z, gtD x y = some z → ∃ b, z = .bool b := bI fun _ _ _ => gtI
theorem ge_b : ∀ x y z, geD x y = some z → ∃ b, z = .bool b := bI fun _ _ _ => geI
theorem pd_lt (ha : PDe X C a f) (hb : PDe X C b g) : PDe X C (.Compare a [.Lt] [b] pos) (M.op2 ltD f g) := pd_cmp op_lt (lt_okB.op2 lt_b) ha hb (nomark _)
theorem pd_le (ha : PDe X C a f) (hb : PDe X C b g) : PDe X C (.Compare a [.LtE] [b] pos) (M.op2 leD f g) := pd_cmp op_le (le_okB.op2 le_b) ha hb (nomark _)
theorem pd_gt (ha : PDe X C a f) (hb : PDe X C b g) : PDe X C (.Compare a [.Gt] [b] pos) (M.op2 gtD f g) := pd_cmp op_gt (gt_okB.op2 gt_b) ha hb (nomark _)
theorem pd_ge (ha : PDe X C a f) (hb : PDe X C b g) : PDe X C (.Compare a [.GtE] [b] pos) (M.op2 geD f g) := pd_cmp op_ge (ge_okB.op2 ge_b) ha hb (nomark _)
theorem pdt_lt (ha : PDe X C a f) (hb : PDe X C b g) : PDt X C (.Compare a [.Lt] [b] pos) (M.test (M.op2 ltD f g)) := pdt_cmp op_lt (lt_okB.op2 lt_b) ha hb (nomark _)
theorem pdt_le (ha : PDe X C a f) (hb : PDe X C b g) : PDt X C (.Compare a [.LtE] [b] pos) (M.test (M.op2 leD f g)) := pdt_cmp op_le (le_okB.op2 le_b) ha hb (nomark _)
theorem pdt_gt (ha : PDe X C a f) (hb : PDe X C b g) : PDt X C (.Compare a [.Gt] [b] pos) (M.test (M.op2 gtD f g)) := pdt_cmp op_gt (gt_okB.op2 gt_b) ha hb (nomark _)
theorem pdt_ge (ha : PDe X C a f) (hb : PDe X C b g) : PDt X C (.Compare a [.GtE] [b] pos) (M.test (M.op2 geD f g)) := pdt_cmp op_ge (ge_okB.op2 ge_b) ha hb (nomark _)
variable {c : Expr} {k : M D}
theorem pd_lele (ha : PDe X C a f) (hb : PDe X C b g) (hc : PDe X C c k) (hm : lastMarks [.LtE, .LtE] [b, c] = false := by with_unfolding_all rfl) : PDe X C (.Compare a [.LtE, .LtE] [b, c] pos) (M.chain leD leD f g k) := pd_chain op_le op_le le_okB le_okB le_b ha hb hc hm
theorem pdt_lele (ha : PDe X C a f) (hb : PDe X C b g) (hc : PDe X C c k) (hm : lastMarks [.LtE, .LtE] [b, c] = false := by with_unfolding_all rfl) : PDt X C (.Compare a [.LtE, .LtE] [b, c] pos) (M.test (M.chain leD leD f g k)) := pdt_chain op_le op_le le_okB le_okB le_b ha hb hc hm

/-- ==: scalars as they are; nested data where the texts within are sound -/
def eqD (x y : D) : Option Bool := match x, y with
  | .none, .none => some true
  | .none, .bool _ => some false
  | .none, .int _ => some false
  | .none, .str _ => some false
  | .bool _, .none => some false
  | .bool a, .bool b => some (decide (a = b))
  | .bool _, .str _ => some false
  | .int _, .none => some false
  | .int a, .int b => some (decide (a = b))
  | .int _, .str _ => some false
  | .str _, .none => some false
  | .str _, .bool _ => some false
  | .str _, .int _ => some false
  | .str a, .str b => some (decide (a = b))
  | x, y => if SeqAt.shaped x = true ∧ SeqAt.shaped y = true then some (PyData.eqv x y) else none
def eqDD (x y : D) : Option D := (eqD x y).map .bool
def neDD (x y : D) : Option D := (eqD x y).map fun b => .bool !b
theorem eq_cases {K : PySem.W.Frag} {H : Hp} {v w : V} {x y : D} {b : Bool} (d1 : Dp K H v x) (d2 : Dp K H w y) (e : eqD x y = some b) : (scal v w = true ∧ b = decide (v = w)) ∨ (SeqAt.shaped x = true ∧ SeqAt.shaped y = true ∧ b = PyData.eqv x y) := by
  unfold eqD at e
  split at e
  all_goals first
    | (split at e
       · rename_i h
         cases e
         exact .inr ⟨h.1, h.2, rfl⟩
       · cases e)
    | (cases e
       cases d1
       cases d2
       refine .inl ⟨rfl, ?_⟩
       simp)
theorem eq_okB : Op2B X.K (fun x y H Q => rEq x y H Q ∨ rEqD X.K x y H Q) eqDD := fun Hf H v w x y z Q e d1 d2 ez q => by
  unfold eqDD at ez
  cases he : eqD x y with
  | none => rw [he] at ez; cases ez
  | some b =>
    rw [he] at ez
    cases ez
    rcases eq_cases d1 d2 he with ⟨h1, rfl⟩ | ⟨h1, h2, rfl⟩
    · exact .inl ⟨h1, q⟩
    · exact .inr ⟨x, y, Dp.mono e _ _ d1, Dp.mono e _ _ d2, h1, h2, q⟩
theorem ne_okB : Op2B X.K (fun x y H Q => rNe x y H Q ∨ rNeD X.K x y H Q) neDD := fun Hf H v w x y z Q e d1 d2 ez q => by
  unfold neDD at ez
  cases he : eqD x y with
  | none => rw [he] at ez; cases ez
  | some b =>
    rw [he] at ez
    cases ez
    rcases eq_cases d1 d2 he with ⟨h1, rfl⟩ | ⟨h1, h2, rfl⟩
    · exact .inl ⟨h1, q⟩
    · exact .inr ⟨x, y, Dp.mono e _ _ d1, Dp.mono e _ _ d2, h1, h2, q⟩
theorem eq_b : ∀ x y z, eqDD x y = some z → ∃ b, z = .bool b := fun x y z e => by
  unfold eqDD at e
  cases he : eqD x y with
  | none => rw [he] at e; cases e
  | some b => rw [he] at e; cases e; exact ⟨_, rfl⟩
theorem ne_b : ∀ x y z, neDD x y = some z → ∃ b, z = .bool b := fun x y z e => by
  unfold neDD at e
  cases he : eqD x y with
  | none => rw [he] at e; cases e
  | some b => rw [he] at e; cases e; exact ⟨_, rfl⟩
theorem pd_eq (hu : X.A.units + 64 < cLine) (ha : PDe X C a f) (hb : PDe X C b g) : PDe X C (.Compare a [.Eq] [b] pos) (M.op2 eqDD f g) := pd_cmp (op_eq.or (op_eqD hu)) (eq_okB.op2 eq_b) ha hb (nomark _)
theorem pd_ne (hu : X.A.units + 64 < cLine) (ha : PDe X C a f) (hb : PDe X C b g) : PDe X C (.Compare a [.NotEq] [b] pos) (M.op2 neDD f g) := pd_cmp (op_ne.or (op_neD hu)) (ne_okB.op2 ne_b) ha hb (nomark _)
theorem pdt_eq (hu : X.A.units + 64 < cLine) (ha : PDe X C a f) (hb : PDe X C b g) : PDt X C (.Compare a [.Eq] [b] pos) (M.test (M.op2 eqDD f g)) := pdt_cmp (op_eq.or (op_eqD hu)) (eq_okB.op2 eq_b) ha hb (nomark _)
theorem pdt_ne (hu : X.A.units + 64 < cLine) (ha : PDe X C a f) (hb : PDe X C b g) : PDt X C (.Compare a [.NotEq] [b] pos) (M.test (M.op2 neDD f g)) := pdt_cmp (op_ne.or (op_neD hu)) (ne_okB.op2 ne_b) ha hb (nomark _)
def isNoneB : D → Bool
  | .none => true
  | _ => false
def isND (x y : D) : Option D := if isNoneB y = true then some (.bool (isNoneB x)) else none
def notND (x y : D) : Option D := if isNoneB y = true then some (.bool !(isNoneB x)) else none
theorem isNone_v {K : PySem.W.Frag} {H : Hp} {v : V} {x : D} (d : Dp K H v x) : decide (v = .non) = isNoneB x := by cases d <;> simp [isNoneB]
theorem isN_ok : Op2B X.K (fun x y H Q => y = .non ∧ Q (.bl (decide (x = .non))) H) isND := fun Hf H v w x y z Q e d1 d2 ez q => by
  unfold isND at ez
  split at ez
  · rename_i h
    cases y <;> first | cases h | skip
    cases ez
    exact ⟨d2.none_of, by rw [isNone_v d1]; exact q⟩
  · cases ez
theorem notN_ok : Op2B X.K (fun x y H Q => y = .non ∧ Q (.bl (!decide (x = .non))) H) notND := fun Hf H v w x y z Q e d1 d2 ez q => by
  unfold notND at ez
  split at ez
  · rename_i h
    cases y <;> first | cases h | skip
    cases ez
    exact ⟨d2.none_of, by rw [isNone_v d1]; exact q⟩
  · cases ez
theorem isN_b : ∀ x y z, isND x y = some z → ∃ b, z = .bool b := fun x y z e => by
  unfold isND at e
  split at e <;> cases e
  exact ⟨_, rfl⟩
theorem notN_b : ∀ x y z, notND x y = some z → ∃ b, z = .bool b := fun x y z e => by
  unfold notND at e
  split at e <;> cases e
  exact ⟨_, rfl⟩
theorem pd_is (ha : PDe X C a f) (hb : PDe X C b g) : PDe X C (.Compare a [.Is] [b] pos) (M.op2 isND f g) := pd_cmp op_isN (isN_ok.op2 isN_b) ha hb (nomark _)
theorem pd_isnot (ha : PDe X C a f) (hb : PDe X C b g) : PDe X C (.Compare a [.IsNot] [b] pos) (M.op2 notND f g) := pd_cmp op_notN (notN_ok.op2 notN_b) ha hb (nomark _)
theorem pdt_is (ha : PDe X C a f) (hb : PDe X C b g) : PDt X C (.Compare a [.Is] [b] pos) (M.test (M.op2 isND f g)) := pdt_cmp op_isN (isN_ok.op2 isN_b) ha hb (nomark _)
theorem pdt_isnot (ha : PDe X C a f) (hb : PDe X C b g) : PDt X C (.Compare a [.IsNot] [b] pos) (M.test (M.op2 notND f g)) := pdt_cmp op_notN (notN_ok.op2 notN_b) ha hb (nomark _)
/-- in, not in: flat data in a list or a tuple of flat data -/
def flatD : D → Option V
  | .none => some .non
  | .bool b => some (.bl b)
  | .int i => some (.int i)
  | .str x => some (.str x)
  | _ => none
def flatAll : List D → Option (List V)
  | [] => some []
  | x :: xs => (flatD x).bind fun v => (flatAll xs).map fun vs => v :: vs
def inSeq (x : D) (xs : List D) : Option Bool := (flatD x).bind fun v => (flatAll xs).bind fun vs => if flatV v = true ∧ vs.all flatV = true then some (inV v vs) else none
def inB : D → D → Option Bool
  | x, .list xs => inSeq x xs
  | x, .tuple xs => inSeq x xs
  | .str i, .str j => some (!(Builtin.Str.occurrences j i 0 j.length 1).isEmpty)
  | _, _ => none
def inDD (x y : D) : Option D := (inB x y).map .bool
def notInDD (x y : D) : Option D := (inB x y).map fun b => .bool !b
theorem flat_v {K : PySem.W.Frag} {H : Hp} {v u : V} {x : D} (d : Dp K H v x) (e : flatD x = some u) : v = u := by
  cases d <;> cases e <;> rfl
theorem flat_vs {K : PySem.W.Frag} {H : Hp} : ∀ {vs us : List V} {xs : List D}, DpAll K H vs xs → flatAll xs = some us → vs = us
  | _, us, _, .nil, e => by cases e; rfl
  | _, us, _, .cons (d := d) (ds := ds) h t, e => by
    unfold flatAll at e
    cases h1 : flatD d with
    | none => rw [h1] at e; cases e
    | some v =>
      cases h2 : flatAll ds with
      | none => rw [h1, h2] at e; cases e
      | some vs =>
        rw [h1, h2] at e
        cases e
        rw [flat_v h h1, flat_vs t h2]
theorem in_cases {K : PySem.W.Frag} {Hf H : Hp} {v w : V} {x y : D} {b : Bool} (e1 : Ex Hf H) (d1 : Dp K Hf v x) (d2 : Dp K Hf w y) (e : inB x y = some b) :
    (∃ p xs, w = .ref p ∧ (SqL K H p xs ∨ SqT K H p xs) ∧ flatV v = true ∧ xs.all flatV = true ∧ b = inV v xs) ∨ (∃ i j, v = .str i ∧ w = .str j ∧ b = !(Builtin.Str.occurrences j i 0 j.length 1).isEmpty) := by
  have seq : ∀ {xs : List D} {us : List V}, DpAll K Hf us xs → inSeq x xs = some b → flatV v = true ∧ us.all flatV = true ∧ b = inV v us := fun {xs us} da e => by
    unfold inSeq at e
    cases h1 : flatD x with
    | none => rw [h1] at e; cases e
    | some v' =>
      cases h2 : flatAll xs with
      | none => rw [h1, h2] at e; cases e
      | some vs =>
        rw [h1, h2] at e
        have a1 := flat_v d1 h1
        have a2 := flat_vs da h2
        subst a1 a2
        simp only [Option.bind_some] at e
        split at e
        · rename_i h
          cases e
          exact ⟨h.1, h.2, rfl⟩
        · cases e
  unfold inB at e
  split at e
  · obtain ⟨p, us, rfl, h1, h2⟩ := d2.list_of
    obtain ⟨a1, a2, a3⟩ := seq h2 e
    exact .inl ⟨p, us, rfl, .inl (Evl.ex_l e1 h1), a1, a2, a3⟩
  · obtain ⟨p, us, rfl, h1, h2⟩ := d2.tup_of
    obtain ⟨a1, a2, a3⟩ := seq h2 e
    exact .inl ⟨p, us, rfl, .inr (Evl.ex_t e1 h1), a1, a2, a3⟩
  · cases e
    exact .inr ⟨_, _, d1.str_of, d2.str_of, rfl⟩
  · cases e
def rInS : R2 := fun x y H Q => ∃ i j, x = .str i ∧ y = .str j ∧ Q (.bl (!(Builtin.Str.occurrences j i 0 j.length 1).isEmpty)) H
def rNotInS : R2 := fun x y H Q => ∃ i j, x = .str i ∧ y = .str j ∧ Q (.bl (!(!(Builtin.Str.occurrences j i 0 j.length 1).isEmpty))) H
theorem in_okB : Op2B X.K (fun x y H Q => rIn X.K false x y H Q ∨ rInS x y H Q) inDD := fun Hf H v w x y z Q e d1 d2 ez q => by
  unfold inDD at ez
  cases he : inB x y with
  | none => rw [he] at ez; cases ez
  | some b =>
    rw [he] at ez
    cases ez
    rcases in_cases e d1 d2 he with ⟨p, xs, rfl, h1, h2, h3, rfl⟩ | ⟨i, j, rfl, rfl, rfl⟩
    · exact .inl ⟨p, xs, rfl, h1, h2, h3, q⟩
    · exact .inr ⟨i, j, rfl, rfl, q⟩
theorem notIn_okB : Op2B X.K (fun x y H Q => rIn X.K true x y H Q ∨ rNotInS x y H Q) notInDD := fun Hf H v w x y z Q e d1 d2 ez q => by
  unfold notInDD at ez
  cases he : inB x y with
  | none => rw [he] at ez; cases ez
  | some b =>
    rw [he] at ez
    cases ez
    rcases in_cases e d1 d2 he with ⟨p, xs, rfl, h1, h2, h3, rfl⟩ | ⟨i, j, rfl, rfl, rfl⟩
    · exact .inl ⟨p, xs, rfl, h1, h2, h3, q⟩
    · exact .inr ⟨i, j, rfl, rfl, q⟩
theorem inD_b : ∀ x y z, inDD x y = some z → ∃ b, z = .bool b := fun x y z e => by
  unfold inDD at e
  cases he : inB x y with
  | none => rw [he] at e; cases e
  | some b => rw [he] at e; cases e; exact ⟨_, rfl⟩
theorem notInD_b : ∀ x y z, notInDD x y = some z → ∃ b, z = .bool b := fun x y z e => by
  unfold notInDD at e
  cases he : inB x y with
  | none => rw [he] at e; cases e
  | some b => rw [he] at e; cases e; exact ⟨_, rfl⟩
theorem pd_in (hm : behindInMarks .In b = false) (ha : PDe X C a f) (hb : PDe X C b g) : PDe X C (.Compare a [.In] [b] pos) (M.op2 inDD f g) := pd_cmp (op_in_seq.or op_in_str) (in_okB.op2 inD_b) ha hb hm
theorem pd_notIn (hm : behindInMarks .NotIn b = false) (ha : PDe X C a f) (hb : PDe X C b g) : PDe X C (.Compare a [.NotIn] [b] pos) (M.op2 notInDD f g) := pd_cmp (op_notIn_seq.or op_notin_str) (notIn_okB.op2 notInD_b) ha hb hm
theorem pdt_in (hm : behindInMarks .In b = false) (ha : PDe X C a f) (hb : PDe X C b g) : PDt X C (.Compare a [.In] [b] pos) (M.test (M.op2 inDD f g)) := pdt_cmp (op_in_seq.or op_in_str) (in_okB.op2 inD_b) ha hb hm
theorem pdt_notIn (hm : behindInMarks .NotIn b = false) (ha : PDe X C a f) (hb : PDe X C b g) : PDt X C (.Compare a [.NotIn] [b] pos) (M.test (M.op2 notInDD f g)) := pdt_cmp (op_notIn_seq.or op_notin_str) (notIn_okB.op2 notInD_b) ha hb hm
end

/-! ### subscripts, slices -/
section
variable {X : Cx} {C : Fc} {pos p2 : Pos} {a b : Expr} {lo hi : Option Expr} {f g : M D} {l u : M (Option Int)}
def ixD : D → D → Option D
  | .list xs, .int i => atI xs i
  | .tuple xs, .int i => atI xs i
  | .str z, .int i => if z.length ≤ sizeLine then (atI z.cps.toList i).map fun c => .str ⟨#[c]⟩ else none
  | _, _ => none
theorem atI_dp {K : PySem.W.Frag} {H : Hp} {vs : List V} {xs : List D} {i : Int} {x : D} (h : DpAll K H vs xs) (e : atI xs i = some x) : ∃ v, atI vs i = some v ∧ Dp K H v x := by
  unfold atI at e ⊢
  rw [DpAll.length h]
  cases q : ixN xs.length i with
  | none => rw [q] at e; cases e
  | some j =>
    rw [q] at e
    exact DpAll.get h e
theorem ix_ok : Op2 X.K (rIx X.K) ixD := fun C Hf H σ ρ v w x y z Q s d1 d2 e q => by
  cases x with
  | list xs =>
    cases y <;> first | cases e | skip
    obtain ⟨p, us, rfl, h1, h2⟩ := d1.list_of
    obtain ⟨t, h3, h4⟩ := atI_dp h2 e
    exact .inl ⟨p, us, _, t, rfl, d2.int_of, Evl.ex_l s.e1 h1, h3, q.now s h4⟩
  | tuple xs =>
    cases y <;> first | cases e | skip
    obtain ⟨p, us, rfl, h1, h2⟩ := d1.tup_of
    obtain ⟨t, h3, h4⟩ := atI_dp h2 e
    exact .inr (.inl ⟨p, us, _, t, rfl, d2.int_of, Evl.ex_t s.e1 h1, h3, q.now s h4⟩)
  | str zz =>
    cases y with
    | int i =>
      simp only [ixD] at e
      split at e
      · rename_i hl
        cases h : atI zz.cps.toList i with
        | none => rw [h] at e; cases e
        | some c =>
          rw [h] at e
          cases e
          exact .inr (.inr ⟨_, _, c, d1.str_of, d2.int_of, hl, h, q.now s (.str _)⟩)
      · cases e
    | _ => cases e
  | _ => cases e
theorem pd_sub_ (ha : PDe X C a f) (hb : PDe X C b g) (hs : PlainIx b) : PDe X C (.Subscript a b pos) (M.op2 ixD f g) := pd_ix ix_seq ix_ok ha hb hs
def asI : D → Option Int
  | .int i => some i
  | _ => none
def M.part (f : M D) : M (Option Int) := M.bind f fun x => M.lift ((asI x).map some)
theorem pdo_none : PDo X C none (M.ret none) := po_imp po_none fun σ H Q ⟨Hf, ρ, s, h⟩ => PostG.now (b := (none : Option Int)) h s rfl
theorem pdo_some (ha : PDe X C a f) : PDo X C (some a) (M.part f) := po_imp (po_some ha) fun σ H Q ⟨Hf, ρ, s, h⟩ =>
  tG_bind s h fun v x H1 Hf1 ρ1 e1 s1 d1 h1 => by
    obtain ⟨z, hz, h2⟩ := h1.lift
    cases x <;> cases hz
    exact ⟨_, d1.int_of, PostG.now (b := some _) h2 s1 rfl⟩
def cutD (xs : List D) (lo hi : Option Int) : List D := (xs.drop (HT.sIx xs.length 0 lo)).take (HT.sIx xs.length xs.length hi - HT.sIx xs.length 0 lo)
theorem cut_dp {K : PySem.W.Frag} {H : Hp} {vs : List V} {xs : List D} (lo hi : Option Int) (h : DpAll K H vs xs) : DpAll K H (cutV vs lo hi) (cutD xs lo hi) := by
  unfold cutV cutD
  rw [DpAll.length h]
  exact DpAll.take _ (DpAll.drop _ h)
def sliceD (x : D) (lo hi : Option Int) : Option D := match x with
  | .tuple xs => some (.tuple (cutD xs lo hi))
  | .str z => if z.length ≤ sizeLine then some (.str (cutS z lo hi)) else none
  | _ => none
def M.slice (f : M D) (l u : M (Option Int)) : M D := M.bind f fun x => M.bind l fun a => M.bind u fun b => M.lift (sliceD x a b)
theorem pd_slice (ha : PDe X C a f) (hl : PDo X C lo l) (hu : PDo X C hi u) : PDe X C (.Subscript a (.Slice lo hi none p2) pos) (M.slice f l u) :=
  pe_imp (pe_slice (sl_tupA.or sl_str) ha hl hu) fun σ H Q ⟨Hf, ρ, s, h⟩ =>
    tG_bind s h fun v x H1 Hf1 ρ1 e1 s1 d1 h1 => tG_bind s1 h1 fun i i' H2 Hf2 ρ2 e2 s2 d2 h2 => tG_bind s2 h2 fun j j' H3 Hf3 ρ3 e3 s3 d3 h3 => by
      have d2 : i = i' := d2
      have d3 : j = j' := d3
      subst d2 d3
      obtain ⟨z, hz, h4⟩ := h3.lift
      have d1 := Dp.mono (e2.trans e3) _ _ d1
      unfold sliceD at hz
      split at hz
      · cases hz
        obtain ⟨p, us, rfl, g1, g2⟩ := Dp.tup_of d1
        have hlen := DpAll.length g2
        refine .inl ⟨p, us, rfl, Evl.ex_t s3.e1 g1, fun hw => ?_, fun _ t ht => ?_⟩
        · refine PostG.now (b := V.ref p) h4 s3 ?_
          rename_i xs _
          have e : cutD xs i j = xs := by
            unfold cutD
            rw [← hlen, hw.1, hw.2, Nat.sub_zero, List.drop_zero, hlen, List.take_length]
          rw [e]
          exact .tup g1 g2
        · have gr := Grow.new (o := .tup (cutV us i j)) s3.e1 ht
          exact PostG.nowG (b := V.ref t) h4 s3 gr (.tup (SqT.of upd_same) (DpAll.mono gr.f _ _ (cut_dp i j g2)))
      · split at hz
        · rename_i hl
          cases hz
          have e := Dp.str_of d1
          subst e
          exact .inr ⟨_, rfl, hl, PostG.now (b := V.str _) h4 s3 (.str _)⟩
        · cases hz
      · cases hz
/-- a slice of a list: a new list -/
def M.sliceL (f : M D) (l u : M (Option Int)) : M (List D) := M.bind f fun x => M.bind l fun a => M.bind u fun b => M.lift (match x with | .list xs => some (cutD xs a b) | _ => none)
theorem pdl_slice (ha : PDe X C a f) (hl : PDo X C lo l) (hu : PDo X C hi u) : PDl X C (.Subscript a (.Slice lo hi none p2) pos) (M.sliceL f l u) :=
  pe_imp (pe_slice sl_list ha hl hu) fun σ H Q ⟨Hf, ρ, s, h⟩ =>
    tG_bind s h fun v x H1 Hf1 ρ1 e1 s1 d1 h1 => tG_bind s1 h1 fun i i' H2 Hf2 ρ2 e2 s2 d2 h2 => tG_bind s2 h2 fun j j' H3 Hf3 ρ3 e3 s3 d3 h3 => by
      have d2 : i = i' := d2
      have d3 : j = j' := d3
      subst d2 d3
      obtain ⟨z, hz, h4⟩ := h3.lift
      have d1 := Dp.mono (e2.trans e3) _ _ d1
      cases x <;> cases hz
      obtain ⟨p, us, rfl, g1, g2⟩ := Dp.list_of d1
      refine ⟨p, us, rfl, Evl.ex_l s3.e1 g1, fun t ht => ?_⟩
      exact PostG.nowG (b := V.ref t) h4 s3 (Grow.mine (o := .lst (cutV us i j)) s3.e1 ht) (s3.newL ht (cut_dp i j g2))
/-- list + list: a new list -/
def M.catL (f g : M D) : M (List D) := M.bind f fun x => M.bind g fun y => M.lift (match x, y with | .list xs, .list ys => if xs.length + ys.length ≤ sizeLine then some (xs ++ ys) else none | _, _ => none)
theorem pdl_cat (ha : PDe X C a f) (hb : PDe X C b g) : PDl X C (.BinOp a .Add b pos) (M.catL f g) := pe_imp (pe_op op_catL ha hb) fun σ H Q ⟨Hf, ρ, s, h⟩ =>
  tG_bind s h fun v x H1 Hf1 ρ1 e1 s1 d1 h1 => tG_bind s1 h1 fun w y H2 Hf2 ρ2 e2 s2 d2 h2 => by
    obtain ⟨z, hz, h4⟩ := h2.lift
    have d1 := Dp.mono e2 _ _ d1
    cases x <;> cases y <;> first | cases hz | skip
    simp only at hz
    split at hz
    · rename_i hl
      cases hz
      obtain ⟨p, us, rfl, g1, g2⟩ := Dp.list_of d1
      obtain ⟨p', ws, rfl, g3, g4⟩ := Dp.list_of d2
      have l1 := DpAll.length g2
      have l2 := DpAll.length g4
      refine ⟨p, p', us, ws, rfl, rfl, Evl.ex_l s2.e1 g1, Evl.ex_l s2.e1 g3, by omega, fun t ht => ?_⟩
      exact PostG.nowG (b := V.ref t) h4 s2 (Grow.mine (o := .lst (us ++ ws)) s2.e1 ht) (s2.newL ht (DpAll.append g2 g4))
    · cases hz
end
end PD

set_option maxRecDepth 100000
set_option maxHeartbeats 4000000
set_option autoImplicit false
namespace PD
open PySem PySem.Spec L2
open Evl (Ex)

/-! ### built-in functions on data -/
def CallD (K : PySem.W.Frag) (r : List V → Hp → VK → Prop) (o : List D → Option D) : Prop :=
  ∀ (C : Fc) (Hf H : Hp) (σ : L2.St) (ρ : DE) (vs : List V) (xs : List D) (z : D) (Q : VK), SR K C Hf H σ ρ → DpAll K Hf vs xs → o xs = some z → PostG K C σ (relD K σ) Hf (.ok z ρ) Q → r vs H Q
def M.call (o : List D → Option D) (g : M (List Arg)) : M D := M.bind (M.dats g) fun xs => M.lift (o xs)
section
variable {X : Cx} {C : Fc} {pos p : Pos} {e a b : Expr} {es : List Expr} {x : Str} {bid T : String} {r : List V → Hp → VK → Prop} {o : List D → Option D} {g : M (List Arg)} {f : M D}
theorem call_go (ho : CallD X.K r o) {σ : L2.St} {H : Hp} {Q : VK} (h : tG X.K C (relD X.K) (M.call o g) σ H Q) : tCB r (tG X.K C (relA X.K) g) σ H Q := by
  obtain ⟨Hf, ρ, s, h⟩ := h
  have h : PostG X.K C σ (relD X.K σ) Hf (M.bind g (fun as => M.bind (M.lift (datOf as)) fun xs => M.lift (o xs)) ρ) Q := by
    have e : M.call o g ρ = M.bind g (fun as => M.bind (M.lift (datOf as)) fun xs => M.lift (o xs)) ρ := by
      unfold M.call M.dats M.bind
      cases g ρ <;> rfl
    rw [← e]
    exact h
  refine tG_bind s h fun vs as H1 Hf1 ρ1 e1 s1 d1 h1 => ?_
  cases q : datOf as with
  | none =>
    unfold M.bind M.lift at h1
    rw [q] at h1
    exact (show False from h1).elim
  | some xs =>
    have h1 : PostG X.K C σ (relD X.K σ) Hf1 (M.lift (o xs) ρ1) Q := by
      unfold M.bind M.lift at h1
      rw [q] at h1
      exact h1
    obtain ⟨z, hz, h2⟩ := h1.lift
    exact ho C Hf1 H1 σ ρ1 vs xs z Q s1 (ArgsRel.dats d1 q) hz h2
theorem pd_callB (hc : CallR X (.builtin bid) r) (ho : CallD X.K r o) (hg : Gl X x) (hm : X.mg x = none) (hv : bootBuiltins x = some (.builtin bid)) (ha : PDa X C (e :: es) g) (hn : x ≠ "__name__" := by decide) (hdb : (x == ("__debug__" : Str)) = false := by decide)
    (he : starEach (e :: es) X.env = (false, eval e X.env) :: starEach es X.env := by rfl) (hpl : (backTo pos (starEach es X.env)).any (·.1) = false := by rfl) : PDe X C (.Call (.Name x p) (e :: es) [] pos) (M.call o g) :=
  pe_imp (pe_callB hc hg hm hv ha hn hdb he hpl) fun _ _ _ h => call_go ho h
theorem pd_callTy (hc : CallR X (.type T) r) (ho : CallD X.K r o) (hg : Gl X x) (hm : X.mg x = none) (hv : bootBuiltins x = some (.type T)) (ha : PDa X C (e :: es) g) (hn : x ≠ "__name__" := by decide) (hdb : (x == ("__debug__" : Str)) = false := by decide)
    (he : starEach (e :: es) X.env = (false, eval e X.env) :: starEach es X.env := by rfl) (hpl : (backTo pos (starEach es X.env)).any (·.1) = false := by rfl) : PDe X C (.Call (.Name x p) (e :: es) [] pos) (M.call o g) :=
  pe_imp (pe_callTy hc hg hm hv ha hn hdb he hpl) fun _ _ _ h => call_go ho h
theorem dp1 {K : PySem.W.Frag} {H : Hp} {vs : List V} {x : D} (h : DpAll K H vs [x]) : ∃ v, vs = [v] ∧ Dp K H v x := by
  cases h with
  | cons h t => cases t; exact ⟨_, rfl, h⟩
theorem dp2 {K : PySem.W.Frag} {H : Hp} {vs : List V} {x y : D} (h : DpAll K H vs [x, y]) : ∃ v w, vs = [v, w] ∧ Dp K H v x ∧ Dp K H w y := by
  cases h with
  | cons h t =>
    obtain ⟨w, rfl, h2⟩ := dp1 t
    exact ⟨_, _, rfl, h, h2⟩
def lenD : List D → Option D
  | [.list xs] => some (.int xs.length)
  | [.tuple xs] => some (.int xs.length)
  | [.str z] => if z.length ≤ sizeLine then some (.int z.length) else none
  | _ => none
theorem len_ok : CallD X.K (fun xs H Q => ∃ x n, xs = [x] ∧ LenV X.K x H n ∧ Q (.int n) H) lenD := fun C Hf H σ ρ vs xs z Q s d e q => by
  unfold lenD at e
  split at e
  · cases e
    obtain ⟨v, rfl, h⟩ := dp1 d
    obtain ⟨p, us, rfl, h1, h2⟩ := h.list_of
    exact ⟨.ref p, _, rfl, .inl ⟨us, Evl.ex_l s.e1 h1, h2.length.symm⟩, q.now s (.int _)⟩
  · cases e
    obtain ⟨v, rfl, h⟩ := dp1 d
    obtain ⟨p, us, rfl, h1, h2⟩ := h.tup_of
    exact ⟨.ref p, _, rfl, .inr ⟨us, Evl.ex_t s.e1 h1, h2.length.symm⟩, q.now s (.int _)⟩
  · split at e
    · rename_i hl
      cases e
      obtain ⟨v, rfl, h⟩ := dp1 d
      rw [h.str_of]
      exact ⟨_, _, rfl, ⟨hl, rfl⟩, q.now s (.int _)⟩
    · cases e
  · cases e
theorem pd_len (hm : X.mg "len" = none) (ha : PDa X C (e :: es) g) (hg : Gl X "len" := by rfl) (he : starEach (e :: es) X.env = (false, eval e X.env) :: starEach es X.env := by rfl) (hpl : (backTo pos (starEach es X.env)).any (·.1) = false := by rfl) : PDe X C (.Call (.Name "len" p) (e :: es) [] pos) (M.call lenD g) :=
  pd_callB call_len len_ok hg hm PySem.boot_len ha (by decide) (by decide) he hpl
def absD : List D → Option D
  | [.int i] => some (.int (if i < 0 then -i else i))
  | _ => none
theorem abs_ok {K : PySem.W.Frag} : CallD K (fun xs H Q => ∃ i, xs = [.int i] ∧ Q (.int (if i < 0 then -i else i)) H) absD := fun C Hf H σ ρ vs xs z Q s d e q => by
  unfold absD at e
  split at e
  · cases e
    obtain ⟨v, rfl, h⟩ := dp1 d
    exact ⟨_, by rw [h.int_of], q.now s (.int _)⟩
  · cases e
theorem pd_abs (hm : X.mg "abs" = none) (ha : PDa X C (e :: es) g) (hg : Gl X "abs" := by rfl) (he : starEach (e :: es) X.env = (false, eval e X.env) :: starEach es X.env := by rfl) (hpl : (backTo pos (starEach es X.env)).any (·.1) = false := by rfl) : PDe X C (.Call (.Name "abs" p) (e :: es) [] pos) (M.call absD g) :=
  pd_callB call_abs abs_ok hg hm (by decide +kernel) ha (by decide) (by decide) he hpl
def maxD : List D → Option D
  | [.int i, .int j] => some (.int (if j > i then j else i))
  | _ => none
def minD : List D → Option D
  | [.int i, .int j] => some (.int (if j < i then j else i))
  | _ => none
theorem max_ok {K : PySem.W.Frag} : CallD K (fun xs H Q => ∃ i j, xs = [.int i, .int j] ∧ Q (.int (if j > i then j else i)) H) maxD := fun C Hf H σ ρ vs xs z Q s d e q => by
  unfold maxD at e
  split at e
  · cases e
    obtain ⟨v, w, rfl, h, h2⟩ := dp2 d
    exact ⟨_, _, by rw [h.int_of, h2.int_of], q.now s (.int _)⟩
  · cases e
theorem min_ok {K : PySem.W.Frag} : CallD K (fun xs H Q => ∃ i j, xs = [.int i, .int j] ∧ Q (.int (if j < i then j else i)) H) minD := fun C Hf H σ ρ vs xs z Q s d e q => by
  unfold minD at e
  split at e
  · cases e
    obtain ⟨v, w, rfl, h, h2⟩ := dp2 d
    exact ⟨_, _, by rw [h.int_of, h2.int_of], q.now s (.int _)⟩
  · cases e
theorem pd_max (hc : X.calm = true) (hm : X.mg "max" = none) (ha : PDa X C (e :: es) g) (hg : Gl X "max" := by rfl) (he : starEach (e :: es) X.env = (false, eval e X.env) :: starEach es X.env := by rfl) (hpl : (backTo pos (starEach es X.env)).any (·.1) = false := by rfl) : PDe X C (.Call (.Name "max" p) (e :: es) [] pos) (M.call maxD g) :=
  pd_callB (call_max2 hc) max_ok hg hm (by decide +kernel) ha (by decide) (by decide) he hpl
theorem pd_min (hc : X.calm = true) (hm : X.mg "min" = none) (ha : PDa X C (e :: es) g) (hg : Gl X "min" := by rfl) (he : starEach (e :: es) X.env = (false, eval e X.env) :: starEach es X.env := by rfl) (hpl : (backTo pos (starEach es X.env)).any (·.1) = false := by rfl) : PDe X C (.Call (.Name "min" p) (e :: es) [] pos) (M.call minD g) :=
  pd_callB (call_min2 hc) min_ok hg hm (by decide +kernel) ha (by decide) (by decide) he hpl
def intD : List D → Option D
  | [.int i] => some (.int i)
  | [.bool k] => some (.int (if k then 1 else 0))
  | _ => none
theorem int_ok {K : PySem.W.Frag} : CallD K (fun xs H Q => (∃ i, xs = [.int i] ∧ Q (.int i) H) ∨ ∃ k, xs = [.bl k] ∧ Q (.int (if k then 1 else 0)) H) intD := fun C Hf H σ ρ vs xs z Q s d e q => by
  unfold intD at e
  split at e
  · cases e
    obtain ⟨v, rfl, h⟩ := dp1 d
    exact .inl ⟨_, by rw [h.int_of], q.now s (.int _)⟩
  · cases e
    obtain ⟨v, rfl, h⟩ := dp1 d
    exact .inr ⟨_, by rw [h.bool_of], q.now s (.int _)⟩
  · cases e
theorem pd_int1 (hm : X.mg "int" = none) (ha : PDa X C (e :: es) g) (hg : Gl X "int" := by rfl) (he : starEach (e :: es) X.env = (false, eval e X.env) :: starEach es X.env := by rfl) (hpl : (backTo pos (starEach es X.env)).any (·.1) = false := by rfl) : PDe X C (.Call (.Name "int" p) (e :: es) [] pos) (M.call intD g) :=
  pd_callTy call_int1 int_ok hg hm (by decide +kernel) ha (by decide) (by decide) he hpl
def boolsOf : List D → Option (List Bool)
  | [] => some []
  | .bool b :: xs => (boolsOf xs).map (b :: ·)
  | _ => none
theorem bools_v {K : PySem.W.Frag} {H : Hp} : ∀ {vs : List V} {xs : List D} {bs : List Bool}, DpAll K H vs xs → boolsOf xs = some bs → vs = bs.map V.bl
  | _, _, bs, .nil, e => by cases e; rfl
  | _, _, bs, .cons (d := d) (ds := ds) h t, e => by
    cases d <;> first | cases e | skip
    rename_i b
    have e : (boolsOf ds).map (b :: ·) = some bs := e
    cases q : boolsOf ds with
    | none => rw [q] at e; cases e
    | some cs =>
      rw [q] at e
      cases e
      rw [h.bool_of, bools_v t q]
      rfl
def rAllT (K : PySem.W.Frag) : List V → Hp → VK → Prop := fun vs H Q => ∃ (a : Addr) (bs : List Bool), vs = [V.ref a] ∧ SqT K H a (bs.map V.bl) ∧ Q (.bl (bs.all id)) H
theorem cr_allT (hc : X.calm = true) : CallR X (.builtin "all") (rAllT X.K) := by
  intro pins s σ H vs us Q I r h
  obtain ⟨a, bs, rfl, hs, q⟩ := h
  obtain ⟨its, rv, ht, _⟩ := I.tuple hs
  rw [Vals.ref1 r]
  have hb := rv.bls
  have hne : a ≠ s.heap.objs.size := by
    obtain ⟨o, e, _⟩ := ht
    exact Nat.ne_of_lt (Heap.lt_size e)
  refine call_all_walk (wpAny_pyIter_tuple (show s.heap.IsTuple a its.toArray from ht) ?_)
  refine ⟨_, _, _, _, _, _, _, rfl, Walks.tuple (A := X.A.in1) (I.ok.hd hc) _ a hne its.toArray, ⟨⟨_, Heap.get?_push_size _ rfl, rfl, rfl⟩, (show s.heap.IsTuple a its.toArray from ht).push _⟩, truth_bools hb, fun h' tk hk => ?_⟩
  refine ⟨.bl _, H, I.kept fun b o eo => hk b o (fun hmem => ?_) (Heap.get?_push_of_some _ eo), ?_, q⟩
  · rcases List.mem_cons.mp hmem with e1 | hmem
    · exact absurd (e1 ▸ Heap.lt_size eo) (Nat.lt_irrefl _)
    · cases hmem
  · show Value.bool _ = Value.bool _
    rw [← all_range, hb, List.size_toArray, List.length_map]
def allD : List D → Option D
  | [.list xs] => (boolsOf xs).map fun bs => .bool (bs.all id)
  | [.tuple xs] => (boolsOf xs).map fun bs => .bool (bs.all id)
  | _ => none
theorem all_ok : CallD X.K (fun vs H Q => rAll X.K vs H Q ∨ rAllT X.K vs H Q) allD := fun C Hf H σ ρ vs xs z Q s d e q => by
  unfold allD at e
  split at e
  · rename_i xs
    cases h : boolsOf xs with
    | none => rw [h] at e; cases e
    | some bs =>
      rw [h] at e
      cases e
      obtain ⟨v, rfl, hv⟩ := dp1 d
      obtain ⟨p, us, rfl, h1, h2⟩ := hv.list_of
      exact .inl ⟨p, bs, rfl, by rw [← bools_v h2 h]; exact Evl.ex_l s.e1 h1, q.now s (.bl _)⟩
  · rename_i xs
    cases h : boolsOf xs with
    | none => rw [h] at e; cases e
    | some bs =>
      rw [h] at e
      cases e
      obtain ⟨v, rfl, hv⟩ := dp1 d
      obtain ⟨p, us, rfl, h1, h2⟩ := hv.tup_of
      exact .inr ⟨p, bs, rfl, by rw [← bools_v h2 h]; exact Evl.ex_t s.e1 h1, q.now s (.bl _)⟩
  · cases e
theorem pd_all (hc : X.calm = true) (hm : X.mg "all" = none) (ha : PDa X C (e :: es) g) (hg : Gl X "all" := by rfl) (he : starEach (e :: es) X.env = (false, eval e X.env) :: starEach es X.env := by rfl) (hpl : (backTo pos (starEach es X.env)).any (·.1) = false := by rfl) : PDe X C (.Call (.Name "all" p) (e :: es) [] pos) (M.call allD g) :=
  pd_callB ((cr_all hc).or (cr_allT hc)) all_ok hg hm (by decide +kernel) ha (by decide) (by decide) he hpl
def anyD : List D → Option D
  | [.list xs] => (boolsOf xs).map fun bs => .bool (bs.any id)
  | _ => none
theorem any_ok : CallD X.K (rAny X.K) anyD := fun C Hf H σ ρ vs xs z Q s d e q => by
  unfold anyD at e
  split at e
  · rename_i xs
    cases h : boolsOf xs with
    | none => rw [h] at e; cases e
    | some bs =>
      rw [h] at e
      cases e
      obtain ⟨v, rfl, hv⟩ := dp1 d
      obtain ⟨p, us, rfl, h1, h2⟩ := hv.list_of
      exact ⟨p, bs, rfl, by rw [← bools_v h2 h]; exact Evl.ex_l s.e1 h1, q.now s (.bl _)⟩
  · cases e
theorem pd_any (hc : X.calm = true) (hm : X.mg "any" = none) (ha : PDa X C (e :: es) g) (hg : Gl X "any" := by rfl) (he : starEach (e :: es) X.env = (false, eval e X.env) :: starEach es X.env := by rfl) (hpl : (backTo pos (starEach es X.env)).any (·.1) = false := by rfl) : PDe X C (.Call (.Name "any" p) (e :: es) [] pos) (M.call anyD g) :=
  pd_callB (cr_any hc) any_ok hg hm (by decide +kernel) ha (by decide) (by decide) he hpl
def intsOf : List D → Option (List Int)
  | [] => some []
  | .int b :: xs => (intsOf xs).map (b :: ·)
  | _ => none
theorem ints_v {K : PySem.W.Frag} {H : Hp} : ∀ {vs : List V} {xs : List D} {bs : List Int}, DpAll K H vs xs → intsOf xs = some bs → vs = bs.map V.int
  | _, _, bs, .nil, e => by cases e; rfl
  | _, _, bs, .cons (d := d) (ds := ds) h t, e => by
    cases d <;> first | cases e | skip
    rename_i b
    have e : (intsOf ds).map (b :: ·) = some bs := e
    cases q : intsOf ds with
    | none => rw [q] at e; cases e
    | some cs =>
      rw [q] at e
      cases e
      rw [h.int_of, ints_v t q]
      rfl
def sumD : List D → Option D
  | [.list xs] => (intsOf xs).map fun bs => .int bs.sum
  | _ => none
theorem sum_ok : CallD X.K (rSum X.K) sumD := fun C Hf H σ ρ vs xs z Q s d e q => by
  unfold sumD at e
  split at e
  · rename_i xs
    cases h : intsOf xs with
    | none => rw [h] at e; cases e
    | some bs =>
      rw [h] at e
      cases e
      obtain ⟨v, rfl, hv⟩ := dp1 d
      obtain ⟨p, us, rfl, h1, h2⟩ := hv.list_of
      exact ⟨p, bs, rfl, by rw [← ints_v h2 h]; exact Evl.ex_l s.e1 h1, q.now s (.int _)⟩
  · cases e
theorem pd_sum (hc : X.calm = true) (hm : X.mg "sum" = none) (ha : PDa X C (e :: es) g) (hg : Gl X "sum" := by rfl) (he : starEach (e :: es) X.env = (false, eval e X.env) :: starEach es X.env := by rfl) (hpl : (backTo pos (starEach es X.env)).any (·.1) = false := by rfl) : PDe X C (.Call (.Name "sum" p) (e :: es) [] pos) (M.call sumD g) :=
  pd_callB (cr_sum hc) sum_ok hg hm (by decide +kernel) ha (by decide) (by decide) he hpl
def tupleD : List D → Option D
  | [.list xs] => some (.tuple xs)
  | [.tuple xs] => some (.tuple xs)
  | _ => none
theorem tuple_ok : CallD X.K (fun xs H Q => ∃ p ys, xs = [.ref p] ∧ ((SqL X.K H p ys ∧ ∀ l, H l = none → Q (.ref l) (upd H l (.tup ys))) ∨ (SqT X.K H p ys ∧ Q (.ref p) H))) tupleD := fun C Hf H σ ρ vs xs z Q s d e q => by
  unfold tupleD at e
  split at e
  · cases e
    obtain ⟨v, rfl, h⟩ := dp1 d
    obtain ⟨p, us, rfl, h1, h2⟩ := h.list_of
    refine ⟨p, us, rfl, .inl ⟨Evl.ex_l s.e1 h1, fun t ht => ?_⟩⟩
    have gr := Grow.new (o := .tup us) s.e1 ht
    exact q.nowG s gr (.tup (SqT.of upd_same) (DpAll.mono gr.f _ _ h2))
  · cases e
    obtain ⟨v, rfl, h⟩ := dp1 d
    obtain ⟨p, us, rfl, h1, h2⟩ := h.tup_of
    exact ⟨p, us, rfl, .inr ⟨Evl.ex_t s.e1 h1, q.now s (.tup h1 h2)⟩⟩
  · cases e
theorem pd_tuple1 (hm : X.mg "tuple" = none) (ha : PDa X C (e :: es) g) (hg : Gl X "tuple" := by rfl) (he : starEach (e :: es) X.env = (false, eval e X.env) :: starEach es X.env := by rfl) (hpl : (backTo pos (starEach es X.env)).any (·.1) = false := by rfl) : PDe X C (.Call (.Name "tuple" p) (e :: es) [] pos) (M.call tupleD g) :=
  pd_callTy call_tuple_of tuple_ok hg hm (by decide +kernel) ha (by decide) (by decide) he hpl
/-- list(..) of a list or a tuple: a new list -/
def seqOf : List D → Option (List D)
  | [.list xs] => some xs
  | [.tuple xs] => some xs
  | _ => none
def M.listL (g : M (List Arg)) : M (List D) := M.bind g fun as => M.bind (M.lift (datOf as)) fun xs => M.lift (seqOf xs)
theorem pdl_list (hm : X.mg "list" = none) (ha : PDa X C (e :: es) g) (hg : Gl X "list" := by rfl) (he : starEach (e :: es) X.env = (false, eval e X.env) :: starEach es X.env := by rfl) (hpl : (backTo pos (starEach es X.env)).any (·.1) = false := by rfl) : PDl X C (.Call (.Name "list" p) (e :: es) [] pos) (M.listL g) :=
  pe_imp (pe_callTy call_list_of hg hm (by decide +kernel) ha (by decide) (by decide) he hpl) fun σ H Q ⟨Hf, ρ, s, h⟩ =>
    tG_bind s h fun vs as H1 Hf1 ρ1 e1 s1 d1 h1 => by
      cases q : datOf as with
      | none =>
        unfold M.bind M.lift at h1
        rw [q] at h1
        exact (show False from h1).elim
      | some xs =>
        have da := ArgsRel.dats d1 q
        have h1 : PostG X.K C σ (relL X.K C σ) Hf1 (M.lift (seqOf xs) ρ1) Q := by
          unfold M.bind M.lift at h1
          rw [q] at h1
          exact h1
        obtain ⟨z, hz, h2⟩ := h1.lift
        unfold seqOf at hz
        split at hz
        · cases hz
          obtain ⟨v, rfl, h⟩ := dp1 da
          obtain ⟨p, us, rfl, g1, g2⟩ := h.list_of
          refine ⟨p, us, rfl, .inl (Evl.ex_l s1.e1 g1), fun t ht => ?_⟩
          exact PostG.nowG (b := V.ref t) h2 s1 (Grow.mine (o := .lst us) s1.e1 ht) (s1.newL ht g2)
        · cases hz
          obtain ⟨v, rfl, h⟩ := dp1 da
          obtain ⟨p, us, rfl, g1, g2⟩ := h.tup_of
          refine ⟨p, us, rfl, .inr (Evl.ex_t s1.e1 g1), fun t ht => ?_⟩
          exact PostG.nowG (b := V.ref t) h2 s1 (Grow.mine (o := .lst us) s1.e1 ht) (s1.newL ht g2)
        · cases hz

/-! ### isinstance -/
def tyName : D → String
  | .none => "NoneType" | .bool _ => "bool" | .int _ => "int" | .str _ => "str" | .list _ => "list" | .tuple _ => "tuple" | .dict _ => "dict"
theorem ty_of {K : PySem.W.Frag} {H : Hp} {v : V} {x : D} (d : Dp K H v x) : TyX K H v (.type (tyName x)) := by
  cases d with
  | non => exact .base .non
  | bl b => exact .base (.bl b)
  | int i => exact .base (.int i)
  | str x => exact .base (.str x)
  | lst h _ =>
    rcases h with (h | ⟨o, h⟩) | ⟨o, its, n, h1, h2, _⟩
    · exact .base (.lst h)
    · exact .base (.frz h)
    · exact .kList h1 h2
  | tup h _ =>
    rcases h with (h | ⟨o, h⟩) | ⟨o, its, n, h1, h2, _⟩
    · exact .base (.tup h)
    · exact .fTuple h
    · exact .kTuple h1 h2
def isD (T : D → Bool) (x : D) : Option D := some (.bool (T x))
def tInt : D → Bool | .int _ => true | .bool _ => true | _ => false
def tBool : D → Bool | .bool _ => true | _ => false
def tStr : D → Bool | .str _ => true | _ => false
def tTuple : D → Bool | .tuple _ => true | _ => false
def tList : D → Bool | .list _ => true | _ => false
def tSeq : D → Bool | .list _ => true | .tuple _ => true | _ => false
theorem seq_n {x : D} (hl : tList x = false) (ht : tTuple x = false) : tSeq x = false := by cases x <;> simp_all [tList, tTuple, tSeq]
theorem seq_t {x : D} (ht : tTuple x = true) : tSeq x = true := by cases x <;> simp_all [tTuple, tSeq]
theorem seq_l {x : D} (ht : tList x = true) : tSeq x = true := by cases x <;> simp_all [tList, tSeq]
theorem k_int (x : D) (h : ∀ kvs, x ≠ .dict kvs) : kitB (tyName x) "int" = some (tInt x) := by cases x <;> first | (exact absurd rfl (h _)) | (simp only [tyName, tInt]; decide +kernel)
theorem k_bool (x : D) (h : ∀ kvs, x ≠ .dict kvs) : kitB (tyName x) "bool" = some (tBool x) := by cases x <;> first | (exact absurd rfl (h _)) | (simp only [tyName, tBool]; decide +kernel)
theorem k_str (x : D) (h : ∀ kvs, x ≠ .dict kvs) : kitB (tyName x) "str" = some (tStr x) := by cases x <;> first | (exact absurd rfl (h _)) | (simp only [tyName, tStr]; decide +kernel)
theorem k_tuple (x : D) (h : ∀ kvs, x ≠ .dict kvs) : kitB (tyName x) "tuple" = some (tTuple x) := by cases x <;> first | (exact absurd rfl (h _)) | (simp only [tyName, tTuple]; decide +kernel)
theorem k_list (x : D) (h : ∀ kvs, x ≠ .dict kvs) : kitB (tyName x) "list" = some (tList x) := by cases x <;> first | (exact absurd rfl (h _)) | (simp only [tyName, tList]; decide +kernel)
theorem dp_nodict {K : PySem.W.Frag} {H : Hp} {v : V} {x : D} (d : Dp K H v x) : ∀ kvs, x ≠ .dict kvs := fun kvs e => by subst e; cases d
theorem pd_isi {T : String} {xT : Str} {pT : Pos} {t : D → Bool} (hk : ∀ x : D, (∀ kvs, x ≠ .dict kvs) → kitB (tyName x) T = some (t x)) (hm : X.mg "isinstance" = none) (hmT : X.mg xT = none) (hvT : bootBuiltins xT = some (.type T)) (ha : PDe X C a f) (hg : Gl X "isinstance" := by rfl) (hgT : Gl X xT := by rfl)
    (hnT : xT ≠ "__name__" := by decide) (hdT : (xT == ("__debug__" : Str)) = false := by decide) (hs1 : starEach (a :: [.Name xT pT]) X.env = (false, eval a X.env) :: starEach [.Name xT pT] X.env := by rfl)
    (hs2 : starEach [.Name xT pT] X.env = (false, eval (.Name xT pT) X.env) :: starEach [] X.env := by rfl) (hpl : (backTo pos (starEach [.Name xT pT] X.env)).any (·.1) = false := by rfl) : PDe X C (.Call (.Name "isinstance" p) [a, .Name xT pT] [] pos) (M.op1 (isD t) f) :=
  pe_imp (pe_callB call_isi hg hm (by decide +kernel) (pa_cons ha (pa_cons (pe_bltn hgT hmT hvT (show RelV (.ty T) _ from rfl) hnT hdT) pa_nil hs2) hs1) (by decide) (by decide) hs1 hpl) fun σ H Q ⟨Hf, ρ, s, h⟩ =>
    tG_bind s h fun v x H1 Hf1 ρ1 e1 s1 d1 h1 => by
      obtain ⟨z, hz, h2⟩ := h1.lift
      cases hz
      have d1 : Dp X.K Hf1 v x := d1
      exact ⟨v, .ty T, _, _, t x, rfl, .ty T, ty_of (Dp.mono s1.e1 _ _ d1), kit_ty (hk x (dp_nodict d1)), PostG.now (b := V.bl _) h2 s1 (.bl _)⟩
theorem pd_isiLT {pT p1 p2 : Pos} {k : Nat} (hm : X.mg "isinstance" = none) (hml : X.mg "list" = none) (hmt : X.mg "tuple" = none) (ha : PDe X C a f) (hg : Gl X "isinstance" := by rfl) (hgl : Gl X "list" := by rfl) (hgt : Gl X "tuple" := by rfl)
    (hs1 : starEach (a :: [.Tuple [.Name "list" p1, .Name "tuple" p2] k pT]) X.env = (false, eval a X.env) :: starEach [.Tuple [.Name "list" p1, .Name "tuple" p2] k pT] X.env := by rfl)
    (hs2 : starEach [.Tuple [.Name "list" p1, .Name "tuple" p2] k pT] X.env = (false, eval (.Tuple [.Name "list" p1, .Name "tuple" p2] k pT) X.env) :: starEach [] X.env := by rfl)
    (hs3 : starEach [.Name "list" p1, .Name "tuple" p2] X.env = (false, eval (.Name "list" p1) X.env) :: starEach [.Name "tuple" p2] X.env := by rfl) (hs4 : starEach [.Name "tuple" p2] X.env = (false, eval (.Name "tuple" p2) X.env) :: starEach [] X.env := by rfl)
    (hpl : (backTo pos (starEach [.Tuple [.Name "list" p1, .Name "tuple" p2] k pT] X.env)).any (·.1) = false := by rfl) : PDe X C (.Call (.Name "isinstance" p) [a, .Tuple [.Name "list" p1, .Name "tuple" p2] k pT] [] pos) (M.op1 (isD tSeq) f) :=
  pe_imp (pe_callB call_isiT hg hm (by decide +kernel) (pa_cons ha (pa_cons (pe_tup (pa_cons (pe_bltn hgl hml (by decide +kernel) (show RelV (.ty "list") _ from rfl)) (pa_cons (pe_bltn hgt hmt (by decide +kernel) (show RelV (.ty "tuple") _ from rfl)) pa_nil hs4) hs3)) pa_nil hs2) hs1) (by decide) (by decide) hs1 hpl) fun σ H Q ⟨Hf, ρ, s, h⟩ =>
    tG_bind s h fun v x H1 Hf1 ρ1 e1 s1 d1 h1 => by
      obtain ⟨z, hz, h2⟩ := h1.lift
      cases hz
      have d1 : Dp X.K Hf1 v x := d1
      refine ⟨by show 2 ≤ sizeLine; decide, fun t ht => ?_⟩
      have nd := dp_nodict d1
      have gr := Grow.mine (o := .tup [.ty "list", .ty "tuple"]) s1.e1 ht
      refine ⟨v, t, [.ty "list", .ty "tuple"], _, [.type "list", .type "tuple"], tSeq x, rfl, upd_same, .cons (.ty _) (.cons (.ty _) .nil), ty_of (Dp.mono (s1.e1.trans gr.h) _ _ d1), ?_, ?_⟩
      · refine kitAny_cons (kit_ty (k_list x nd)) (fun hl => kitAny_cons (kit_ty (k_tuple x nd)) (fun ht => ?_) fun ht => ?_) fun hl => ?_
        · rw [kitAny_nil]
          rw [seq_n hl ht]
        · exact seq_t ht
        · exact seq_l hl
      · exact PostG.nowG (b := V.bl _) h2 s1 gr (.bl _)
end
end PD

set_option maxRecDepth 100000
set_option maxHeartbeats 4000000
set_option autoImplicit false
namespace PD
open PySem PySem.Spec L2
open Evl (Ex)

/-! ### statements -/
inductive Fl where
  | nx (ρ : DE)
  | rt (x : D) (ρ : DE)
  | rl (xs : List D) (ρ : DE)
  | bk (ρ : DE)
  | ct (ρ : DE)
  | ex (e : EV) (ρ : DE)
  | bad
abbrev MS : Type := DE → Fl
section
variable (K : PySem.W.Frag) (C : Fc)
def PostS (Hf : Hp) (fl : Fl) (E : Ends) : Prop :=
  match fl with
  | .nx ρ' => ∀ (σ' : L2.St) (H' Hf' : Hp), Ex Hf Hf' → SR K C Hf' H' σ' ρ' → E.nx σ' H'
  | .bk ρ' => ∀ (σ' : L2.St) (H' Hf' : Hp), Ex Hf Hf' → SR K C Hf' H' σ' ρ' → E.bk σ' H'
  | .ct ρ' => ∀ (σ' : L2.St) (H' Hf' : Hp), Ex Hf Hf' → SR K C Hf' H' σ' ρ' → E.ct σ' H'
  | .rt x ρ' => ∀ (v : V) (σ' : L2.St) (H' Hf' : Hp), Ex Hf Hf' → SR K C Hf' H' σ' ρ' → Dp K Hf' v x → E.rt v H'
  | .rl xs ρ' => ∀ (a : Addr) (us : List V) (σ' : L2.St) (H' Hf' : Hp), Ex Hf Hf' → SR K C Hf' H' σ' ρ' → Hf' a = none → H' a = some (.lst us) → DpAll K Hf' us xs → C.H0 a = none → E.rt (.ref a) H'
  | .ex e ρ' => ∀ (σ' : L2.St) (H' Hf' : Hp), Ex Hf Hf' → SR K C Hf' H' σ' ρ' → C.E e H'
  | .bad => False
def tS (g : MS) : TS := fun E σ H => ∃ Hf ρ, SR K C Hf H σ ρ ∧ PostS K C Hf (g ρ) E
end
def PDs (X : Cx) (C : Fc) (st : Stmt) (g : MS) : Prop := PS X st (tS X.K C g)
def PDss (X : Cx) (C : Fc) (st : List Stmt) (g : MS) : Prop := PSs X st (tS X.K C g)
def S.ofM {α : Type} (m : M α) (k : α → MS) : MS := fun ρ => match m ρ with
  | .ok a ρ1 => k a ρ1
  | .ex e ρ1 => .ex e ρ1
  | .bad => .bad
section
variable {K : PySem.W.Frag} {C : Fc} {α β : Type} {σ : L2.St} {Hf Hf' H : Hp} {E E' : Ends}
theorem PostS.mono {fl : Fl} (e : Ex Hf Hf') (h : PostS K C Hf fl E) : PostS K C Hf' fl E := by
  cases fl with
  | nx ρ' => exact fun σ' H' Hf'' e' s => h σ' H' Hf'' (e.trans e') s
  | bk ρ' => exact fun σ' H' Hf'' e' s => h σ' H' Hf'' (e.trans e') s
  | ct ρ' => exact fun σ' H' Hf'' e' s => h σ' H' Hf'' (e.trans e') s
  | rt x ρ' => exact fun v σ' H' Hf'' e' s => h v σ' H' Hf'' (e.trans e') s
  | rl x ρ' => exact fun a us σ' H' Hf'' e' s => h a us σ' H' Hf'' (e.trans e') s
  | ex x ρ' => exact fun σ' H' Hf'' e' s => h σ' H' Hf'' (e.trans e') s
  | bad => exact h
theorem tS_bind {rel : L2.St → Hp → Hp → DE → β → α → Prop} {f : M α} {k : α → MS} {ρ : DE} {Q1 : β → Hp → Prop} (s : SR K C Hf H σ ρ) (h : PostS K C Hf (S.ofM f k ρ) E)
    (w : ∀ (b : β) (x : α) (H1 Hf1 : Hp) (ρ1 : DE), Ex Hf Hf1 → SR K C Hf1 H1 σ ρ1 → rel σ Hf1 H1 ρ1 b x → PostS K C Hf1 (k x ρ1) E → Q1 b H1) : tG K C rel f σ H Q1 := by
  refine ⟨Hf, ρ, s, ?_⟩
  unfold S.ofM at h
  cases hf : f ρ with
  | ok x ρ1 =>
    rw [hf] at h
    exact fun b H1 Hf1 e s1 r => w b x H1 Hf1 ρ1 e s1 r (PostS.mono e h)
  | ex x ρ1 =>
    rw [hf] at h
    exact fun H' Hf'' e' s' => h σ H' Hf'' e' s'
  | bad =>
    rw [hf] at h
    exact h.elim
theorem PostS.nx {ρ : DE} (h : PostS K C Hf (.nx ρ) E) {σ' : L2.St} (s : SR K C Hf H σ' ρ) : E.nx σ' H := h σ' H Hf (Ex.refl _) s
end
section
variable {X : Cx} {C : Fc} {pos : Pos} {st : Stmt} {rest : List Stmt} {g h : MS}
def S.nil : MS := fun ρ => .nx ρ
def S.seq (g h : MS) : MS := fun ρ => match g ρ with
  | .nx ρ1 => h ρ1
  | o => o
theorem pds_nil : PDss X C [] S.nil := pss_imp pss_nil fun E σ H ⟨Hf, ρ, s, q⟩ => PostS.nx q s
theorem pds_cons (h1 : PDs X C st g) (h2 : PDss X C rest h) : PDss X C (st :: rest) (S.seq g h) := pss_imp (pss_cons h1 h2) fun E σ H ⟨Hf, ρ, s, q⟩ => by
  refine ⟨Hf, ρ, s, ?_⟩
  unfold S.seq at q
  cases hg : g ρ with
  | nx ρ1 =>
    rw [hg] at q
    exact fun σ' H' Hf' e' s' => ⟨Hf', ρ1, s', PostS.mono e' q⟩
  | rt x ρ1 => rw [hg] at q; exact q
  | rl x ρ1 => rw [hg] at q; exact q
  | bk ρ1 => rw [hg] at q; exact q
  | ct ρ1 => rw [hg] at q; exact q
  | ex e ρ1 => rw [hg] at q; exact q
  | bad => rw [hg] at q; exact q
theorem pds_one (h1 : PDs X C st g) : PDss X C [st] g := pss_one h1
def S.pass : MS := fun ρ => .nx ρ
def S.brk : MS := fun ρ => .bk ρ
def S.cnt : MS := fun ρ => .ct ρ
def S.never : MS := fun _ => .bad
theorem pd_pass : PDs X C (.Pass pos) S.pass := ps_imp ps_pass fun E σ H ⟨Hf, ρ, s, q⟩ => PostS.nx q s
theorem pd_break : PDs X C (.Break pos) S.brk := ps_imp ps_break fun E σ H ⟨Hf, ρ, s, q⟩ => q σ H Hf (Ex.refl _) s
theorem pd_continue : PDs X C (.Continue pos) S.cnt := ps_imp ps_continue fun E σ H ⟨Hf, ρ, s, q⟩ => q σ H Hf (Ex.refl _) s
theorem pd_doc {x : Str} {j pos' pos} : PDs X C (.Expr (.Constant (.str x) j pos') pos) S.pass := ps_imp ps_doc fun E σ H ⟨Hf, ρ, s, q⟩ => PostS.nx q s
theorem pd_never : PDs X C st S.never := ps_imp ps_never fun E σ H ⟨Hf, ρ, s, q⟩ => q
variable {e : Expr} {f : M D} {fl : M (List D)}
def S.ret (f : M D) : MS := S.ofM f fun x ρ => .rt x ρ
theorem pd_ret (ha : PDe X C e f) : PDs X C (.Return (some e) pos) (S.ret f) := ps_imp (ps_ret ha) fun E σ H ⟨Hf, ρ, s, q⟩ => tS_bind s q fun v x H1 Hf1 ρ1 e1 s1 d1 h1 => h1 v σ H1 Hf1 (Ex.refl _) s1 d1
/-- a new list of ours is handed back -/
def S.retL (f : M (List D)) : MS := S.ofM f fun x ρ => .rl x ρ
theorem pd_retL (ha : PDl X C e fl) : PDs X C (.Return (some e) pos) (S.retL fl) := ps_imp (ps_ret ha) fun E σ H ⟨Hf, ρ, s, q⟩ => tS_bind s q fun v x H1 Hf1 ρ1 e1 s1 d1 h1 => by
  obtain ⟨a, vs, rfl, g1, g2, g3, g4, g5, g6⟩ := d1
  exact h1 a vs σ H1 Hf1 (Ex.refl _) s1 g1 g2 g3 g4
def S.retN : MS := fun ρ => .rt .none ρ
theorem pd_retN : PDs X C (.Return none pos) S.retN := ps_imp ps_retN fun E σ H ⟨Hf, ρ, s, q⟩ => q .non σ H Hf (Ex.refl _) s .non
def S.drop (f : M D) : MS := S.ofM f fun _ ρ => .nx ρ
theorem pd_expr (ha : PDe X C e f) (hs : swapsWith e none pos.line X.env = pure false := by rfl) : PDs X C (.Expr e pos) (S.drop f) := ps_imp (ps_expr ha hs) fun E σ H ⟨Hf, ρ, s, q⟩ => tS_bind s q fun v x H1 Hf1 ρ1 e1 s1 d1 h1 => h1.nx s1
def S.ite (p : M Bool) (g h : MS) : MS := S.ofM p fun b => if b = true then g else h
theorem pd_ifS {c : Expr} {a b : List Stmt} {p : M Bool} (hc : PDt X C c p) (ha : PDss X C a g) (hb : PDss X C b h) : PDs X C (.If c a b pos) (S.ite p g h) := ps_imp (ps_if hc ha hb) fun E σ H ⟨Hf, ρ, s, q⟩ =>
  tS_bind s q fun v x H1 Hf1 ρ1 e1 s1 d1 h1 => by
    have d1 : v = x := d1
    subst d1
    cases v with
    | true => exact L2.iteT ⟨Hf1, ρ1, s1, h1⟩
    | false => exact L2.iteF ⟨Hf1, ρ1, s1, h1⟩
/-! names stored -/
def S.asg (i : Nat) (f : M D) : MS := S.ofM f fun x ρ => .nx (ρ.set i (some (.d x)))
theorem pd_set {i : Nat} {x : Str} {pos' : Pos} (hp : ∀ q, C.io = some q → q.1 ≠ i) (hN : X.N.Nodup) (ha : PDe X C e f) (hi : X.N[i]? = some x := by rfl) (hx : Loc X.env.scope x := by first | exact Or.inl rfl | exact Or.inr rfl) (hs : swapsWith e (some (.Name x pos')) pos.line X.env = pure false := by rfl)
    (hf : X.fn x = true ∨ X.env.scope.names.lookup x = some .local := by first | exact .inl rfl | exact .inr rfl) : PDs X C (.Assign [.Name x pos'] e pos) (S.asg i f) :=
  ps_imp (ps_set hN hi hx ha hs hf) fun E σ H ⟨Hf, ρ, s, q⟩ => tS_bind s q fun v y H1 Hf1 ρ1 e1 s1 d1 h1 => PostS.nx h1 (s1.setD d1 hp)
def S.own (i : Nat) (f : M (List D)) : MS := S.ofM f fun x ρ => .nx (ρ.set i (some (.own x)))
theorem own_go {i : Nat} (hp : ∀ q, C.io = some q → q.1 ≠ i) {E : Ends} {σ : L2.St} {H : Hp} (q : tS X.K C (S.own i fl) E σ H) : tAsg (tG X.K C (relL X.K C) fl) (gName i) E σ H := by
  obtain ⟨Hf, ρ, s, q⟩ := q
  refine tS_bind s q fun v y H1 Hf1 ρ1 e1 s1 d1 h1 => ?_
  obtain ⟨a, vs, rfl, g1, g2, g3, g4, g5, g6⟩ := d1
  exact PostS.nx h1 (s1.setO g1 g2 g3 g4 g5 g6 hp)
theorem pd_own {i : Nat} {x : Str} {pos' : Pos} (hp : ∀ q, C.io = some q → q.1 ≠ i) (hN : X.N.Nodup) (ha : PDl X C e fl) (hi : X.N[i]? = some x := by rfl) (hx : Loc X.env.scope x := by first | exact Or.inl rfl | exact Or.inr rfl) (hs : swapsWith e (some (.Name x pos')) pos.line X.env = pure false := by rfl)
    (hf : X.fn x = true ∨ X.env.scope.names.lookup x = some .local := by first | exact .inl rfl | exact .inr rfl) : PDs X C (.Assign [.Name x pos'] e pos) (S.own i fl) :=
  ps_imp (ps_set hN hi hx ha hs hf) fun E σ H q => own_go hp q
def vals2D : List D → Option (D × D)
  | [x, y] => some (x, y)
  | _ => none
def vals3D : List D → Option (D × D × D)
  | [x, y, z] => some (x, y, z)
  | _ => none
def S.par2 (i j : Nat) (g : M (List Arg)) : MS := S.ofM g fun as => S.ofM (M.lift ((datOf as).bind vals2D)) fun p ρ => .nx ((ρ.set i (some (.d p.1))).set j (some (.d p.2)))
def S.par3 (i j l : Nat) (g : M (List Arg)) : MS := S.ofM g fun as => S.ofM (M.lift ((datOf as).bind vals3D)) fun p ρ => .nx (((ρ.set i (some (.d p.1))).set j (some (.d p.2.1))).set l (some (.d p.2.2)))
theorem lift_s {α : Type} {K : PySem.W.Frag} {Hf : Hp} {o : Option α} {k : α → MS} {ρ : DE} {E : Ends} (h : PostS K C Hf (S.ofM (M.lift o) k ρ) E) : ∃ x, o = some x ∧ PostS K C Hf (k x ρ) E := by
  unfold S.ofM M.lift at h
  cases o with
  | none => exact (show False from h).elim
  | some x => exact ⟨x, rfl, h⟩
variable {ga : M (List Arg)}
theorem pd_par2 {i j : Nat} {x y : Str} {a b : Expr} {px py pt : Pos} {kt k2 pt2} (hpi : ∀ q, C.io = some q → q.1 ≠ i) (hpj : ∀ q, C.io = some q → q.1 ≠ j) (hc : X.calm = true) (hN : X.N.Nodup) (ha : PDa X C [a, b] ga) (hi : X.N[i]? = some x := by rfl) (hj : X.N[j]? = some y := by rfl) (hij : i ≠ j := by decide)
    (hx : X.env.scope.names.lookup x = some .local := by rfl) (hy : X.env.scope.names.lookup y = some .local := by rfl)
    (hw : swappedStores [.Tuple [.Name x px, .Name y py] kt pt] (.Tuple [a, b] k2 pt2) X.env = pure (some [x, y]) := by rfl)
    (hs : swapsWithSole [.Tuple [.Name x px, .Name y py] kt pt] (.Tuple [a, b] k2 pt2) pos.line X.env = pure false := by rfl) :
    PDs X C (.Assign [.Tuple [.Name x px, .Name y py] kt pt] (.Tuple [a, b] k2 pt2) pos) (S.par2 i j ga) :=
  ps_imp (ps_par hc hN hi hj hij hx hy ha hw hs) fun E σ H ⟨Hf, ρ, s, q⟩ => tS_bind s q fun vs as H1 Hf1 ρ1 e1 s1 d1 h1 => by
    obtain ⟨p, hp, h2⟩ := lift_s h1
    cases hd : datOf as with
    | none => rw [hd] at hp; cases hp
    | some xs =>
      rw [hd] at hp
      have hp : vals2D xs = some p := hp
      unfold vals2D at hp
      split at hp
      · cases hp
        obtain ⟨v, w, rfl, g1, g2⟩ := dp2 (ArgsRel.dats d1 hd)
        exact ⟨v, w, rfl, PostS.nx h2 ((s1.setD g1 hpi).setD g2 hpj)⟩
      · cases hp
theorem dp3 {K : PySem.W.Frag} {H : Hp} {vs : List V} {x y z : D} (h : DpAll K H vs [x, y, z]) : ∃ v w u, vs = [v, w, u] ∧ Dp K H v x ∧ Dp K H w y ∧ Dp K H u z := by
  cases h with
  | cons h t =>
    obtain ⟨w, u, rfl, h2, h3⟩ := dp2 t
    exact ⟨_, _, _, rfl, h, h2, h3⟩
theorem pd_par3 {i j l : Nat} {x y z : Str} {a b c : Expr} {px py pz pt : Pos} {kt k2 pt2} (hpi : ∀ q, C.io = some q → q.1 ≠ i) (hpj : ∀ q, C.io = some q → q.1 ≠ j) (hpl : ∀ q, C.io = some q → q.1 ≠ l) (hc : X.calm = true) (hN : X.N.Nodup) (ha : PDa X C [a, b, c] ga)
    (hi : X.N[i]? = some x := by rfl) (hj : X.N[j]? = some y := by rfl) (hl : X.N[l]? = some z := by rfl) (hij : i ≠ j := by decide) (hil : i ≠ l := by decide) (hjl : j ≠ l := by decide)
    (hx : X.env.scope.names.lookup x = some .local := by rfl) (hy : X.env.scope.names.lookup y = some .local := by rfl) (hz : X.env.scope.names.lookup z = some .local := by rfl)
    (hw : swappedStores [.Tuple [.Name x px, .Name y py, .Name z pz] kt pt] (.Tuple [a, b, c] k2 pt2) X.env = pure (some [x, y, z]) := by rfl)
    (hs : swapsWithSole [.Tuple [.Name x px, .Name y py, .Name z pz] kt pt] (.Tuple [a, b, c] k2 pt2) pos.line X.env = pure false := by rfl) :
    PDs X C (.Assign [.Tuple [.Name x px, .Name y py, .Name z pz] kt pt] (.Tuple [a, b, c] k2 pt2) pos) (S.par3 i j l ga) :=
  ps_imp (ps_par3 hc hN hi hj hl hij hil hjl hx hy hz ha hw hs) fun E σ H ⟨Hf, ρ, s, q⟩ => tS_bind s q fun vs as H1 Hf1 ρ1 e1 s1 d1 h1 => by
    obtain ⟨p, hp, h2⟩ := lift_s h1
    cases hd : datOf as with
    | none => rw [hd] at hp; cases hp
    | some xs =>
      rw [hd] at hp
      have hp : vals3D xs = some p := hp
      unfold vals3D at hp
      split at hp
      · cases hp
        obtain ⟨v, w, u, rfl, g1, g2, g3⟩ := dp3 (ArgsRel.dats d1 hd)
        exact ⟨v, w, u, rfl, PostS.nx h2 (((s1.setD g1 hpi).setD g2 hpj).setD g3 hpl)⟩
      · cases hp

/-! ### targets -/
end
abbrev Gt : Type := D → DE → Option DE
abbrev Gts : Type := List D → DE → Option DE
def G.nm (i : Nat) : Gt := fun x ρ => some (ρ.set i (some (.d x)))
def G.nil : Gts := fun xs ρ => match xs with
  | [] => some ρ
  | _ => none
def G.cons (g : Gt) (gs : Gts) : Gts := fun xs ρ => match xs with
  | x :: r => (g x ρ).bind (gs r)
  | _ => none
def G.tup (n : Nat) (gs : Gts) : Gt := fun x ρ => match x with
  | .tuple xs => if xs.length = n then gs xs ρ else none
  | _ => none
section
variable (K : PySem.W.Frag) (C : Fc)
def gD (G : Gt) (sl : List Nat) : TG := fun v σ H Q => ∃ Hf ρ x ρ', SR K C Hf H σ ρ ∧ Dp K Hf v x ∧ G x ρ = some ρ' ∧ ∀ σ', SR K C Hf H σ' ρ' → σ'.length = σ.length → (∀ i : Nat, i ∉ sl → σ'[i]? = σ[i]?) → Q σ' H
def gsD (G : Gts) (sl : List Nat) : TGs := fun vs σ H Q => ∃ Hf ρ xs ρ', SR K C Hf H σ ρ ∧ DpAll K Hf vs xs ∧ G xs ρ = some ρ' ∧ ∀ σ', SR K C Hf H σ' ρ' → σ'.length = σ.length → (∀ i : Nat, i ∉ sl → σ'[i]? = σ[i]?) → Q σ' H
end
def PDg (X : Cx) (C : Fc) (tg : Expr) (G : Gt) (sl : List Nat) : Prop := PG X tg (gD X.K C G sl)
def PDgs (X : Cx) (C : Fc) (tg : List Expr) (G : Gts) (sl : List Nat) : Prop := PGs X tg (gsD X.K C G sl)
section
variable {X : Cx} {C : Fc} {pos : Pos}
theorem pg_imp {e : Expr} {t t' : TG} (h : PG X e t) (w : ∀ v σ H Q, t' v σ H Q → t v σ H Q) : PG X e t' := ⟨fun pins s σ H v u Q I r q => h.run pins s σ H v u Q I r (w v σ H Q q)⟩
theorem pgs_imp {e : List Expr} {t t' : TGs} (h : PGs X e t) (w : ∀ v σ H Q, t' v σ H Q → t v σ H Q) : PGs X e t' := ⟨fun pins s σ H v u Q I r q => h.run pins s σ H v u Q I r (w v σ H Q q)⟩
theorem pdg_nm {i : Nat} {x : Str} (hp : ∀ q, C.io = some q → q.1 ≠ i) (hN : X.N.Nodup) (hi : X.N[i]? = some x := by rfl) (hx : Loc X.env.scope x := by first | exact Or.inl rfl | exact Or.inr rfl) (hf : X.fn x = true ∨ X.env.scope.names.lookup x = some .local := by first | exact .inl rfl | exact .inr rfl) :
    PDg X C (.Name x pos) (G.nm i) [i] := pg_imp (pg_name hN hi hx hf) fun v σ H Q ⟨Hf, ρ, x, ρ', s, d, e, k⟩ => by
  cases e
  exact k _ (s.setD d hp) (List.length_set ..) fun j hj => List.getElem?_set_ne (fun h => hj (by simp [h]))
theorem pdgs_nil : PDgs X C [] G.nil [] := pgs_imp pgs_nil fun v σ H Q ⟨Hf, ρ, xs, ρ', s, d, e, k⟩ => by
  unfold G.nil at e
  cases xs with
  | nil =>
    cases e
    cases d
    exact ⟨rfl, k σ s rfl fun _ _ => rfl⟩
  | cons _ _ => cases e
theorem pdgs_cons {e : Expr} {es : List Expr} {g : Gt} {gs : Gts} {s1 s2 : List Nat} (h1 : PDg X C e g s1) (h2 : PDgs X C es gs s2) (hs : (assignEach (e :: es) X.env).map (·.2) = assign e X.env :: (assignEach es X.env).map (·.2) := by rfl) : PDgs X C (e :: es) (G.cons g gs) (s1 ++ s2) :=
  pgs_imp (pgs_cons h1 h2 hs) fun v σ H Q ⟨Hf, ρ, xs, ρ', s, d, ee, k⟩ => by
    unfold G.cons at ee
    cases xs with
    | nil => cases ee
    | cons x r =>
      cases d with
      | cons d1 d2 =>
        have ee : (g x ρ).bind (gs r) = some ρ' := ee
        cases hg : g x ρ with
        | none => rw [hg] at ee; cases ee
        | some ρ1 =>
          rw [hg] at ee
          refine ⟨_, _, rfl, Hf, ρ, x, ρ1, s, d1, hg, fun σ1 q1 l1 o1 => ⟨Hf, ρ1, r, ρ', q1, d2, ee, fun σ2 q2 l2 o2 => k σ2 q2 (l2.trans l1) fun i hi => ?_⟩⟩
          rw [List.mem_append, not_or] at hi
          rw [o2 i hi.2, o1 i hi.1]
theorem pdg_tup {es : List Expr} {k : Nat} {gs : Gts} {n : Nat} {sl : List Nat} (hc : X.calm = true) (h : PDgs X C es gs sl) (hn : (assignEach es X.env).length = n := by rfl) (hst : (assignEach es X.env).findIdx? (·.1) = none := by rfl) : PDg X C (.Tuple es k pos) (G.tup n gs) sl :=
  pg_imp (pg_tup hc h hn hst) fun v σ H Q ⟨Hf, ρ, x, ρ', s, d, ee, kk⟩ => by
    unfold G.tup at ee
    cases x <;> first | cases ee | skip
    rename_i xs
    simp only at ee
    split at ee
    · rename_i hl
      obtain ⟨a, vs, rfl, g1, g2⟩ := d.tup_of
      exact ⟨a, vs, rfl, Evl.ex_t s.e1 g1, by rw [g2.length]; exact hl, Hf, ρ, xs, ρ', s, g2, ee, kk⟩
    · cases ee
/-- target = value -/
def S.asgT (G : Gt) (f : M D) : MS := S.ofM f fun x ρ => match G x ρ with
  | some ρ' => .nx ρ'
  | none => .bad
theorem pd_asgT {tg e : Expr} {f : M D} {G : Gt} {sl : List Nat} (ha : PDe X C e f) (hg : PDg X C tg G sl) (hs : swapsWithSole [tg] e pos.line X.env = pure false := by rfl) (hw : swappedStores [tg] e X.env = pure none := by rfl)
    (h1 : (assignEach [tg] X.env).map (·.2) = [assign tg X.env] := by rfl) : PDs X C (.Assign [tg] e pos) (S.asgT G f) := ps_imp (ps_asg ha hg hs hw h1) fun E σ H ⟨Hf, ρ, s, q⟩ =>
  tS_bind s q fun v x H1 Hf1 ρ1 e1 s1 d1 h1 => by
    cases hg : G x ρ1 with
    | none => rw [hg] at h1; exact (show False from h1).elim
    | some ρ2 =>
      rw [hg] at h1
      exact ⟨Hf1, ρ1, x, ρ2, s1, d1, hg, fun σ2 s2 _ _ => PostS.nx h1 s2⟩
end

/-! ### lists of our own: read, changed, known from now on -/
def frz1 : Option LV → Option LV
  | some (.own xs) => some (.d (.list xs))
  | some (.dct _) => none
  | o => o
def frz (ρ : DE) : DE := ρ.map frz1
def frzAt (i : Nat) (ρ : DE) : DE := match ρ[i]? with
  | some (some (.own xs)) => ρ.set i (some (.d (.list xs)))
  | _ => ρ
section
variable {K : PySem.W.Frag} {C : Fc} {Hf H : Hp} {σ : L2.St} {ρ : DE}
theorem SR.frz (s : SR K C Hf H σ ρ) (E : EV → Hp → Prop) : SR K ⟨H, H, none, [], E, C.w⟩ H H σ (frz ρ) where
  len := by rw [s.len]; unfold PD.frz; rw [List.length_map]
  e0 := Ex.refl _
  e1 := Ex.refl _
  fresh := fun b o h => .inl h
  keep := fun b o h _ => h
  pin := fun q h => by cases h
  no := fun p hp => by cases hp
  val := fun i x h => by
    unfold PD.frz at h
    rw [List.getElem?_map] at h
    cases hi : ρ[i]? with
    | none => rw [hi] at h; cases h
    | some o =>
      rw [hi] at h
      cases o with
      | none => cases h
      | some l =>
        cases l with
        | d y =>
          cases h
          obtain ⟨v, h1, h2⟩ := s.val i _ hi
          exact ⟨v, h1, Dp.mono s.e1 _ _ h2⟩
        | own xs =>
          cases h
          obtain ⟨a, vs, h1, h2, h3, h4, _⟩ := s.own i _ hi
          exact ⟨.ref a, h1, .lst (SqL.of h3) (DpAll.mono s.e1 _ _ h4)⟩
        | dct kvs => cases h
  ownd := fun i xs h o => by
    unfold PD.frz at h
    rw [List.getElem?_map] at h
    cases hi : ρ[i]? with
    | none => rw [hi] at h; cases h
    | some o' =>
      rw [hi] at h
      cases o' with
      | none => cases h
      | some l => cases l <;> cases h <;> cases o
  apart := fun i j a _ ⟨xs, h, o⟩ _ _ _ => by
    unfold PD.frz at h
    rw [List.getElem?_map] at h
    cases hi : ρ[i]? with
    | none => rw [hi] at h; cases h
    | some o' =>
      rw [hi] at h
      cases o' with
      | none => cases h
      | some l => cases l <;> cases h <;> cases o
/-- back from what was only looked at -/
theorem SR.back (s : SR K C Hf H σ ρ) {H' : Hp} (e : Ex H H') : SR K C Hf H' σ ρ := s.grow ⟨Ex.refl _, e, s.e1.trans e, fun _ _ h => .inl h⟩
def scalarD : D → Bool
  | .none => true | .bool _ => true | .int _ => true | .str _ => true | _ => false
theorem scalar_any {H H' : Hp} {v : V} {x : D} (h : scalarD x = true) (d : Dp K H v x) : Dp K H' v x := by
  cases d with
  | non => exact .non
  | bl b => exact .bl b
  | int b => exact .int b
  | str b => exact .str b
  | lst _ _ => cases h
  | tup _ _ => cases h
theorem frzAt_ok (i : Nat) (hp : ∀ q, C.io = some q → q.1 ≠ i) (s : SR K C Hf H σ ρ) : ∃ Hf', Ex Hf Hf' ∧ SR K C Hf' H σ (frzAt i ρ) := by
  unfold frzAt
  split
  · rename_i xs hx
    obtain ⟨a, vs, _, _, ee, s'⟩ := s.freeze hx hp
    exact ⟨_, ee, s'⟩
  · exact ⟨Hf, Ex.refl _, s⟩
theorem tG_frz {α β : Type} {rel : L2.St → Hp → Hp → DE → β → α → Prop} {f : M α} {Q : β → Hp → Prop} (i : Nat) (hp : ∀ q, C.io = some q → q.1 ≠ i) (h : tG K C rel (fun ρ => f (frzAt i ρ)) σ H Q) : tG K C rel f σ H Q := by
  obtain ⟨Hf, ρ, s, h⟩ := h
  obtain ⟨Hf', e, s'⟩ := frzAt_ok i hp s
  exact ⟨Hf', _, s', PostG.mono e h⟩
end
section
variable {X : Cx} {C : Fc} {pos : Pos} {e : Expr} {st : Stmt} {f : M D} {p : M Bool}
def M.frz {α : Type} (i : Nat) (f : M α) : M α := fun ρ => f (frzAt i ρ)
def S.frz (i : Nat) (g : MS) : MS := fun ρ => g (frzAt i ρ)
theorem pd_frz (i : Nat) (hp : ∀ q, C.io = some q → q.1 ≠ i) (h : PDe X C e f) : PDe X C e (M.frz i f) := pe_imp h fun _ _ _ q => tG_frz i hp q
theorem pdt_frz (i : Nat) (hp : ∀ q, C.io = some q → q.1 ≠ i) (h : PDt X C e p) : PDt X C e (M.frz i p) := pt_imp h fun _ _ _ q => tG_frz i hp q
theorem pdl_frz {fl : M (List D)} (i : Nat) (hp : ∀ q, C.io = some q → q.1 ≠ i) (h : PDl X C e fl) : PDl X C e (M.frz i fl) := pe_imp h fun _ _ _ q => tG_frz i hp q
theorem pda_frz {es : List Expr} {g : M (List Arg)} (i : Nat) (hp : ∀ q, C.io = some q → q.1 ≠ i) (h : PDa X C es g) : PDa X C es (M.frz i g) := pa_imp h fun _ _ _ q => tG_frz i hp q
theorem pdi_frz {tg : Expr} {fl : M (List D)} (i : Nat) (hp : ∀ q, C.io = some q → q.1 ≠ i) (h : PDi X C tg e fl) : PDi X C tg e (M.frz i fl) := pi_imp h fun _ _ _ q => tG_frz i hp q
theorem pds_frz {g : MS} (i : Nat) (hp : ∀ q, C.io = some q → q.1 ≠ i) (h : PDs X C st g) : PDs X C st (S.frz i g) := ps_imp h fun E σ H ⟨Hf, ρ, s, q⟩ => by
  obtain ⟨Hf', ee, s'⟩ := frzAt_ok i hp s
  exact ⟨Hf', _, s', PostS.mono ee q⟩
def M.borrow (f : M D) : M D := fun ρ => match f (PD.frz ρ) with
  | .ok x _ => if scalarD x = true then .ok x ρ else .bad
  | _ => .bad
def M.borrowT (f : M Bool) : M Bool := fun ρ => match f (PD.frz ρ) with
  | .ok x _ => .ok x ρ
  | _ => .bad
theorem pd_borrow (h : ∀ C' : Fc, C'.io = none → PDe X C' e f) : PDe X C e (M.borrow f) := ⟨fun pins sh σ H Q I ⟨Hf, ρ, s, q⟩ => by
  have hh := h ⟨H, H, none, [], fun _ _ => False, C.w⟩ rfl
  refine hh.run pins sh σ H Q I ⟨H, PD.frz ρ, s.frz _, ?_⟩
  unfold M.borrow at q
  cases hf : f (PD.frz ρ) with
  | ok x ρ' =>
    rw [hf] at q
    simp only at q
    split at q
    · rename_i hs
      exact fun v H' Hf' e' s' d => PostG.now (b := v) q (s.back (e'.trans s'.e1)) (scalar_any hs d)
    · exact (show False from q).elim
  | ex _ _ => rw [hf] at q; exact (show False from q).elim
  | bad => rw [hf] at q; exact (show False from q).elim⟩
theorem pdt_borrow (h : ∀ C' : Fc, C'.io = none → PDt X C' e p) : PDt X C e (M.borrowT p) := ⟨fun pins sh σ H Q I ⟨Hf, ρ, s, q⟩ => by
  have hh := h ⟨H, H, none, [], fun _ _ => False, C.w⟩ rfl
  refine hh.run pins sh σ H Q I ⟨H, PD.frz ρ, s.frz _, ?_⟩
  unfold M.borrowT at q
  cases hf : p (PD.frz ρ) with
  | ok x ρ' =>
    rw [hf] at q
    exact fun v H' Hf' e' s' d => PostG.now (b := v) q (s.back (e'.trans s'.e1)) d
  | ex _ _ => rw [hf] at q; exact (show False from q).elim
  | bad => rw [hf] at q; exact (show False from q).elim⟩
def ownAt (ρ : DE) (i : Nat) : Option (List D) := match ρ[i]? with
  | some (some (.own xs)) => some xs
  | _ => none
theorem ownAt_get {ρ : DE} {i : Nat} {xs : List D} (h : ownAt ρ i = some xs) : ρ[i]? = some (some (.own xs)) := by
  unfold ownAt at h
  split at h
  · rename_i ys hy
    cases h
    exact hy
  · cases h
/-- an item of a list of ours -/
def M.subO (i : Nat) (g : M D) : M D := fun ρ => match ownAt ρ i with
  | some _ => M.bind g (fun k ρ1 => M.lift ((ownAt ρ1 i).bind fun xs => (asI k).bind fun j => atI xs j) ρ1) ρ
  | none => .bad
theorem pd_subO (i : Nat) {x : Str} {px : Pos} {b : Expr} {g : M D} (hb : PDe X C b g) (hs : PlainIx b) (hN : X.N[i]? = some x := by rfl) (hv : Vis X.env.scope x := by first | exact Or.inl rfl | exact Or.inr (Or.inl rfl) | exact Or.inr (Or.inr rfl)) (hd : (x == ("__debug__" : Str)) = false := by decide)
    (hcd : (x == ("__classdict__" : Str)) = false := by decide) : PDe X C (.Subscript (.Name x px) b pos) (M.subO i g) := pe_imp (pe_ix ix_list (pe_var hN hv hd hcd) hb hs) fun σ H Q ⟨Hf, ρ, s, q⟩ => by
  unfold M.subO at q
  cases ho : ownAt ρ i with
  | none => rw [ho] at q; exact (show False from q).elim
  | some xs =>
    rw [ho] at q
    obtain ⟨a, vs, h1, h2⟩ := s.own i xs (ownAt_get ho)
    refine ⟨.ref a, h1, tG_bind s q fun w y H2 Hf2 ρ2 e2 s2 d2 q2 => ?_⟩
    obtain ⟨z, hz, q3⟩ := q2.lift
    cases ho2 : ownAt ρ2 i with
    | none => rw [ho2] at hz; cases hz
    | some ys =>
      rw [ho2] at hz
      obtain ⟨b, ws, g1, g2, g3, g4, _⟩ := s2.own i ys (ownAt_get ho2)
      rw [h1] at g1
      cases g1
      cases y <;> first | cases hz | skip
      obtain ⟨t, t1, t2⟩ := atI_dp g4 hz
      exact ⟨_, _, _, t, rfl, d2.int_of, SqL.of g3, t1, PostG.now (b := t) q3 s2 t2⟩
/-- found.append(e) -/
def S.app (i : Nat) (f : M D) : MS := fun ρ => match ownAt ρ i with
  | some _ => S.ofM f (fun x => S.ofM (fun ρ1 => M.lift ((ownAt ρ1 i).bind fun xs => if xs.length < sizeLine then some (xs ++ [x]) else none) ρ1) fun ys ρ1 => .nx (ρ1.set i (some (.own ys)))) ρ
  | none => .bad
theorem ofM_s {α : Type} {K : PySem.W.Frag} {C : Fc} {Hf : Hp} {o : DE → Option α} {k : α → MS} {ρ : DE} {E : Ends} (h : PostS K C Hf (S.ofM (fun ρ1 => M.lift (o ρ1) ρ1) k ρ) E) : ∃ x, o ρ = some x ∧ PostS K C Hf (k x ρ) E := by
  unfold S.ofM M.lift at h
  cases ho : o ρ with
  | none => simp only [ho] at h; exact (show False from h).elim
  | some x => simp only [ho] at h; exact ⟨x, rfl, h⟩
theorem pd_app (i : Nat) {x : Str} {px apos cpos : Pos} (ha : PDe X C e f) (hN : X.N[i]? = some x := by rfl) (hv : Vis X.env.scope x := by first | exact Or.inl rfl | exact Or.inr (Or.inl rfl) | exact Or.inr (Or.inr rfl)) (hd : (x == ("__debug__" : Str)) = false := by decide)
    (hcd : (x == ("__classdict__" : Str)) = false := by decide)
    (hbase : attributeBase (.Name x px) "append" X.env (eval (.Name x px) X.env) = eval (.Name x px) X.env := by rfl)
    (hfew : ((backTo cpos (starEach (e :: []) X.env)).all (fun x => !x.1) && (backToKw cpos (keywordEach [] X.env)).all (fun x => x.1.isSome)
      && decide ((e :: []).length + ([] : List Keyword).length + (if ([] : List Keyword).isEmpty then 0 else 1) < 30)) = true := by rfl)
    (hline : (apos.endLine == cpos.line) = true := by rfl) (hs : starEach (e :: []) X.env = (false, eval e X.env) :: starEach [] X.env := by rfl) (hplain : (backTo cpos (starEach [] X.env)).any (·.1) = false := by rfl)
    (hsw : swapsWith (.Call (.Attribute (.Name x px) "append" apos) [e] [] cpos) none pos.line X.env = pure false := by rfl) :
    PDs X C (.Expr (.Call (.Attribute (.Name x px) "append" apos) [e] [] cpos) pos) (S.app i f) :=
  ps_imp (ps_expr (pe_bm PySem.F.plainAttrs_list PySem.F.slot_list_append PySem.F.type_list_append mt_append (pe_var hN hv hd hcd) (pa_cons ha pa_nil hs) hbase hfew hline hs hplain) hsw) fun E σ H ⟨Hf, ρ, s, q⟩ => by
    unfold S.app at q
    cases ho : ownAt ρ i with
    | none => rw [ho] at q; exact (show False from q).elim
    | some xs =>
      rw [ho] at q
      obtain ⟨a, vs, h1, h2, h3, _⟩ := s.own i xs (ownAt_get ho)
      refine ⟨.ref a, h1, .inl ⟨rfl, _, SqL.of h3⟩, tS_bind s q fun w y H2 Hf2 ρ2 e2 s2 d2 q2 => ?_⟩
      obtain ⟨zs, hz, q3⟩ := ofM_s q2
      cases ho2 : ownAt ρ2 i with
      | none => rw [ho2] at hz; cases hz
      | some ys =>
        rw [ho2] at hz
        simp only [Option.bind_some] at hz
        split at hz
        · rename_i hl
          cases hz
          obtain ⟨b, ws, g1, g2, g3, g4, _⟩ := s2.own i ys (ownAt_get ho2)
          rw [h1] at g1
          cases g1
          refine ⟨_, ws, w, rfl, rfl, g3, by rw [g4.length]; exact hl, ?_⟩
          exact PostS.nx q3 (s2.mut (ownAt_get ho2) h1 (g4.append (.cons d2 .nil)))
        · cases hz
/-- xs.pop() -/
def M.pop (i : Nat) : M D := fun ρ => match ownAt ρ i with
  | some xs => match xs[xs.length - 1]? with
    | some x => .ok x (ρ.set i (some (.own xs.dropLast)))
    | none => .bad
  | none => .bad
theorem pd_pop (i : Nat) {x : Str} {px apos cpos : Pos} (hN : X.N[i]? = some x := by rfl) (hv : Vis X.env.scope x := by first | exact Or.inl rfl | exact Or.inr (Or.inl rfl) | exact Or.inr (Or.inr rfl)) (hd : (x == ("__debug__" : Str)) = false := by decide)
    (hcd : (x == ("__classdict__" : Str)) = false := by decide) (hbase : attributeBase (.Name x px) "pop" X.env (eval (.Name x px) X.env) = eval (.Name x px) X.env := by rfl) (hline : (apos.endLine == cpos.line) = true := by rfl) :
    PDe X C (.Call (.Attribute (.Name x px) "pop" apos) [] [] cpos) (M.pop i) :=
  pe_imp (pe_bm0 PySem.F.plainAttrs_list PySem.F.slot_list_pop PySem.F.type_list_pop mt_pop (pe_var hN hv hd hcd) hbase hline) fun σ H Q ⟨Hf, ρ, s, q⟩ => by
    unfold M.pop at q
    cases ho : ownAt ρ i with
    | none => rw [ho] at q; exact (show False from q).elim
    | some xs =>
      rw [ho] at q
      simp only at q
      split at q
      · rename_i y hy
        obtain ⟨a, vs, h1, h2, h3, h4, _⟩ := s.own i xs (ownAt_get ho)
        obtain ⟨v, g1, g2⟩ := h4.get hy
        refine ⟨.ref a, h1, .inl ⟨rfl, _, SqL.of h3⟩, a, vs, v, rfl, rfl, h3, by rw [h4.length]; exact g1, ?_⟩
        exact q v _ Hf (Ex.refl _) (s.mut (ownAt_get ho) h1 h4.dropLast) g2
      · exact (show False from q).elim
/-- xs[k] = e -/
def S.setIx (i : Nat) (f g : M D) : MS := S.ofM f fun x ρ0 => match ownAt ρ0 i with
  | some _ => S.ofM g (fun k => S.ofM (fun ρ1 => M.lift ((ownAt ρ1 i).bind fun xs => (asI k).bind fun j => (ixN xs.length j).map fun n => xs.set n x) ρ1) fun ys ρ1 => .nx (ρ1.set i (some (.own ys)))) ρ0
  | none => .bad
theorem pd_setIx (i : Nat) {x : Str} {px tpos : Pos} {b : Expr} {g : M D} (ha : PDe X C e f) (hb : PDe X C b g) (hN : X.N[i]? = some x := by rfl) (hv : Vis X.env.scope x := by first | exact Or.inl rfl | exact Or.inr (Or.inl rfl) | exact Or.inr (Or.inr rfl)) (hd : (x == ("__debug__" : Str)) = false := by decide)
    (hcd : (x == ("__classdict__" : Str)) = false := by decide)
    (hA : ∀ v, assign (.Subscript (.Name x px) b tpos) X.env v = (do
      let ov ← holding [v] (eval (.Name x px) X.env)
      let iv ← holding [v, ov] (eval b X.env)
      standAt tpos
      holding [v, ov, iv] (setItem ov iv v)
      release [v, ov, iv] []) := by intro _; rfl)
    (hs : swapsWithSole [.Subscript (.Name x px) b tpos] e pos.line X.env = pure false := by rfl) (hw : swappedStores [.Subscript (.Name x px) b tpos] e X.env = pure none := by rfl)
    (h1 : (assignEach [.Subscript (.Name x px) b tpos] X.env).map (·.2) = [assign (.Subscript (.Name x px) b tpos) X.env] := by rfl) : PDs X C (.Assign [.Subscript (.Name x px) b tpos] e pos) (S.setIx i f g) :=
  ps_imp (ps_asg ha (pg_sub (pe_var hN hv hd hcd) hb set_list hA) hs hw h1) fun E σ H ⟨Hf, ρ, s, q⟩ => tS_bind s q fun v y H1 Hf1 ρ1 e1 s1 d1 q1 => by
    cases ho : ownAt ρ1 i with
    | none => simp only [ho] at q1; exact (show False from q1).elim
    | some xs =>
      simp only [ho] at q1
      obtain ⟨a, vs, h1, h2, h3, _⟩ := s1.own i xs (ownAt_get ho)
      refine ⟨.ref a, h1, tS_bind s1 q1 fun w k H2 Hf2 ρ2 e2 s2 d2 q2 => ?_⟩
      obtain ⟨zs, hz, q3⟩ := ofM_s q2
      cases ho2 : ownAt ρ2 i with
      | none => rw [ho2] at hz; cases hz
      | some ys =>
        rw [ho2] at hz
        obtain ⟨b, ws, g1, g2, g3, g4, _⟩ := s2.own i ys (ownAt_get ho2)
        rw [h1] at g1
        cases g1
        cases k <;> first | cases hz | skip
        rename_i j
        have hz : (ixN ys.length j).map (fun n => ys.set n y) = some zs := hz
        cases hn : ixN ys.length j with
        | none => rw [hn] at hz; cases hz
        | some n =>
          rw [hn] at hz
          cases hz
          refine ⟨_, ws, j, n, rfl, d2.int_of, g3, by rw [g4.length]; exact hn, ?_⟩
          exact PostS.nx q3 (s2.mut (ownAt_get ho2) h1 (g4.set n (Dp.mono e2 _ _ d1)))
end
end PD

set_option maxRecDepth 100000
set_option maxHeartbeats 4000000
set_option autoImplicit false
namespace PD
open PySem PySem.Spec L2
open Evl (Ex)

/-! ### what is walked -/
section
variable {X : Cx} {C : Fc} {pos p tpos : Pos} {tg e e2 : Expr} {f : M D} {ga : M (List Arg)}
def itemsD : D → Option (List D)
  | .list xs => some xs
  | .tuple xs => some xs
  | _ => none
def M.items (f : M D) : M (List D) := M.bind f fun x => M.lift (itemsD x)
def iSeq (K : PySem.W.Frag) (tl : TE) : TI := fun σ H R => tl σ H fun x H1 => ∃ a, x = .ref a ∧ (((∃ xs, SqL K H1 a xs) ∧ R (Itl K a) H1) ∨ ((∃ xs, SqT K H1 a xs) ∧ R (Itt K a) H1))
theorem pi_seq {l : Expr} {tl : TE} (hl : PE X l tl) : PI X tg l (iSeq X.K tl) := by
  refine ⟨fun pins s σ H R I h => ?_⟩
  refine thn (hl.run pins s σ H _ I h) fun v s1 ⟨x, H1, I1, r1, q1⟩ => ?_
  obtain ⟨a, e, q1⟩ := q1
  subst e
  cases r1
  rcases q1 with ⟨⟨xs, hq⟩, q⟩ | ⟨⟨xs, hq⟩, q⟩
  · obtain ⟨its, rv, p, hz⟩ := I1.list hq
    refine wpAny_pyIter_list p.isList ?_
    refine ⟨s1.heap.objs.size, [s1.heap.objs.size], _, _, H1, rfl, I1.kept (t' := s1.toks) fun b o e => Heap.get?_push_of_some _ e, turn_list a _, ⟨_, Heap.get?_push_size _ rfl, rfl, rfl⟩, fun b hb => ?_, q⟩
    have e : b = s1.heap.objs.size := by simpa using hb
    subst e
    exact I1.fpOk (Nat.le_refl _) (I1.hok.fresh (Nat.le_refl _))
  · obtain ⟨its, rv, p, hz⟩ := I1.tuple hq
    refine wpAny_pyIter_tuple (show s1.heap.IsTuple a its.toArray from p) ?_
    refine ⟨s1.heap.objs.size, [s1.heap.objs.size], _, _, H1, rfl, I1.kept (t' := s1.toks) fun b o e => Heap.get?_push_of_some _ e, turn_tuple a _, ⟨_, Heap.get?_push_size _ rfl, rfl, rfl⟩, fun b hb => ?_, q⟩
    have e : b = s1.heap.objs.size := by simpa using hb
    subst e
    exact I1.fpOk (Nat.le_refl _) (I1.hok.fresh (Nat.le_refl _))
theorem it_list {K : PySem.W.Frag} {σ : L2.St} {Hf H0 : Hp} {ρ : DE} {a : Addr} {us : List V} {xs : List D} (h : SqL K Hf a us) (d : DpAll K Hf us xs) : relI K σ Hf H0 ρ (Itl K a) xs := by
  refine ⟨fun i Hf1 H x e1 e2 hx => ?_, fun i Hf1 H e1 e2 hi => ⟨us, Evl.ex_l (e1.trans e2) h, by rw [d.length]; exact hi⟩⟩
  obtain ⟨v, g1, g2⟩ := d.get hx
  have h' := Evl.ex_l (e1.trans e2) h
  refine ⟨⟨us, v, h', g1⟩, fun v' H2 ⟨e, hy⟩ => ?_⟩
  subst e
  have := (hy us h').symm.trans g1
  cases this
  exact ⟨Hf1, Grow.refl e2, Dp.mono e1 _ _ g2⟩
theorem it_tup {K : PySem.W.Frag} {σ : L2.St} {Hf H0 : Hp} {ρ : DE} {a : Addr} {us : List V} {xs : List D} (h : SqT K Hf a us) (d : DpAll K Hf us xs) : relI K σ Hf H0 ρ (Itt K a) xs := by
  refine ⟨fun i Hf1 H x e1 e2 hx => ?_, fun i Hf1 H e1 e2 hi => ⟨us, Evl.ex_t (e1.trans e2) h, by rw [d.length]; exact hi⟩⟩
  obtain ⟨v, g1, g2⟩ := d.get hx
  have h' := Evl.ex_t (e1.trans e2) h
  refine ⟨⟨us, v, h', g1⟩, fun v' H2 ⟨e, hy⟩ => ?_⟩
  subst e
  have := (hy us h').symm.trans g1
  cases this
  exact ⟨Hf1, Grow.refl e2, Dp.mono e1 _ _ g2⟩
theorem pdi_seq (ha : PDe X C e f) : PDi X C tg e (M.items f) := pi_imp (pi_seq ha) fun σ H Q ⟨Hf, ρ, s, h⟩ =>
  tG_bind s h fun v x H1 Hf1 ρ1 e1 s1 d1 h1 => by
    obtain ⟨z, hz, h2⟩ := h1.lift
    cases x <;> first | cases hz | skip
    · obtain ⟨a, us, rfl, g1, g2⟩ := Dp.list_of d1
      exact ⟨a, rfl, .inl ⟨⟨us, Evl.ex_l s1.e1 g1⟩, PostG.now (b := Itl X.K a) h2 s1 (it_list g1 g2)⟩⟩
    · obtain ⟨a, us, rfl, g1, g2⟩ := Dp.tup_of d1
      exact ⟨a, rfl, .inr ⟨⟨us, Evl.ex_t s1.e1 g1⟩, PostG.now (b := Itt X.K a) h2 s1 (it_tup g1 g2)⟩⟩
/-- range -/
def rangeD (lo : Int) (n : Nat) : List D := (List.range n).map fun (i : Nat) => .int (lo + (i : Int))
theorem rangeD_get {lo : Int} {n i : Nat} {x : D} (h : (rangeD lo n)[i]? = some x) : i < n ∧ x = .int (lo + i) := by
  unfold rangeD at h
  rw [List.getElem?_map] at h
  by_cases hi : i < n
  · rw [List.getElem?_range hi] at h
    cases h
    exact ⟨hi, rfl⟩
  · rw [List.getElem?_eq_none (by simpa using hi)] at h
    cases h
theorem it_range {K : PySem.W.Frag} {σ : L2.St} {Hf H0 : Hp} {ρ : DE} {lo : Int} {n : Nat} : relI K σ Hf H0 ρ (Itr lo n) (rangeD lo n) := by
  refine ⟨fun i Hf1 H x e1 e2 hx => ?_, fun i Hf1 H e1 e2 hi => by simpa [rangeD, Itr] using hi⟩
  obtain ⟨hi, rfl⟩ := rangeD_get hx
  exact ⟨hi, fun v H2 ⟨e, hy⟩ => by subst e hy; exact ⟨Hf1, Grow.refl e2, .int _⟩⟩
def rngOk (j : Int) : Bool := decide (-(2 ^ 62) ≤ j) && decide (j < 2 ^ 62)
def range1D : List D → Option (List D)
  | [.int j] => if rngOk j = true then some (rangeD 0 j.toNat) else none
  | _ => none
def range2D : List D → Option (List D)
  | [.int i, .int j] => if (rngOk i && rngOk j) = true then some (rangeD i (j - i).toNat) else none
  | _ => none
def M.callL (o : List D → Option (List D)) (g : M (List Arg)) : M (List D) := M.bind g fun as => M.lift ((datOf as).bind o)
theorem callL_go {α : Type} {K : PySem.W.Frag} {C : Fc} {σ : L2.St} {Hf : Hp} {o : List D → Option (List D)} {as : List Arg} {rel : Hp → Hp → DE → α → List D → Prop} {ρ : DE} {Q : α → Hp → Prop} (h : PostG K C σ rel Hf (M.lift ((datOf as).bind o) ρ) Q) : ∃ xs z, datOf as = some xs ∧ o xs = some z ∧ PostG K C σ rel Hf (.ok z ρ) Q := by
  obtain ⟨z, hz, h2⟩ := h.lift
  cases q : datOf as with
  | none => rw [q] at hz; cases hz
  | some xs =>
    rw [q] at hz
    exact ⟨xs, z, rfl, hz, h2⟩
theorem pdi_range1 (hm : X.mg "range" = none) (ha : PDa X C [e] ga) (hg : Gl X "range" := by rfl) (hs : starEach [e] X.env = [(false, eval e X.env)] := by rfl) : PDi X C tg (.Call (.Name "range" p) [e] [] pos) (M.callL range1D ga) :=
  pi_imp (pi_range1 hg hm ha hs) fun σ H Q ⟨Hf, ρ, s, h⟩ => tG_bind s h fun vs as H1 Hf1 ρ1 e1 s1 d1 h1 => by
    obtain ⟨xs, z, hd, hz, h2⟩ := callL_go h1
    have da := ArgsRel.dats d1 hd
    unfold range1D at hz
    split at hz
    · split at hz
      · rename_i j hj
        cases hz
        obtain ⟨v, rfl, g⟩ := dp1 da
        unfold rngOk at hj
        rw [Bool.and_eq_true] at hj
        exact ⟨j, by rw [g.int_of], of_decide_eq_true hj.1, of_decide_eq_true hj.2, PostG.now (b := Itr 0 j.toNat) h2 s1 it_range⟩
      · cases hz
    · cases hz
theorem pdi_range2 (hm : X.mg "range" = none) (ha : PDa X C [e, e2] ga) (hg : Gl X "range" := by rfl) (hs : starEach [e, e2] X.env = [(false, eval e X.env), (false, eval e2 X.env)] := by rfl) (hs2 : starEach [e2] X.env = [(false, eval e2 X.env)] := by rfl) : PDi X C tg (.Call (.Name "range" p) [e, e2] [] pos) (M.callL range2D ga) :=
  pi_imp (pi_range2 hg hm ha hs hs2) fun σ H Q ⟨Hf, ρ, s, h⟩ => tG_bind s h fun vs as H1 Hf1 ρ1 e1 s1 d1 h1 => by
    obtain ⟨xs, z, hd, hz, h2⟩ := callL_go h1
    have da := ArgsRel.dats d1 hd
    unfold range2D at hz
    split at hz
    · split at hz
      · rename_i i j hj
        cases hz
        obtain ⟨v, w, rfl, g, g'⟩ := dp2 da
        unfold rngOk at hj
        simp only [Bool.and_eq_true, decide_eq_true_eq] at hj
        exact ⟨i, j, by rw [g.int_of, g'.int_of], ⟨hj.1.1, hj.1.2, hj.2.1, hj.2.2⟩, PostG.now (b := Itr i (j - i).toNat) h2 s1 it_range⟩
      · cases hz
    · cases hz
/-- zip of two lists, of two tuples -/
def zipL (xs ys : List D) : List D := (xs.zip ys).map fun p => .tuple [p.1, p.2]
def zipD : List D → Option (List D)
  | [.list xs, .list ys] => some (zipL xs ys)
  | [.tuple xs, .tuple ys] => some (zipL xs ys)
  | _ => none
theorem zipL_get {xs ys : List D} {i : Nat} {z : D} (h : (zipL xs ys)[i]? = some z) : ∃ x y, xs[i]? = some x ∧ ys[i]? = some y ∧ z = .tuple [x, y] := by
  unfold zipL at h
  rw [List.getElem?_map] at h
  cases q : (xs.zip ys)[i]? with
  | none => rw [q] at h; cases h
  | some p =>
    rw [q] at h
    cases h
    obtain ⟨x, y⟩ := p
    have := List.getElem?_zip_eq_some.mp q
    exact ⟨x, y, this.1, this.2, rfl⟩
theorem pair_new {K : PySem.W.Frag} {Hf H : Hp} {T : Addr} {v w : V} {x y : D} (e : Ex Hf H) (hT : H T = none) (d1 : Dp K Hf v x) (d2 : Dp K Hf w y) : ∃ Hf2, Grow Hf H Hf2 (upd H T (.tup [v, w])) ∧ Dp K Hf2 (.ref T) (.tuple [x, y]) := by
  have g := Grow.new (o := .tup [v, w]) e hT
  exact ⟨_, g, .tup (SqT.of upd_same) (.cons (Dp.mono g.f _ _ d1) (.cons (Dp.mono g.f _ _ d2) .nil))⟩
theorem zip_len {xs ys : List D} {i : Nat} (h : (zipL xs ys).length ≤ i) : xs.length ≤ i ∨ ys.length ≤ i := by
  unfold zipL at h
  rw [List.length_map, List.length_zip] at h
  omega
theorem it_zipL {K : PySem.W.Frag} {σ : L2.St} {Hf H0 : Hp} {ρ : DE} {a b : Addr} {us ws : List V} {xs ys : List D} (h : SqL K Hf a us) (d : DpAll K Hf us xs) (h' : SqL K Hf b ws) (d' : DpAll K Hf ws ys) : relI K σ Hf H0 ρ (Itz K a b) (zipL xs ys) := by
  refine ⟨fun i Hf1 H z e1 e2 hz => ?_, fun i Hf1 H e1 e2 hi => ⟨us, ws, Evl.ex_l (e1.trans e2) h, Evl.ex_l (e1.trans e2) h', by rw [d.length, d'.length]; exact zip_len hi⟩⟩
  obtain ⟨x, y, hx, hy, rfl⟩ := zipL_get hz
  obtain ⟨v, g1, g2⟩ := d.get hx
  obtain ⟨w, g3, g4⟩ := d'.get hy
  have q := Evl.ex_l (e1.trans e2) h
  have q' := Evl.ex_l (e1.trans e2) h'
  refine ⟨⟨us, ws, v, w, q, q', g1, g3⟩, fun v' H2 ⟨T, x', y', ev, hT, eH, hx', hy'⟩ => ?_⟩
  subst ev eH
  have a1 := (hx' us q).symm.trans g1
  have a2 := (hy' ws q').symm.trans g3
  cases a1
  cases a2
  exact pair_new e2 hT (Dp.mono e1 _ _ g2) (Dp.mono e1 _ _ g4)
theorem it_zipT {K : PySem.W.Frag} {σ : L2.St} {Hf H0 : Hp} {ρ : DE} {a b : Addr} {us ws : List V} {xs ys : List D} (h : SqT K Hf a us) (d : DpAll K Hf us xs) (h' : SqT K Hf b ws) (d' : DpAll K Hf ws ys) : relI K σ Hf H0 ρ (RZ.ItzT K a b) (zipL xs ys) := by
  refine ⟨fun i Hf1 H z e1 e2 hz => ?_, fun i Hf1 H e1 e2 hi => ⟨us, ws, Evl.ex_t (e1.trans e2) h, Evl.ex_t (e1.trans e2) h', by rw [d.length, d'.length]; exact zip_len hi⟩⟩
  obtain ⟨x, y, hx, hy, rfl⟩ := zipL_get hz
  obtain ⟨v, g1, g2⟩ := d.get hx
  obtain ⟨w, g3, g4⟩ := d'.get hy
  have q := Evl.ex_t (e1.trans e2) h
  have q' := Evl.ex_t (e1.trans e2) h'
  refine ⟨⟨us, ws, v, w, q, q', g1, g3⟩, fun v' H2 ⟨T, x', y', ev, hT, eH, hx', hy'⟩ => ?_⟩
  subst ev eH
  have a1 := (hx' us q).symm.trans g1
  have a2 := (hy' ws q').symm.trans g3
  cases a1
  cases a2
  exact pair_new e2 hT (Dp.mono e1 _ _ g2) (Dp.mono e1 _ _ g4)
theorem pdi_zip {elts : List Expr} {kk : Nat} (hm : X.mg "zip" = none) (ha : PDa X C [e, e2] ga) (hg : Gl X "zip" := by rfl)
    (hs : starEach [e, e2] X.env = (false, eval e X.env) :: starEach [e2] X.env := by rfl) (hpl : (backTo pos (starEach [e2] X.env)).any (·.1) = false := by rfl) : PDi X C (.Tuple elts kk tpos) (.Call (.Name "zip" p) [e, e2] [] pos) (M.callL zipD ga) :=
  pi_imp (RZ.pi_zipA hg hm ha hs hpl) fun σ H Q ⟨Hf, ρ, s, h⟩ => tG_bind s h fun vs as H1 Hf1 ρ1 e1 s1 d1 h1 => by
    obtain ⟨xs, z, hd, hz, h2⟩ := callL_go h1
    have da := ArgsRel.dats d1 hd
    unfold zipD at hz
    split at hz
    · cases hz
      obtain ⟨v, w, rfl, g, g'⟩ := dp2 da
      obtain ⟨a, us, rfl, a1, a2⟩ := g.list_of
      obtain ⟨b, ws, rfl, b1, b2⟩ := g'.list_of
      exact ⟨a, b, us, ws, rfl, .inl ⟨Evl.ex_l s1.e1 a1, Evl.ex_l s1.e1 b1, PostG.now (b := Itz X.K a b) h2 s1 (it_zipL a1 a2 b1 b2)⟩⟩
    · cases hz
      obtain ⟨v, w, rfl, g, g'⟩ := dp2 da
      obtain ⟨a, us, rfl, a1, a2⟩ := g.tup_of
      obtain ⟨b, ws, rfl, b1, b2⟩ := g'.tup_of
      exact ⟨a, b, us, ws, rfl, .inr ⟨Evl.ex_t s1.e1 a1, Evl.ex_t s1.e1 b1, PostG.now (b := RZ.ItzT X.K a b) h2 s1 (it_zipT a1 a2 b1 b2)⟩⟩
    · cases hz
end

/-! ### for, while -/
def forD (G : Gt) (g : MS) : List D → MS
  | [], ρ => .nx ρ
  | x :: r, ρ => match G x ρ with
    | none => .bad
    | some ρ1 => match g ρ1 with
      | .nx ρ2 => forD G g r ρ2
      | .ct ρ2 => forD G g r ρ2
      | .bk ρ2 => .nx ρ2
      | o => o
def S.for_ (it : M (List D)) (G : Gt) (g : MS) : MS := S.ofM it fun xs => forD G g xs
def whileN (p : M Bool) (g : MS) : Nat → MS
  | 0, _ => .bad
  | n + 1, ρ => match p ρ with
    | .ok b ρ1 => if b = true then (match g ρ1 with
        | .nx ρ2 => whileN p g n ρ2
        | .ct ρ2 => whileN p g n ρ2
        | .bk ρ2 => .nx ρ2
        | o => o) else .nx ρ1
    | .ex e ρ1 => .ex e ρ1
    | .bad => .bad
def Fl.isBad : Fl → Bool
  | .bad => true
  | _ => false
theorem whileN_up {p : M Bool} {g : MS} : ∀ {n : Nat} {ρ : DE}, (whileN p g n ρ).isBad = false → whileN p g (n + 1) ρ = whileN p g n ρ
  | 0, ρ, h => by cases h
  | n + 1, ρ, h => by
    have ih := fun ρ => @whileN_up p g n ρ
    unfold whileN at h ⊢
    cases hp : p ρ with
    | bad => rfl
    | ex e ρ1 => rfl
    | ok b ρ1 =>
      rw [hp] at h
      cases b with
      | false => rfl
      | true =>
        simp only [if_true] at h ⊢
        cases hg : g ρ1 with
        | nx ρ2 => rw [hg] at h; exact ih ρ2 h
        | ct ρ2 => rw [hg] at h; exact ih ρ2 h
        | bk ρ2 => rfl
        | rt x ρ2 => rfl
        | rl x ρ2 => rfl
        | ex e ρ2 => rfl
        | bad => rfl
theorem whileN_le {p : M Bool} {g : MS} {n m : Nat} {ρ : DE} (h : (whileN p g n ρ).isBad = false) (hm : n ≤ m) : whileN p g m ρ = whileN p g n ρ := by
  induction m with
  | zero => rw [Nat.le_zero.mp hm]
  | succ m ih =>
    by_cases e : n = m + 1
    · rw [e]
    · have h1 := ih (by omega)
      rw [whileN_up (by rw [h1]; exact h), h1]
open Classical in
noncomputable def S.while_ (p : M Bool) (g : MS) : MS := fun ρ => if h : ∃ n, (whileN p g n ρ).isBad = false then whileN p g (Classical.choose h) ρ else .bad
theorem while_eq {p : M Bool} {g : MS} {n : Nat} {ρ : DE} (h : (whileN p g n ρ).isBad = false) : S.while_ p g ρ = whileN p g n ρ := by
  have hx : ∃ n, (whileN p g n ρ).isBad = false := ⟨n, h⟩
  unfold S.while_
  rw [dif_pos hx]
  have hc := Classical.choose_spec hx
  rcases Nat.le_total n (Classical.choose hx) with hl | hl
  · exact whileN_le h hl
  · exact (whileN_le hc hl).symm
section
variable {X : Cx} {C : Fc} {pos : Pos} {tg iter c : Expr} {body : List Stmt} {it : M (List D)} {G : Gt} {g : MS} {sl : List Nat} {p : M Bool}
theorem pd_for (hp : PassesOwn (model X.prog X.w) X.A X.env X.xe) (hc : X.calm = true) (hi : PDi X C tg iter it) (hg : PDg X C tg G sl) (hb : PDss X C body g) (hs : ∀ x, foldedSetIterable iter X.env x = pure x := by intro _; rfl) : PDs X C (.For tg iter body [] pos) (S.for_ it G g) :=
  ps_imp (ps_for hp hc hi hg hb hs) fun E σ H ⟨Hf, ρ, s, q⟩ => tS_bind s q fun J xs H1 Hf1 ρ1 e1 s1 r1 q1 => by
    obtain ⟨rgo, rstop⟩ := r1
    refine ⟨fun i m σ H => ∃ Hf ρ, Ex Hf1 Hf ∧ SR X.K C Hf H σ ρ ∧ i ≤ xs.length ∧ m = xs.length - i ∧ PostS X.K C Hf (forD G g (xs.drop i) ρ) E, ⟨xs.length, Hf1, ρ1, Ex.refl _, s1, Nat.zero_le _, rfl, q1⟩, ?_⟩
    rintro i m σ2 H2 ⟨Hf2, ρ2, e2, s2, hi, rfl, q2⟩
    by_cases hlt : i < xs.length
    · have hx : xs[i]? = some xs[i] := List.getElem?_eq_getElem hlt
      obtain ⟨go, yl⟩ := rgo i Hf2 H2 _ e2 s2.e1 hx
      refine .inr ⟨go, fun σ' H' => ∃ Hf' ρ', Ex Hf1 Hf' ∧ SR X.K C Hf' H' σ' ρ' ∧ PostS X.K C Hf' (forD G g (xs.drop (i + 1)) ρ') E, fun σ' H' ⟨Hf', ρ', a1, a2, a3⟩ => ⟨xs.length - (i + 1), by omega, Hf', ρ', a1, a2, hlt, rfl, a3⟩, fun v H' y => ?_⟩
      obtain ⟨Hf3, gr, d3⟩ := yl v H' y
      rw [List.drop_eq_getElem_cons hlt] at q2
      unfold forD at q2
      cases hG : G xs[i] ρ2 with
      | none => rw [hG] at q2; exact (show False from q2).elim
      | some ρ3 =>
        rw [hG] at q2
        refine ⟨Hf3, ρ2, xs[i], ρ3, s2.grow gr, d3, hG, fun σ3 s3 _ _ => ⟨Hf3, ρ3, s3, ?_⟩⟩
        simp only at q2
        cases hgb : g ρ3 with
        | nx ρ4 =>
          rw [hgb] at q2
          exact fun σ4 H4 Hf4 e4 s4 => ⟨Hf4, ρ4, (e2.trans gr.f).trans e4, s4, PostS.mono (gr.f.trans e4) q2⟩
        | ct ρ4 =>
          rw [hgb] at q2
          exact fun σ4 H4 Hf4 e4 s4 => ⟨Hf4, ρ4, (e2.trans gr.f).trans e4, s4, PostS.mono (gr.f.trans e4) q2⟩
        | bk ρ4 =>
          rw [hgb] at q2
          exact fun σ4 H4 Hf4 e4 s4 => q2 σ4 H4 Hf4 (gr.f.trans e4) s4
        | rt x ρ4 =>
          rw [hgb] at q2
          exact fun v σ4 H4 Hf4 e4 s4 d4 => q2 v σ4 H4 Hf4 (gr.f.trans e4) s4 d4
        | rl x ρ4 =>
          rw [hgb] at q2
          exact fun a us σ4 H4 Hf4 e4 s4 => q2 a us σ4 H4 Hf4 (gr.f.trans e4) s4
        | ex e ρ4 =>
          rw [hgb] at q2
          exact fun σ4 H4 Hf4 e4 s4 => q2 σ4 H4 Hf4 (gr.f.trans e4) s4
        | bad =>
          rw [hgb] at q2
          exact q2
    · have e : i = xs.length := by omega
      subst e
      rw [List.drop_length] at q2
      exact .inl ⟨rstop _ Hf2 H2 e2 s2.e1 (Nat.le_refl _), PostS.nx q2 s2⟩
theorem pd_while (hp : PassesOwn (model X.prog X.w) X.A X.env X.xe) (hc : PDt X C c p) (hb : PDss X C body g) : PDs X C (.While c body [] pos) (S.while_ p g) :=
  ps_imp (ps_while hp hc hb) fun E σ H ⟨Hf, ρ, s, q⟩ => by
    have hx : ∃ n, PostS X.K C Hf (whileN p g n ρ) E := by
      unfold S.while_ at q
      split at q
      · exact ⟨_, q⟩
      · exact (show False from q).elim
    obtain ⟨n, hn⟩ := hx
    refine ⟨fun m σ H => ∃ Hf' ρ', Ex Hf Hf' ∧ SR X.K C Hf' H σ ρ' ∧ PostS X.K C Hf' (whileN p g m ρ') E, ⟨n, Hf, ρ, Ex.refl _, s, hn⟩, ?_⟩
    rintro m σ1 H1 ⟨Hf1, ρ1, e1, s1, q1⟩
    cases m with
    | zero => exact (show False from q1).elim
    | succ m =>
      unfold whileN at q1
      refine ⟨Hf1, ρ1, s1, ?_⟩
      cases hpp : p ρ1 with
      | bad => rw [hpp] at q1; exact (show False from q1).elim
      | ex e ρ2 =>
        rw [hpp] at q1
        exact fun H' Hf'' e' s' => q1 σ1 H' Hf'' e' s'
      | ok b ρ2 =>
        rw [hpp] at q1
        intro b' H2 Hf2 e2 s2 hb'
        have hb' : b' = b := hb'
        subst hb'
        cases b' with
        | false => exact L2.iteF (PostS.nx (PostS.mono e2 q1) s2)
        | true =>
          refine L2.iteT ⟨fun σ' H' => ∃ Hf' ρ', Ex Hf Hf' ∧ SR X.K C Hf' H' σ' ρ' ∧ PostS X.K C Hf' (whileN p g m ρ') E, fun σ' H' w => ⟨m, Nat.lt_succ_self m, w⟩, Hf2, ρ2, s2, ?_⟩
          simp only [if_true] at q1
          have q2 := PostS.mono e2 q1
          cases hgb : g ρ2 with
          | nx ρ4 =>
            rw [hgb] at q2
            exact fun σ4 H4 Hf4 e4 s4 => ⟨Hf4, ρ4, (e1.trans e2).trans e4, s4, PostS.mono e4 q2⟩
          | ct ρ4 =>
            rw [hgb] at q2
            exact fun σ4 H4 Hf4 e4 s4 => ⟨Hf4, ρ4, (e1.trans e2).trans e4, s4, PostS.mono e4 q2⟩
          | bk ρ4 => rw [hgb] at q2; exact q2
          | rt x ρ4 => rw [hgb] at q2; exact q2
          | rl x ρ4 => rw [hgb] at q2; exact q2
          | ex e ρ4 => rw [hgb] at q2; exact q2
          | bad => rw [hgb] at q2; exact q2
end
end PD

set_option maxRecDepth 100000
set_option maxHeartbeats 4000000
set_option autoImplicit false
namespace PD
open PySem PySem.Spec L2
open Evl (Ex)

/-! ### comprehensions -/
def wipeD (ρ : DE) : List Nat → DE
  | [] => ρ
  | v :: vs => (wipeD ρ vs).set v none
def restoreD (ρ0 ρe : DE) : List Nat → DE
  | [] => ρe
  | v :: vs => (restoreD ρ0 ρe vs).set v (ρ0.getD v none)
def isOwnB (ρ : DE) (i : Nat) : Bool := match ρ[i]? with
  | some (some (.own _)) => true
  | some (some (.dct _)) => true
  | _ => false
theorem isOwnB_of {ρ : DE} {i : Nat} {l : LV} (h : ρ[i]? = some (some l)) (o : l.owned = true) : isOwnB ρ i = true := by
  unfold isOwnB
  rw [h]
  cases l with
  | d x => cases o
  | own xs => rfl
  | dct kvs => rfl
def cleanD (ρ : DE) (vs : List Nat) : Bool := vs.all fun j => !isOwnB ρ j
def lcLoop (vs : List Nat) (G : Gt) (tt : M Bool) (te : M D) : List D → List D → M (List D)
  | [], acc, ρ => .ok acc ρ
  | x :: r, acc, ρ => match G x ρ with
    | none => .bad
    | some ρ1 => match tt ρ1 with
      | .ok b ρ2 => if b = true then (match te ρ2 with
          | .ok y ρ3 => if acc.length < sizeLine then lcLoop vs G tt te r (acc ++ [y]) (wipeD ρ3 vs) else .bad
          | _ => .bad) else lcLoop vs G tt te r acc (wipeD ρ2 vs)
      | _ => .bad
def M.lc (it : M (List D)) (vs : List Nat) (G : Gt) (tt : M Bool) (te : M D) : M (List D) := M.bind it fun xs ρ1 =>
  if cleanD ρ1 vs = true then (match lcLoop vs G tt te xs [] (wipeD ρ1 vs) with
    | .ok ys ρe => .ok ys (restoreD ρ1 ρe vs)
    | _ => .bad) else .bad
section
variable {K : PySem.W.Frag} {C : Fc} {Hf H : Hp} {σ : L2.St} {ρ : DE}
theorem SR.clear (s : SR K C Hf H σ ρ) {i : Nat} (hp : ∀ q, C.io = some q → q.1 ≠ i) : SR K C Hf H (σ.set i none) (ρ.set i none) := by
  have old : ∀ {j} {y : LV}, (ρ.set i none)[j]? = some (some y) → i ≠ j ∧ ρ[j]? = some (some y) := fun {j y} h => by
    rcases get_set h with ⟨_, e, _⟩ | h
    · cases e
    · exact h
  refine ⟨by simpa using s.len, s.e0, s.e1, s.fresh, s.keep, fun q hq => ?_, s.no, fun j y hj => ?_, fun j xs hj oj => ?_, fun j k a hne ⟨xs, h1, o1⟩ ⟨ys, h2, o2⟩ h3 h4 => ?_⟩
  · have ne := hp q hq
    obtain ⟨h1, xs, h2⟩ := s.pin q hq
    exact ⟨by rw [List.getElem?_set_ne (Ne.symm ne)]; exact h1, xs, by rw [List.getElem?_set_ne (Ne.symm ne)]; exact h2⟩
  · obtain ⟨ne, hj⟩ := old hj
    obtain ⟨v', h1, h2⟩ := s.val j y hj
    exact ⟨v', by rw [List.getElem?_set_ne ne]; exact h1, h2⟩
  · obtain ⟨ne, hj⟩ := old hj
    obtain ⟨a, vs, h1, h2⟩ := s.ownd j xs hj oj
    exact ⟨a, vs, by rw [List.getElem?_set_ne ne]; exact h1, h2⟩
  · obtain ⟨n1, h1⟩ := old h1
    obtain ⟨n2, h2⟩ := old h2
    rw [List.getElem?_set_ne n1] at h3
    rw [List.getElem?_set_ne n2] at h4
    exact s.apart j k a hne ⟨xs, h1, o1⟩ ⟨ys, h2, o2⟩ h3 h4
theorem SR.wipe (s : SR K C Hf H σ ρ) : ∀ {vs : List Nat}, (∀ q, C.io = some q → q.1 ∉ vs) → SR K C Hf H (L2.wipe σ vs) (wipeD ρ vs)
  | [], _ => s
  | v :: vs, hp => (SR.wipe s (vs := vs) fun q hq h => hp q hq (List.mem_cons_of_mem _ h)).clear fun q hq h => hp q hq (by rw [h]; exact List.mem_cons_self)
abbrev Fc.hide (C : Fc) (a : Addr) (vs : HO) : Fc := { C with no := (a, vs) :: C.no }
theorem SR.hide (s : SR K C Hf H σ ρ) {a : Addr} {vs : HO} (h1 : Hf a = none) (h2 : H a = some vs) (h3 : ∀ j, IsOwn ρ j → σ[j]? ≠ some (some (.ref a))) : SR K (C.hide a vs) Hf H σ ρ :=
  ⟨s.len, s.e0, s.e1, s.fresh, s.keep, s.pin, fun p hp => by
    rcases List.mem_cons.mp hp with e | hp
    · subst e; exact ⟨h1, h2⟩
    · exact s.no p hp, s.val, fun i xs hi oi => by
    obtain ⟨b, us, g1, g2, g3, g4, g5, g6⟩ := s.ownd i xs hi oi
    refine ⟨b, us, g1, g2, g3, g4, g5, fun p hp => ?_⟩
    rcases List.mem_cons.mp hp with e | hp
    · subst e
      exact fun e => h3 i ⟨xs, hi, oi⟩ (by rw [g1, e])
    · exact g6 p hp, s.apart⟩
theorem SR.show_ {a : Addr} {vs : HO} (s : SR K (C.hide a vs) Hf H σ ρ) : SR K C Hf H σ ρ :=
  ⟨s.len, s.e0, s.e1, s.fresh, s.keep, s.pin, fun p hp => s.no p (List.mem_cons_of_mem _ hp), s.val, fun i xs hi oi => by
    obtain ⟨b, us, g1, g2, g3, g4, g5, g6⟩ := s.ownd i xs hi oi
    exact ⟨b, us, g1, g2, g3, g4, g5, fun p hp => g6 p (List.mem_cons_of_mem _ hp)⟩, s.apart⟩
theorem SR.rehide {a : Addr} {vs ws : HO} (s : SR K (C.hide a vs) Hf H σ ρ) (hno : ∀ p ∈ C.no, a ≠ p.1) (h0 : C.H0 a = none) : SR K (C.hide a ws) Hf (upd H a ws) σ ρ := by
  obtain ⟨n1, n2⟩ := s.no (a, vs) List.mem_cons_self
  refine ⟨s.len, s.e0, fun b o h => ?_, s.fresh, fun b o h q => ?_, s.pin, fun p hp => ?_, s.val, fun i xs hi oi => ?_, s.apart⟩
  · have nb : b ≠ a := fun e => by rw [e] at h; rw [n1] at h; cases h
    rw [upd_ne nb]
    exact s.e1 b o h
  · have nb : b ≠ a := fun e => by
      rw [e] at h
      have h : C.H0 a = some o := h
      rw [h0] at h; cases h
    rw [upd_ne nb]
    exact s.keep b o h q
  · rcases List.mem_cons.mp hp with e | hp
    · subst e; exact ⟨n1, upd_same⟩
    · obtain ⟨g1, g2⟩ := s.no p (List.mem_cons_of_mem _ hp)
      exact ⟨g1, by rw [upd_ne (Ne.symm (hno p hp))]; exact g2⟩
  · obtain ⟨b, us, g1, g2, g3, g4, g5, g6⟩ := s.ownd i xs hi oi
    have nb : b ≠ a := g6 (a, vs) List.mem_cons_self
    refine ⟨b, us, g1, g2, by rw [upd_ne nb]; exact g3, g4, g5, fun p hp => ?_⟩
    rcases List.mem_cons.mp hp with e | hp
    · subst e; exact nb
    · exact g6 p (List.mem_cons_of_mem _ hp)
theorem restore_in {ρ0 ρe : DE} : ∀ {vs : List Nat} {i : Nat} {y : Option LV}, (restoreD ρ0 ρe vs)[i]? = some y → (i ∈ vs ∧ y = ρ0.getD i none) ∨ (i ∉ vs ∧ ρe[i]? = some y)
  | [], i, y, h => .inr ⟨by simp, h⟩
  | v :: vs, i, y, h => by
    rcases get_set h with ⟨e, e2, _⟩ | ⟨ne, h⟩
    · subst e
      exact .inl ⟨List.mem_cons_self, e2⟩
    · rcases restore_in h with ⟨h1, h2⟩ | ⟨h1, h2⟩
      · exact .inl ⟨List.mem_cons_of_mem _ h1, h2⟩
      · exact .inr ⟨by simp only [List.mem_cons, not_or]; exact ⟨Ne.symm ne, h1⟩, h2⟩
theorem restore_out {ρ0 ρe : DE} : ∀ {vs : List Nat} {i : Nat}, i ∉ vs → (restoreD ρ0 ρe vs)[i]? = ρe[i]?
  | [], i, _ => rfl
  | v :: vs, i, h => by
    simp only [List.mem_cons, not_or] at h
    show ((restoreD ρ0 ρe vs).set v _)[i]? = _
    rw [List.getElem?_set_ne (Ne.symm h.1), restore_out h.2]
theorem restore_len {ρ0 ρe : DE} : ∀ {vs : List Nat}, (restoreD ρ0 ρe vs).length = ρe.length
  | [] => rfl
  | v :: vs => by
    show ((restoreD ρ0 ρe vs).set v _).length = _
    rw [List.length_set, restore_len]
theorem wipe_out {σ : L2.St} : ∀ {vs : List Nat} {i : Nat}, i ∉ vs → (L2.wipe σ vs)[i]? = σ[i]?
  | [], i, _ => rfl
  | v :: vs, i, h => by
    simp only [List.mem_cons, not_or] at h
    show ((L2.wipe σ vs).set v none)[i]? = _
    rw [List.getElem?_set_ne (Ne.symm h.1), wipe_out h.2]
theorem wipe_at {σ : L2.St} : ∀ {vs : List Nat} {i : Nat}, i ∈ vs → i < σ.length → (L2.wipe σ vs)[i]? = some none
  | v :: vs, i, h, hl => by
    show ((L2.wipe σ vs).set v none)[i]? = _
    by_cases e : v = i
    · subst e
      rw [List.getElem?_set_self (by rw [L2.wipe_length]; exact hl)]
    · rw [List.getElem?_set_ne e]
      rcases List.mem_cons.mp h with h | h
      · exact absurd h.symm e
      · exact wipe_at h hl
theorem wipe_eq {σ σ2 : L2.St} {vs : List Nat} (hl : σ2.length = σ.length) (h : ∀ i : Nat, i ∉ vs → σ2[i]? = σ[i]?) : L2.wipe σ2 vs = L2.wipe σ vs := by
  refine List.ext_getElem? fun i => ?_
  by_cases hi : i ∈ vs
  · by_cases hb : i < σ.length
    · rw [wipe_at hi hb, wipe_at hi (by rw [hl]; exact hb)]
    · rw [List.getElem?_eq_none (by rw [L2.wipe_length]; omega), List.getElem?_eq_none (by rw [L2.wipe_length]; omega)]
  · rw [wipe_out hi, wipe_out hi, h i hi]
theorem SR.restore {Hf1 H1 : Hp} {ρ1 ρe : DE} {vs : List Nat} (s1 : SR K C Hf1 H1 σ ρ1) (e : Ex Hf1 Hf) (s : SR K C Hf H (L2.wipe σ vs) ρe) (hc : cleanD ρ1 vs = true) (hp : ∀ q, C.io = some q → q.1 ∉ vs) : SR K C Hf H σ (restoreD ρ1 ρe vs) := by
  have own' : ∀ {i} {l : LV}, (restoreD ρ1 ρe vs)[i]? = some (some l) → l.owned = true → i ∉ vs ∧ ρe[i]? = some (some l) := fun {i l} h o => by
    rcases restore_in h with ⟨h1, h2⟩ | h
    · unfold cleanD at hc
      have := List.all_eq_true.mp hc i h1
      have e : ρ1[i]? = some (some l) := by
        rw [List.getD_eq_getElem?_getD] at h2
        cases q : ρ1[i]? with
        | none => rw [q] at h2; cases h2
        | some y => rw [q] at h2; exact congrArg some h2.symm
      rw [isOwnB_of e o] at this
      cases this
    · exact h
  refine ⟨by rw [restore_len, ← s.len, L2.wipe_length], s.e0, s.e1, s.fresh, s.keep, fun q hq => ?_, s.no, fun i x hi => ?_, fun i xs hi oi => ?_, fun i j a hne ⟨xs, h1, o1⟩ ⟨ys, h2, o2⟩ h3 h4 => ?_⟩
  · obtain ⟨h1, xs, h2⟩ := s.pin q hq
    exact ⟨(L2.wipe_some h1).1, xs, by rw [restore_out (hp q hq)]; exact h2⟩
  · rcases restore_in hi with ⟨h1, h2⟩ | ⟨h1, h2⟩
    · have e' : ρ1[i]? = some (some (LV.d x)) := by
        rw [List.getD_eq_getElem?_getD] at h2
        cases q : ρ1[i]? with
        | none => rw [q] at h2; cases h2
        | some y => rw [q] at h2; exact congrArg some h2.symm
      obtain ⟨v, g1, g2⟩ := s1.val i x e'
      exact ⟨v, g1, Dp.mono e _ _ g2⟩
    · obtain ⟨v, g1, g2⟩ := s.val i x h2
      exact ⟨v, by rw [wipe_out h1] at g1; exact g1, g2⟩
  · obtain ⟨h1, h2⟩ := own' hi oi
    obtain ⟨a, us, g1, g2⟩ := s.ownd i xs h2 oi
    exact ⟨a, us, by rw [wipe_out h1] at g1; exact g1, g2⟩
  · obtain ⟨n1, h1⟩ := own' h1 o1
    obtain ⟨n2, h2⟩ := own' h2 o2
    exact s.apart i j a hne ⟨xs, h1, o1⟩ ⟨ys, h2, o2⟩ (by rw [wipe_out n1]; exact h3) (by rw [wipe_out n2]; exact h4)
end
/-- what does not change within: the caller's list, the World -/
def _root_.PD.Fc.sg (C : Fc) : Option (Nat × Addr) × World := (C.io, C.w)
/-- whatever lists are being made around -/
def gX (K : PySem.W.Frag) (io : Option (Nat × Addr) × World) (G : Gt) (sl : List Nat) : TG := fun v σ H Q => ∃ C : Fc, C.sg = io ∧ gD K C G sl v σ H Q
def tX {α β : Type} (K : PySem.W.Frag) (io : Option (Nat × Addr) × World) (rel : L2.St → Hp → Hp → DE → β → α → Prop) (f : M α) : L2.St → Hp → (β → Hp → Prop) → Prop := fun σ H Q => ∃ C : Fc, C.sg = io ∧ tG K C rel f σ H Q
theorem pg_any {X : Cx} {io : Option (Nat × Addr) × World} {tg : Expr} {G : Gt} {sl : List Nat} (h : ∀ C : Fc, C.sg = io → PDg X C tg G sl) : PG X tg (gX X.K io G sl) := ⟨fun pins s σ H v u Q I r ⟨C, e, q⟩ => (h C e).run pins s σ H v u Q I r q⟩
theorem pe_any {X : Cx} {io : Option (Nat × Addr) × World} {e : Expr} {f : M D} (h : ∀ C : Fc, C.sg = io → PDe X C e f) : PE X e (tX X.K io (relD X.K) f) := ⟨fun pins s σ H Q I ⟨C, ee, q⟩ => (h C ee).run pins s σ H Q I q⟩
def PDts (X : Cx) (C : Fc) (ifs : List Expr) (p : M Bool) : Prop := PTs X ifs (tG X.K C relB p)
theorem pdts_nil {X : Cx} {C : Fc} : PDts X C [] (M.ret true) := ⟨fun pins sh σ H Q I ⟨Hf, ρ, s, q⟩ => pts_nil.run pins sh σ H Q I (PostG.now (b := true) q s rfl)⟩
theorem pdts_one {X : Cx} {C : Fc} {c : Expr} {p : M Bool} (h : PDt X C c p) : PDts X C [c] p := pts_one h
theorem pts_any {X : Cx} {io : Option (Nat × Addr) × World} {ifs : List Expr} {p : M Bool} (h : ∀ C : Fc, C.sg = io → PDts X C ifs p) : PTs X ifs (tX X.K io relB p) := ⟨fun pins s σ H Q I ⟨C, ee, q⟩ => (h C ee).run pins s σ H Q I q⟩
section
variable {X : Cx} {C : Fc} {pos : Pos} {tg iter elt : Expr} {ifs : List Expr} {scope : Scope} {own : List (Str × Nat)} {it : M (List D)} {G : Gt} {sl : List Nat} {tt : M Bool} {te : M D}
theorem lc_go {vs : List Nat} (hp : ∀ q, C.io = some q → q.1 ∉ vs) (hsl : ∀ j ∈ sl, j ∈ vs) {σ : L2.St} {H : Hp} {Q : VK} (h : tG X.K C (relL X.K C) (M.lc it vs G tt te) σ H Q) :
    tLc (tG X.K C (relI X.K) it) (gX X.K C.sg G sl) (tX X.K C.sg relB tt) (tX X.K C.sg (relD X.K) te) vs σ H Q := by
  obtain ⟨Hf, ρ, s, h⟩ := h
  refine tG_bind s h fun J xs H1 Hf1 ρ1 e1 s1 r1 h1 => ?_
  obtain ⟨rgo, rstop⟩ := r1
  intro Dl hD
  by_cases hcl : cleanD ρ1 vs = true
  case neg => rw [if_neg hcl] at h1; exact (show False from h1).elim
  rw [if_pos hcl] at h1
  cases hfin : lcLoop vs G tt te xs [] (wipeD ρ1 vs) with
  | ex e ρe => rw [hfin] at h1; exact (show False from h1).elim
  | bad => rw [hfin] at h1; exact (show False from h1).elim
  | ok ys ρe =>
    rw [hfin] at h1
    have hno : ∀ p ∈ C.no, Dl ≠ p.1 := fun p hp e => by
      obtain ⟨_, g⟩ := s1.no p hp
      rw [e, g] at hD
      cases hD
    have h0 := s1.h0 hD
    have nf : Hf1 Dl = none := Evl.fresh_back s1.e1 hD
    have sW : SR X.K (C.hide Dl (.lst [])) Hf1 (upd H1 Dl (.lst [])) (L2.wipe σ vs) (wipeD ρ1 vs) := by
      have g := s1.grow (Grow.mine (o := .lst []) s1.e1 hD)
      refine (g.wipe hp).hide nf upd_same fun j ⟨zs, hj, oj⟩ hr => ?_
      obtain ⟨a, us, g1, _, g3, _⟩ := (s1.wipe hp).ownd j zs hj oj
      rw [hr] at g1
      cases g1
      rw [hD] at g3
      cases g3
    refine ⟨fun i m H => ∃ Hf ρ vacc acc, Ex Hf1 Hf ∧ SR X.K (C.hide Dl (.lst vacc)) Hf H (L2.wipe σ vs) ρ ∧ DpAll X.K Hf vacc acc ∧ i ≤ xs.length ∧ m = xs.length - i ∧ lcLoop vs G tt te (xs.drop i) acc ρ = .ok ys ρe,
      ⟨xs.length, Hf1, _, [], [], Ex.refl _, sW, .nil, Nat.zero_le _, rfl, hfin⟩, ?_⟩
    rintro i m H2 ⟨Hf2, ρ2, vacc, acc, e2, s2, da, hi, rfl, hl⟩
    obtain ⟨n1, n2⟩ := s2.no (Dl, .lst vacc) List.mem_cons_self
    by_cases hlt : i < xs.length
    · have hx : xs[i]? = some xs[i] := List.getElem?_eq_getElem hlt
      obtain ⟨go, yl⟩ := rgo i Hf2 H2 _ e2 s2.e1 hx
      rw [List.drop_eq_getElem_cons hlt] at hl
      unfold lcLoop at hl
      refine .inr ⟨go, fun H' => ∃ Hf ρ vacc acc, Ex Hf1 Hf ∧ SR X.K (C.hide Dl (.lst vacc)) Hf H' (L2.wipe σ vs) ρ ∧ DpAll X.K Hf vacc acc ∧ lcLoop vs G tt te (xs.drop (i + 1)) acc ρ = .ok ys ρe,
        fun H' ⟨Hf', ρ', va', ac', a1, a2, a3, a4⟩ => ⟨xs.length - (i + 1), by omega, Hf', ρ', va', ac', a1, a2, a3, hlt, rfl, a4⟩, fun v H' y => ?_⟩
      obtain ⟨Hf3, gr, d3⟩ := yl v H' y
      cases hG : G xs[i] ρ2 with
      | none => rw [hG] at hl; cases hl
      | some ρ3 =>
        rw [hG] at hl
        simp only at hl
        refine ⟨C.hide Dl (.lst vacc), rfl, Hf3, ρ2, xs[i], ρ3, s2.grow gr, d3, hG, fun σ3 s3 l3 o3 => ?_⟩
        have hw : L2.wipe σ3 vs = L2.wipe σ vs := by
          rw [wipe_eq (σ := L2.wipe σ vs) (vs := vs) l3 fun i hi => o3 i fun h => hi (hsl i h)]
          exact wipe_eq (L2.wipe_length σ vs) fun i hi => wipe_out hi
        refine ⟨hw, C.hide Dl (.lst vacc), rfl, Hf3, ρ3, s3, ?_⟩
        cases htt : tt ρ3 with
        | ex e ρ4 => rw [htt] at hl; cases hl
        | bad => rw [htt] at hl; cases hl
        | ok b ρ4 =>
          rw [htt] at hl
          simp only at hl
          intro b' H4 Hf4 e4 s4 hb'
          have hb' : b' = b := hb'
          subst hb'
          cases b' with
          | false =>
            simp only [Bool.false_eq_true, if_false] at hl ⊢
            have s5 := s4.wipe (vs := vs) hp
            rw [hw] at s5
            exact ⟨Hf4, _, vacc, acc, (e2.trans gr.f).trans e4, s5, DpAll.mono (gr.f.trans e4) _ _ da, hl⟩
          | true =>
            simp only [if_true] at hl ⊢
            refine ⟨C.hide Dl (.lst vacc), rfl, Hf4, ρ4, s4, ?_⟩
            cases hte : te ρ4 with
            | ex e ρ5 => rw [hte] at hl; cases hl
            | bad => rw [hte] at hl; cases hl
            | ok y ρ5 =>
              rw [hte] at hl
              simp only at hl
              split at hl
              · rename_i hacc
                intro w H5 Hf5 e5 s5 d5
                have d5 : Dp X.K Hf5 w y := d5
                have da5 := DpAll.mono ((gr.f.trans e4).trans e5) _ _ da
                obtain ⟨m1, m2⟩ := s5.no (Dl, .lst vacc) List.mem_cons_self
                refine ⟨vacc, m2, by rw [da.length]; exact hacc, ?_⟩
                have s6 := s5.rehide (ws := .lst (vacc ++ [w])) hno h0
                have s7 := s6.wipe (vs := vs) hp
                rw [hw] at s7
                exact ⟨Hf5, _, vacc ++ [w], acc ++ [y], ((e2.trans gr.f).trans e4).trans e5, s7, da5.append (.cons d5 .nil), hl⟩
              · cases hl
    · have e : i = xs.length := by omega
      subst e
      rw [List.drop_length] at hl
      unfold lcLoop at hl
      cases hl
      refine .inl ⟨rstop _ Hf2 H2 e2 s2.e1 (Nat.le_refl _), ?_⟩
      refine h1 (.ref Dl) H2 Hf2 e2 (s1.restore e2 s2.show_ hcl hp) ⟨Dl, vacc, rfl, n1, n2, da, h0, hno, fun j ⟨zs, hj, oj⟩ hr => ?_⟩
      rcases restore_in hj with ⟨g1, g2⟩ | ⟨g1, g2⟩
      · have := List.all_eq_true.mp hcl j g1
        rw [List.getD_eq_getElem?_getD] at g2
        cases q : ρ1[j]? with
        | none => rw [q] at g2; cases g2
        | some y =>
          rw [q] at g2
          have g2 : some zs = y := g2
          subst g2
          rw [isOwnB_of q oj] at this
          cases this
      · obtain ⟨a, us, a1, _, _, _, _, a6⟩ := s2.ownd j zs g2 oj
        rw [wipe_out g1, hr] at a1
        cases a1
        exact a6 (Dl, .lst vacc) List.mem_cons_self rfl
theorem pdl_lc (hp : ∀ q, C.io = some q → q.1 ∉ own.map (·.2)) (hsl : ∀ j ∈ sl, j ∈ own.map (·.2)) (hc : X.calm = true) (hN : X.N.Nodup) (ok : BlkOk X.N X.env.scope scope own) (hi : PDi X C tg iter it)
    (hg : ∀ (C' : Fc), C'.sg = C.sg → ∀ (s : Shared) (H : Hp) (Cc : Addr) (cl : List (Str × Addr)) (fp : List Addr), PDg (X.blk s H scope (compEnvC scope cl Cc X.env) fp) C' tg G sl)
    (ht : ∀ (C' : Fc), C'.sg = C.sg → ∀ (s : Shared) (H : Hp) (Cc : Addr) (cl : List (Str × Addr)) (fp : List Addr), PDts (X.blk s H scope (compEnvC scope cl Cc X.env) fp) C' ifs tt)
    (he : ∀ (C' : Fc), C'.sg = C.sg → ∀ (s : Shared) (H : Hp) (Cc : Addr) (cl : List (Str × Addr)) (fp : List Addr), PDe (X.blk s H scope (compEnvC scope cl Cc X.env) fp) C' elt te) (hs : ∀ x, foldedSetIterable iter X.env x = pure x := by intro _; rfl) :
    PDl X C (.ListComp elt [⟨tg, iter, ifs, 0⟩] scope pos) (M.lc it (own.map (·.2)) G tt te) :=
  pe_imp (pe_lc hc hN hi ok (fun s H Cc cl fp => pg_any fun C' e => hg C' e s H Cc cl fp) (fun s H Cc cl fp => pts_any fun C' e => ht C' e s H Cc cl fp) (fun s H Cc cl fp => pe_any fun C' e => he C' e s H Cc cl fp) hs) fun _ _ _ h => lc_go hp hsl h
/-- name = [..] -/
theorem pd_setLc {i : Nat} {y : Str} {py spos : Pos} (hpi : ∀ q, C.io = some q → q.1 ≠ i) (hp : ∀ q, C.io = some q → q.1 ∉ own.map (·.2)) (hsl : ∀ j ∈ sl, j ∈ own.map (·.2)) (hc : X.calm = true) (hN : X.N.Nodup) (ok : BlkOk X.N X.env.scope scope own) (hi : PDi X C tg iter it)
    (hg : ∀ (C' : Fc), C'.sg = C.sg → ∀ (s : Shared) (H : Hp) (Cc : Addr) (cl : List (Str × Addr)) (fp : List Addr), PDg (X.blk s H scope (compEnvC scope cl Cc X.env) fp) C' tg G sl)
    (ht : ∀ (C' : Fc), C'.sg = C.sg → ∀ (s : Shared) (H : Hp) (Cc : Addr) (cl : List (Str × Addr)) (fp : List Addr), PDts (X.blk s H scope (compEnvC scope cl Cc X.env) fp) C' ifs tt)
    (he : ∀ (C' : Fc), C'.sg = C.sg → ∀ (s : Shared) (H : Hp) (Cc : Addr) (cl : List (Str × Addr)) (fp : List Addr), PDe (X.blk s H scope (compEnvC scope cl Cc X.env) fp) C' elt te)
    (hsw : swapsWith (.ListComp elt [⟨tg, iter, ifs, 0⟩] scope pos) (some (.Name y py)) spos.line X.env = pure true)
    (hy : X.N[i]? = some y := by rfl) (hyl : X.env.scope.names.lookup y = some .local := by rfl)
    (hs : ∀ x, foldedSetIterable iter X.env x = pure x := by intro _; rfl) :
    PDs X C (.Assign [.Name y py] (.ListComp elt [⟨tg, iter, ifs, 0⟩] scope pos) spos) (S.own i (M.lc it (own.map (·.2)) G tt te)) :=
  ps_imp (ps_setLc hc hN hy hyl hsw hi ok (fun s H Cc cl fp => pg_any fun C' e => hg C' e s H Cc cl fp) (fun s H Cc cl fp => pts_any fun C' e => ht C' e s H Cc cl fp) (fun s H Cc cl fp => pe_any fun C' e => he C' e s H Cc cl fp) hs) fun E σ H ⟨Hf, ρ, s, q⟩ => by
    refine lc_go (it := it) (G := G) (sl := sl) (tt := tt) (te := te) hp hsl ⟨Hf, ρ, s, ?_⟩
    unfold S.own S.ofM at q
    cases hf : M.lc it (own.map (·.2)) G tt te ρ with
    | ok x ρ1 =>
      rw [hf] at q
      intro v H1 Hf1 e1 s1 d1
      obtain ⟨a, vs, rfl, g1, g2, g3, g4, g5, g6⟩ := d1
      exact PostS.nx (PostS.mono e1 q) (s1.setO g1 g2 g3 g4 g5 g6 hpi)
    | ex e ρ1 =>
      rw [hf] at q
      exact fun H' Hf'' e' s' => q σ H' Hf'' e' s'
    | bad => rw [hf] at q; exact q
/-- return of the list at a slot of ours -/
def S.retO (i : Nat) : MS := fun ρ => match ownAt ρ i with
  | some xs => .rl xs (ρ.set i none)
  | none => .bad
theorem pd_retO (i : Nat) {x : Str} {px : Pos} (hp : ∀ q, C.io = some q → q.1 ≠ i) (hN : X.N[i]? = some x := by rfl) (hv : Vis X.env.scope x := by first | exact Or.inl rfl | exact Or.inr (Or.inl rfl) | exact Or.inr (Or.inr rfl)) (hd : (x == ("__debug__" : Str)) = false := by decide)
    (hcd : (x == ("__classdict__" : Str)) = false := by decide) : PDs X C (.Return (some (.Name x px)) pos) (S.retO i) := ps_imp (ps_ret (pe_var hN hv hd hcd)) fun E σ H ⟨Hf, ρ, s, q⟩ => by
  unfold S.retO at q
  cases ho : ownAt ρ i with
  | none => rw [ho] at q; exact (show False from q).elim
  | some xs =>
    rw [ho] at q
    have hi := ownAt_get ho
    obtain ⟨a, us, g1, g2, g3, g4, g5, g6⟩ := s.own i xs hi
    refine ⟨.ref a, g1, q a us _ H Hf (Ex.refl _) (s.clear hp) g2 g3 g4 ?_⟩
    rcases g5 with g5 | ⟨q', h1, h2⟩
    · exact g5
    · obtain ⟨z1, zs, z2⟩ := s.pin q' h1
      exact absurd z1 fun z1 => s.apart i q'.1 a (Ne.symm (hp q' h1)) ⟨_, hi, rfl⟩ ⟨_, z2, rfl⟩ g1 (by rw [h2]; exact z1)
end
end PD

set_option maxRecDepth 100000
set_option maxHeartbeats 4000000
set_option autoImplicit false
namespace PD
open PySem PySem.Spec L2
open Evl (Ex)

/-! ### a def's promise -/
/-- what a def gives: a value, and what its own list holds then -/
inductive FR where
  | ret (x : D) (o : Option (List D))
  | retL (xs : List D) (o : Option (List D))
  | ex (e : EV) (o : Option (List D))
  | bad
def outO (io : Option Nat) (ρ : DE) : Option (List D) := match io with
  | none => none
  | some k => ownAt ρ k
def okIo (io : Option Nat) : Nat → List LV → Bool
  | _, [] => true
  | n, .d _ :: r => (match io with | some k => decide (k ≠ n) | none => true) && okIo io (n + 1) r
  | n, .own _ :: r => (match io with | some k => decide (k = n) | none => false) && okIo io (n + 1) r
  | _, .dct _ :: _ => false
def runF (np n : Nat) (io : Option Nat) (g : MS) (lvs : List LV) : FR :=
  if lvs.length = np ∧ okIo io 0 lvs = true ∧ (∀ k, io = some k → k < np) then (match g (lvs.map some ++ List.replicate (n - np) none) with
    | .rt x ρ => .ret x (outO io ρ)
    | .rl x ρ => .retL x (outO io ρ)
    | .nx ρ => .ret .none (outO io ρ)
    | .ex e ρ => .ex e (outO io ρ)
    | _ => .bad) else .bad
def ioA (io : Option Nat) (vs : List V) : Option (Nat × Addr) := match io with
  | none => none
  | some k => match vs[k]? with
    | some (.ref a) => some (k, a)
    | _ => none
section
variable (K : PySem.W.Frag)
/-- the arguments -/
def AOk (Hf H : Hp) (io : Option Nat) (vs : List V) (lvs : List LV) : Prop := vs.length = lvs.length ∧ ∀ (i : Nat) (lv : LV), lvs[i]? = some lv → ∃ v, vs[i]? = some v ∧ match lv with
  | .d x => Dp K Hf v x
  | .own xs => io = some i ∧ ∃ a us, v = .ref a ∧ Hf a = none ∧ H a = some (.lst us) ∧ DpAll K Hf us xs
  | .dct _ => False
def OutOk (Hf H : Hp) (q : Option (Nat × Addr)) (o : Option (List D)) : Prop := match q, o with
  | some q, some xs => Hf q.2 = none ∧ ∃ us, H q.2 = some (.lst us) ∧ DpAll K Hf us xs
  | none, _ => True
  | _, _ => False
def spF (io : Option Nat) (F : List LV → FR) : Sp := fun vs H Q E => ∃ Hf lvs, Ex Hf H ∧ AOk K Hf H io vs lvs ∧ match F lvs with
  | .ret x o => ∀ (v : V) (H' Hf' : Hp), Ex Hf Hf' → Ex Hf' H' → (∀ b u, Hf' b = some u → Hf b = some u ∨ H b = none) → (∀ b u, H b = some u → (∀ q, ioA io vs = some q → b ≠ q.2) → H' b = some u) → OutOk K Hf' H' (ioA io vs) o → Dp K Hf' v x → Q v H'
  | .retL xs o => ∀ (a : Addr) (us : List V) (H' Hf' : Hp), Ex Hf Hf' → Ex Hf' H' → (∀ b u, Hf' b = some u → Hf b = some u ∨ H b = none) → (∀ b u, H b = some u → (∀ q, ioA io vs = some q → b ≠ q.2) → H' b = some u) → OutOk K Hf' H' (ioA io vs) o → Hf' a = none → H' a = some (.lst us) → DpAll K Hf' us xs → H a = none → Q (.ref a) H'
  | .ex _ _ => False
  | .bad => False
end
theorem io_ne {io : Option Nat} {C : Fc} (h : ∀ q, C.io = some q → io = some q.1) {i : Nat} (e : io ≠ some i := by decide) : ∀ q, C.io = some q → q.1 ≠ i := fun q hq z => e ((h q hq).trans (congrArg some z))
def ioOut (io : Option Nat) (l : List Nat) : Bool := match io with
  | some k => decide (k ∉ l)
  | none => true
theorem io_nin {io : Option Nat} {C : Fc} (h : ∀ q, C.io = some q → io = some q.1) {l : List Nat} (e : ioOut io l = true := by decide) : ∀ q, C.io = some q → q.1 ∉ l := fun q hq z => by
  rw [h q hq] at e
  exact (of_decide_eq_true (show decide (q.1 ∉ l) = true from e)) z
theorem io_eq {io : Option Nat} {C C' : Fc} (h : ∀ q, C.io = some q → io = some q.1) (e : C'.sg = C.sg) : ∀ q, C'.io = some q → io = some q.1 := fun q hq => h q ((congrArg Prod.fst e).symm.trans hq)
theorem w_eq {w : World} {C C' : Fc} (h : C.w = w) (e : C'.sg = C.sg) : C'.w = w := (congrArg Prod.snd e).trans h
theorem io_no {io : Option Nat} {C : Fc} (e : C.io = none) : ∀ q, C.io = some q → io = some q.1 := fun q hq => by rw [e] at hq; cases hq
section
variable {P : Program} {w : World} {K : PySem.W.Frag} {mg : Str → Option Value} {base : Heap}
theorem okIo_d {io : Option Nat} {k : Nat} (hio : io = some k) : ∀ {lvs : List LV} {n : Nat}, okIo io n lvs = true → n ≤ k → k < n + lvs.length → ∃ xs, lvs[k - n]? = some (.own xs)
  | [], n, _, h1, h2 => by simp at h2; omega
  | .d x :: r, n, h, h1, h2 => by
    unfold okIo at h
    rw [hio] at h
    simp only [Bool.and_eq_true, decide_eq_true_eq] at h
    obtain ⟨xs, e⟩ := okIo_d hio (lvs := r) (n := n + 1) (by rw [hio]; exact h.2) (by omega) (by simp at h2; omega)
    refine ⟨xs, ?_⟩
    have : k - n = (k - (n + 1)) + 1 := by omega
    rw [this]
    simpa using e
  | .own xs :: r, n, h, h1, h2 => by
    unfold okIo at h
    rw [hio] at h
    simp only [Bool.and_eq_true, decide_eq_true_eq] at h
    exact ⟨xs, by rw [h.1, Nat.sub_self]; rfl⟩
/-- THE RULE for a def, over data -/
theorem fn_pd {x qual : Str} {st : Stmt} {f : Addr} {fd : FuncData} {N ps : List Str} {k : Nat} {io : Option Nat} {g : MS} (F : Fun K x qual st f fd) (S : FnScope N ps (defScope st)) (hN : ps.length ≤ N.length)
    (hbody : ∀ (cdv : Value) (A : Around) (outer : List Env) (s : Shared) (H : Hp) (E : XK) (C : Fc), Room k (A.deeper (PyProof.Rows.envOfC qual (defScope st) s.heap.objs.size f cdv)) → (∀ q, C.io = some q → io = some q.1) → C.w = w →
      PDss (cxOf CX0 P w K mg base N qual (defScope st) f cdv A outer s H E).nox C (defBody st) g) : FnOk P w K mg base CX0 (k + 1) f fd ps (spF K io (runF ps.length N.length io g)) := by
  refine F.ok S (fun vs H Q E h => ?_) (fun cdv A outer s H vs Q E hr h => ?_)
  · obtain ⟨Hf, lvs, _, ha, h⟩ := h
    rw [ha.1]
    unfold runF at h
    split at h
    · rename_i heq
      split at heq
      · rename_i hc; exact hc.1
      · cases heq
    · rename_i heq
      split at heq
      · rename_i hc; exact hc.1
      · cases heq
    · exact h.elim
    · exact h.elim
  · obtain ⟨Hf, lvs, hex, ha, h⟩ := h
    obtain ⟨hl, ha⟩ := ha
    unfold runF at h
    by_cases hc : lvs.length = ps.length ∧ okIo io 0 lvs = true ∧ (∀ k, io = some k → k < ps.length)
    case neg => rw [if_neg hc] at h; exact (show False from h).elim
    rw [if_pos hc] at h
    have hC : ∀ q, (ioA io vs) = some q → io = some q.1 ∧ vs[q.1]? = some (.ref q.2) := fun q hq => by
      unfold ioA at hq
      split at hq
      · cases hq
      · split at hq
        · cases hq
          rename_i hv
          exact ⟨rfl, hv⟩
        · cases hq
    have hσ : ∀ {i : Nat} {v : V}, vs[i]? = some v → (L2.start N vs)[i]? = some (some v) := fun {i v} e => by
      unfold L2.start
      rw [List.getElem?_append_left (by rw [List.length_map]; exact (List.getElem?_eq_some_iff.mp e).1), List.getElem?_map, e]
      rfl
    have hρ : ∀ {i : Nat} {lv : LV}, (lvs.map some ++ List.replicate (N.length - ps.length) none)[i]? = some (some lv) → lvs[i]? = some lv := fun {i lv} e => by
      by_cases hi : i < lvs.length
      · rw [List.getElem?_append_left (by rw [List.length_map]; exact hi), List.getElem?_map] at e
        cases q : lvs[i]? with
        | none => rw [q] at e; cases e
        | some y => rw [q] at e; cases e; rfl
      · rw [List.getElem?_append_right (by rw [List.length_map]; omega), List.getElem?_replicate] at e
        split at e <;> cases e
    have hρ2 : ∀ {i : Nat} {lv : LV}, lvs[i]? = some lv → (lvs.map some ++ List.replicate (N.length - ps.length) none)[i]? = some (some lv) := fun {i lv} e => by
      rw [List.getElem?_append_left (by rw [List.length_map]; exact (List.getElem?_eq_some_iff.mp e).1), List.getElem?_map, e]
      rfl
    have only : ∀ {i : Nat}, IsOwn (lvs.map some ++ List.replicate (N.length - ps.length) none) i → io = some i := fun {i} ⟨xs, e, o⟩ => by
      cases xs with
      | d x => cases o
      | own xs =>
        obtain ⟨v, _, h1, _⟩ := ha i _ (hρ e)
        exact h1
      | dct kvs =>
        obtain ⟨v, _, h1⟩ := ha i _ (hρ e)
        exact h1.elim
    have S0 : SR K ⟨Hf, H, ioA io vs, [], fun _ _ => False, w⟩ Hf H (L2.start N vs) (lvs.map some ++ List.replicate (N.length - ps.length) none) := by
      refine ⟨?_, Ex.refl _, hex, fun b o e => .inl e, fun b o e _ => e, fun q hq => ?_, (fun p hp => by cases hp), fun i y e => ?_, fun i xs e oi => ?_, fun i j a hne h1 h2 _ _ => ?_⟩
      · unfold L2.start
        simp only [List.length_append, List.length_map, List.length_replicate]
        omega
      · obtain ⟨h1, h2⟩ := hC q hq
        refine ⟨hσ h2, ?_⟩
        obtain ⟨xs, e⟩ := okIo_d h1 hc.2.1 (Nat.zero_le _) (by have := hc.2.2 _ h1; omega)
        exact ⟨xs, hρ2 (by simpa using e)⟩
      · obtain ⟨v, h1, h2⟩ := ha i _ (hρ e)
        exact ⟨v, hσ h1, h2⟩
      · cases xs with
        | d x => cases oi
        | own xs =>
          obtain ⟨v, h1, h2, a, us, rfl, h3, h4, h5⟩ := ha i _ (hρ e)
          refine ⟨a, _, hσ h1, h3, h4, ⟨us, rfl, h5⟩, .inr ⟨(i, a), ?_, rfl⟩, fun p hp => by cases hp⟩
          show ioA io vs = _
          unfold ioA
          rw [h2]
          simp only [h1]
        | dct kvs =>
          obtain ⟨v, _, h1⟩ := ha i _ (hρ e)
          exact h1.elim
      · exact hne (Option.some.inj ((only h1).symm.trans (only h2)))
    refine ⟨_, hbody cdv A outer s H E ⟨Hf, H, ioA io vs, [], fun _ _ => False, w⟩ hr (fun q hq => (hC q hq).1) rfl, Hf, _, S0, ?_⟩
    have out : ∀ {σ' : L2.St} {H' Hf' : Hp} {ρ' : DE}, SR K ⟨Hf, H, ioA io vs, [], fun _ _ => False, w⟩ Hf' H' σ' ρ' → OutOk K Hf' H' (ioA io vs) (outO io ρ') := fun {σ' H' Hf' ρ'} s' => by
      unfold OutOk
      cases hq : ioA io vs with
      | none => exact True.intro
      | some q =>
        obtain ⟨h1, h2⟩ := hC q hq
        obtain ⟨g1, xs, g2⟩ := s'.pin q hq
        obtain ⟨a, us, a1, a2, a3, a4, _⟩ := s'.own _ _ g2
        rw [g1] at a1
        cases a1
        have e : outO io ρ' = some xs := by
          unfold outO
          rw [h1]
          simp only [ownAt, g2]
        rw [e]
        exact ⟨a2, us, a3, a4⟩
    cases hg : g (lvs.map some ++ List.replicate (N.length - ps.length) none) with
    | nx ρ' =>
      rw [hg] at h
      exact fun σ' H' Hf' e' s' => h .non H' Hf' e' s'.e1 s'.fresh s'.keep (out s') .non
    | rt y ρ' =>
      rw [hg] at h
      exact fun v σ' H' Hf' e' s' d => h v H' Hf' e' s'.e1 s'.fresh s'.keep (out s') d
    | rl y ρ' =>
      rw [hg] at h
      exact fun a us σ' H' Hf' e' s' z1 z2 z3 z4 => h a us H' Hf' e' s'.e1 s'.fresh s'.keep (out s') z1 z2 z3 z4
    | bk ρ' => rw [hg] at h; exact (show False from h).elim
    | ct ρ' => rw [hg] at h; exact (show False from h).elim
    | ex e ρ' => rw [hg] at h; exact (show False from h).elim
    | bad => rw [hg] at h; exact (show False from h).elim
end

/-! ### a call -/
def lvsOf (ρ : DE) : List Arg → Option (List LV)
  | [] => some []
  | .dat x :: r => (lvsOf ρ r).map (.d x :: ·)
  | .slot i :: r => (ownAt ρ i).bind fun xs => (lvsOf ρ r).map (.own xs :: ·)
def putO (io : Option Nat) (as : List Arg) (o : Option (List D)) (ρ : DE) : Option DE := match io with
  | none => some ρ
  | some k => match as[k]?, o with
    | some (.slot i), some xs => some (ρ.set i (some (.own xs)))
    | _, _ => none
def argIo (io : Option Nat) : Nat → List Arg → Bool
  | _, [] => true
  | n, .dat _ :: r => argIo io (n + 1) r
  | n, .slot _ :: r => (match io with | some k => decide (k = n) | none => false) && argIo io (n + 1) r
def M.fn (io : Option Nat) (F : List LV → FR) (g : M (List Arg)) : M D := M.bind g fun as ρ => match lvsOf ρ as with
  | none => .bad
  | some lvs => if argIo io 0 as = true then (match F lvs with
      | .ret x o => (match putO io as o ρ with
        | some ρ' => .ok x ρ'
        | none => .bad)
      | .retL xs o => (match putO io as o ρ with
        | some ρ' => .ok (.list xs) ρ'
        | none => .bad)
      | _ => .bad) else .bad
/-- the call of a def that hands back a new list -/
def M.fnL (io : Option Nat) (F : List LV → FR) (g : M (List Arg)) : M (List D) := M.bind g fun as ρ => match lvsOf ρ as with
  | none => .bad
  | some lvs => if argIo io 0 as = true then (match F lvs with
      | .retL xs o => (match putO io as o ρ with
        | some ρ' => .ok xs ρ'
        | none => .bad)
      | _ => .bad) else .bad
section
variable {K : PySem.W.Frag} {C : Fc} {Hf H Hf' H' : Hp} {σ : L2.St} {ρ : DE}
theorem SR.called (s : SR K C Hf H σ ρ) {i : Nat} {a : Addr} {us : List V} {xs ys : List D} (hi : ρ[i]? = some (some (.own ys))) (ha : σ[i]? = some (some (.ref a))) (e : Ex Hf Hf') (e' : Ex Hf' H') (hn : ∀ b u, Hf' b = some u → Hf b = some u ∨ H b = none)
    (hk : ∀ b u, H b = some u → b ≠ a → H' b = some u) (h1 : Hf' a = none) (h2 : H' a = some (.lst us)) (h3 : DpAll K Hf' us xs) : SR K C Hf' H' σ (ρ.set i (some (.own xs))) := by
  obtain ⟨a', ws, g1, g2, g3, g4, g5, g6⟩ := s.own i ys hi
  rw [ha] at g1
  cases g1
  have hown : ∀ {j}, IsOwn (ρ.set i (some (.own xs))) j → IsOwn ρ j := fun {j} ⟨zs, h, o⟩ => by
    rcases get_set h with ⟨e, _, _⟩ | ⟨_, h⟩
    · subst e; exact ⟨_, hi, rfl⟩
    · exact ⟨zs, h, o⟩
  refine ⟨by simpa using s.len, s.e0.trans e, e', fun b o h => ?_, fun b o h q => ?_, fun q hq => ?_, fun p hp => ?_, fun j y hj => ?_, fun j zs hj oj => ?_, fun j k b hne h1 h2 h3 h4 => s.apart j k b hne (hown h1) (hown h2) h3 h4⟩
  · rcases hn b o h with q | q
    · exact s.fresh b o q
    · exact .inr (s.h0 q)
  · refine hk b o (s.keep b o h q) fun eb => ?_
    subst eb
    rcases g5 with g5 | ⟨q', z1, z2⟩
    · rw [g5] at h; cases h
    · exact q q' z1 z2
  · obtain ⟨z1, zs, z2⟩ := s.pin q hq
    refine ⟨z1, ?_⟩
    by_cases ei : i = q.1
    · subst ei
      exact ⟨xs, List.getElem?_set_self (List.getElem?_eq_some_iff.mp hi).1⟩
    · exact ⟨zs, by rw [List.getElem?_set_ne ei]; exact z2⟩
  · obtain ⟨z1, z2⟩ := s.no p hp
    refine ⟨?_, hk _ _ z2 (Ne.symm (g6 p hp))⟩
    cases q : Hf' p.1 with
    | none => rfl
    | some o =>
      rcases hn _ _ q with z | z
      · rw [z1] at z; cases z
      · rw [z2] at z; cases z
  · rcases get_set hj with ⟨_, e2, _⟩ | ⟨ne, hj⟩
    · cases e2
    · obtain ⟨v, z1, z2⟩ := s.val j y hj
      exact ⟨v, z1, Dp.mono e _ _ z2⟩
  · rcases get_set hj with ⟨ej, e2, hl⟩ | ⟨ne, hj⟩
    · subst ej
      cases e2
      exact ⟨a, _, ha, h1, h2, ⟨us, rfl, h3⟩, g5, g6⟩
    · obtain ⟨b, ws', q1, q2, q3, q4, q5, q6⟩ := s.ownd j zs hj oj
      have nb : b ≠ a := fun eb => by
        subst eb
        exact s.apart i j b ne ⟨_, hi, rfl⟩ ⟨zs, hj, oj⟩ ha q1
      refine ⟨b, ws', q1, ?_, hk _ _ q3 nb, q4.mono e, q5, q6⟩
      cases q : Hf' b with
      | none => rfl
      | some o =>
        rcases hn _ _ q with z | z
        · rw [q2] at z; cases z
        · rw [q3] at z; cases z
theorem args_ok {io : Option Nat} (s : SR K C Hf H σ ρ) : ∀ {vs : List V} {as : List Arg} {lvs : List LV} {n : Nat}, ArgsRel K σ Hf vs as → lvsOf ρ as = some lvs → argIo io n as = true →
    vs.length = lvs.length ∧ ∀ (i : Nat) (lv : LV), lvs[i]? = some lv → ∃ v, vs[i]? = some v ∧ match lv with
      | .d x => Dp K Hf v x
      | .own xs => io = some (n + i) ∧ ∃ a us, v = .ref a ∧ Hf a = none ∧ H a = some (.lst us) ∧ DpAll K Hf us xs
      | .dct _ => False
  | _, _, lvs, n, .nil, e, _ => by cases e; exact ⟨rfl, fun i lv h => by simp at h⟩
  | _, _, lvs, n, .dat (x := x) (vs := vs) (as := as) h t, e, ha => by
    unfold lvsOf at e
    cases q : lvsOf ρ as with
    | none => rw [q] at e; cases e
    | some l =>
      rw [q] at e
      cases e
      obtain ⟨h1, h2⟩ := args_ok (io := io) (n := n + 1) s t q ha
      refine ⟨by simp [h1], fun i lv hi => ?_⟩
      cases i with
      | zero => cases hi; exact ⟨_, rfl, h⟩
      | succ i =>
        obtain ⟨v, g1, g2⟩ := h2 i lv (by simpa using hi)
        refine ⟨v, by simpa using g1, ?_⟩
        cases lv with
        | d y => exact g2
        | own xs => exact ⟨by rw [g2.1]; congr 1; omega, g2.2⟩
        | dct kvs => exact g2.elim
  | _, _, lvs, n, .slot (v := v) (i := j) (vs := vs) (as := as) h t, e, ha => by
    unfold lvsOf at e
    cases ho : ownAt ρ j with
    | none => rw [ho] at e; cases e
    | some xs =>
      rw [ho] at e
      cases q : lvsOf ρ as with
      | none => rw [q] at e; cases e
      | some l =>
        rw [q] at e
        cases e
        unfold argIo at ha
        rw [Bool.and_eq_true] at ha
        obtain ⟨h1, h2⟩ := args_ok (io := io) (n := n + 1) s t q ha.2
        refine ⟨by simp [h1], fun i lv hi => ?_⟩
        cases i with
        | zero =>
          cases hi
          obtain ⟨a, us, z1, z2, z3, z4, _⟩ := s.own j xs (ownAt_get ho)
          rw [h] at z1
          cases z1
          refine ⟨_, rfl, ?_, a, us, rfl, z2, z3, z4⟩
          cases io with
          | none => cases ha.1
          | some k => rw [of_decide_eq_true ha.1]; rfl
        | succ i =>
          obtain ⟨v, g1, g2⟩ := h2 i lv (by simpa using hi)
          refine ⟨v, by simpa using g1, ?_⟩
          cases lv with
          | d y => exact g2
          | own xs => exact ⟨by rw [g2.1]; congr 1; omega, g2.2⟩
          | dct kvs => exact g2.elim
theorem slot_get : ∀ {vs : List V} {as : List Arg} {k i : Nat}, ArgsRel K σ Hf vs as → as[k]? = some (.slot i) → ∃ v, vs[k]? = some v ∧ σ[i]? = some (some v)
  | _, _, k, i, .nil, e => by simp at e
  | _, _, 0, i, .dat _ _, e => by cases e
  | _, _, 0, i, .slot h _, e => by cases e; exact ⟨_, rfl, h⟩
  | _, _, k + 1, i, .dat _ t, e => by
    obtain ⟨v, h1, h2⟩ := slot_get t (by simpa using e)
    exact ⟨v, by simpa using h1, h2⟩
  | _, _, k + 1, i, .slot _ t, e => by
    obtain ⟨v, h1, h2⟩ := slot_get t (by simpa using e)
    exact ⟨v, by simpa using h1, h2⟩
theorem lvs_slot {ρ : DE} : ∀ {as : List Arg} {lvs : List LV} {k i : Nat}, lvsOf ρ as = some lvs → as[k]? = some (.slot i) → ∃ xs, ownAt ρ i = some xs
  | [], _, k, i, _, h => by simp at h
  | .dat x :: r, lvs, k, i, e, h => by
    unfold lvsOf at e
    cases q : lvsOf ρ r with
    | none => rw [q] at e; cases e
    | some l =>
      cases k with
      | zero => cases h
      | succ k => exact lvs_slot q (by simpa using h)
  | .slot j :: r, lvs, k, i, e, h => by
    unfold lvsOf at e
    cases ho : ownAt ρ j with
    | none => rw [ho] at e; cases e
    | some xs =>
      rw [ho] at e
      cases q : lvsOf ρ r with
      | none => rw [q] at e; cases e
      | some l =>
        cases k with
        | zero => cases h; exact ⟨xs, ho⟩
        | succ k => exact lvs_slot q (by simpa using h)
end
section
variable {X : Cx} {C : Fc} {k : Nat} {f : Addr} {fd : FuncData} {ps : List Str} {io : Option Nat} {F : List LV → FR} {x : Str} {p pos : Pos} {e : Expr} {es : List Expr} {ga : M (List Arg)}
theorem put_go {vs : List V} {as : List Arg} {lvs : List LV} {o : Option (List D)} {σ : L2.St} {H H' Hf1 Hf' : Hp} {ρ1 ρ2 : DE} (s1 : SR X.K C Hf1 H σ ρ1) (d1 : ArgsRel X.K σ Hf1 vs as) (hl : lvsOf ρ1 as = some lvs) (hp : putO io as o ρ1 = some ρ2) (e2 : Ex Hf1 Hf') (e3 : Ex Hf' H') (hn : ∀ b u, Hf' b = some u → Hf1 b = some u ∨ H b = none)
    (hk : ∀ b u, H b = some u → (∀ q, ioA io vs = some q → b ≠ q.2) → H' b = some u) (ho : OutOk X.K Hf' H' (ioA io vs) o) : SR X.K C Hf' H' σ ρ2 ∧ ∀ j, IsOwn ρ2 j → IsOwn ρ1 j := by
  unfold putO at hp
  cases io with
  | none =>
    cases hp
    exact ⟨s1.grow ⟨e2, fun b u hb => hk b u hb (fun q hq => by cases hq), e3, hn⟩, fun _ h => h⟩
  | some kk =>
    simp only at hp
    split at hp
    · rename_i i xs hs
      cases hp
      obtain ⟨v0, b1, b2⟩ := slot_get d1 hs
      obtain ⟨zs, ho2⟩ := lvs_slot hl hs
      obtain ⟨a, us, z1, z2, z3, z4, _⟩ := s1.own i zs (ownAt_get ho2)
      rw [b2] at z1
      cases z1
      have hA : ioA (some kk) vs = some (kk, a) := by
        unfold ioA
        simp only [b1]
      rw [hA] at hk ho
      obtain ⟨o1, us2, o2, o3⟩ := ho
      refine ⟨s1.called (ownAt_get ho2) b2 e2 e3 hn (fun b u hb ne => hk b u hb (fun q hq => by cases hq; exact ne)) o1 o2 o3, fun j ⟨ws, hj, oj⟩ => ?_⟩
      rcases get_set hj with ⟨e, _, _⟩ | ⟨_, hj⟩
      · subst e; exact ⟨_, ownAt_get ho2, rfl⟩
      · exact ⟨ws, hj, oj⟩
    · cases hp
theorem fresh_rel {σ : L2.St} {H H' Hf1 Hf' : Hp} {ρ1 ρ2 : DE} {a : Addr} {us : List V} {xs : List D} (s1 : SR X.K C Hf1 H σ ρ1) (hso : ∀ j, IsOwn ρ2 j → IsOwn ρ1 j) (z1 : Hf' a = none) (z2 : H' a = some (.lst us)) (z3 : DpAll X.K Hf' us xs) (z4 : H a = none) : relL X.K C σ Hf' H' ρ2 (.ref a) xs := by
  refine ⟨a, us, rfl, z1, z2, z3, s1.h0 z4, fun p hp e => ?_, fun j hj e => ?_⟩
  · obtain ⟨_, h⟩ := s1.no p hp
    rw [e, h] at z4
    cases z4
  · obtain ⟨ys, hj, oj⟩ := hso j hj
    obtain ⟨b, ws, h1, _, h3, _⟩ := s1.ownd j ys hj oj
    rw [h1] at e
    cases e
    rw [h3] at z4
    cases z4
theorem fn_go {E : XK} {σ : L2.St} {H : Hp} {Q : VK} (h : tG X.K C (relD X.K) (M.fn io F ga) σ H Q) : tCall (spF X.K io F) [] E (tG X.K C (relA X.K) ga) σ H Q := by
  obtain ⟨Hf, ρ, s, h⟩ := h
  refine tG_bind s h fun vs as H1 Hf1 ρ1 e1 s1 d1 h1 => ?_
  rw [List.append_nil]
  cases hl : lvsOf ρ1 as with
  | none => simp only [hl] at h1; exact (show False from h1).elim
  | some lvs =>
    simp only [hl] at h1
    by_cases hio : argIo io 0 as = true
    case neg => rw [if_neg hio] at h1; exact (show False from h1).elim
    rw [if_pos hio] at h1
    obtain ⟨a1, a2⟩ := args_ok (io := io) (n := 0) s1 d1 hl hio
    refine ⟨Hf1, lvs, s1.e1, ⟨a1, fun i lv hi => ?_⟩, ?_⟩
    · obtain ⟨v, g1, g2⟩ := a2 i lv hi
      refine ⟨v, g1, ?_⟩
      cases lv with
      | d y => exact g2
      | own xs => exact ⟨by rw [g2.1, Nat.zero_add], g2.2⟩
      | dct kvs => exact g2.elim
    · cases hF : F lvs with
      | bad => simp only [hF] at h1; exact (show False from h1).elim
      | ex e o => simp only [hF] at h1; exact (show False from h1).elim
      | ret y o =>
        simp only [hF] at h1 ⊢
        intro v H' Hf' e2 e3 hn hk ho hd
        cases hp : putO io as o ρ1 with
        | none => simp only [hp] at h1; exact (show False from h1).elim
        | some ρ2 =>
          simp only [hp] at h1
          exact h1 v H' Hf' e2 (put_go s1 d1 hl hp e2 e3 hn hk ho).1 hd
      | retL ys o =>
        simp only [hF] at h1 ⊢
        intro a us H' Hf' e2 e3 hn hk ho z1 z2 z3 z4
        cases hp : putO io as o ρ1 with
        | none => simp only [hp] at h1; exact (show False from h1).elim
        | some ρ2 =>
          simp only [hp] at h1
          obtain ⟨s2, hso⟩ := put_go s1 d1 hl hp e2 e3 hn hk ho
          obtain ⟨Hf3, e3, s3, d3⟩ := s2.known (fresh_rel s1 hso z1 z2 z3 z4)
          exact h1 (.ref a) H' Hf3 (e2.trans e3) s3 d3
theorem fnL_go {E : XK} {σ : L2.St} {H : Hp} {Q : VK} (h : tG X.K C (relL X.K C) (M.fnL io F ga) σ H Q) : tCall (spF X.K io F) [] E (tG X.K C (relA X.K) ga) σ H Q := by
  obtain ⟨Hf, ρ, s, h⟩ := h
  refine tG_bind s h fun vs as H1 Hf1 ρ1 e1 s1 d1 h1 => ?_
  rw [List.append_nil]
  cases hl : lvsOf ρ1 as with
  | none => simp only [hl] at h1; exact (show False from h1).elim
  | some lvs =>
    simp only [hl] at h1
    by_cases hio : argIo io 0 as = true
    case neg => rw [if_neg hio] at h1; exact (show False from h1).elim
    rw [if_pos hio] at h1
    obtain ⟨a1, a2⟩ := args_ok (io := io) (n := 0) s1 d1 hl hio
    refine ⟨Hf1, lvs, s1.e1, ⟨a1, fun i lv hi => ?_⟩, ?_⟩
    · obtain ⟨v, g1, g2⟩ := a2 i lv hi
      refine ⟨v, g1, ?_⟩
      cases lv with
      | d y => exact g2
      | own xs => exact ⟨by rw [g2.1, Nat.zero_add], g2.2⟩
      | dct kvs => exact g2.elim
    · cases hF : F lvs with
      | bad => simp only [hF] at h1; exact (show False from h1).elim
      | ex e o => simp only [hF] at h1; exact (show False from h1).elim
      | ret y o => simp only [hF] at h1; exact (show False from h1).elim
      | retL ys o =>
        simp only [hF] at h1 ⊢
        intro a us H' Hf' e2 e3 hn hk ho z1 z2 z3 z4
        cases hp : putO io as o ρ1 with
        | none => simp only [hp] at h1; exact (show False from h1).elim
        | some ρ2 =>
          simp only [hp] at h1
          obtain ⟨s2, hso⟩ := put_go s1 d1 hl hp e2 e3 hn hk ho
          exact h1 (.ref a) H' Hf' e2 s2 (fresh_rel s1 hso z1 z2 z3 z4)
theorem pd_fn (G : FnOk X.prog X.w X.K X.mg X.base CX0 k f fd ps (spF X.K io F)) (hr : Room k X.A) (hm : X.mg x = some (.ref f)) (hk : PySem.W.keepIn X.K (.ref f) = true) (hb : Binds X.K fd ps []) (ha : PDa X C (e :: es) ga) (hg : Gl X x := by rfl)
    (hdb : (x == ("__debug__" : Str)) = false := by decide) (he : starEach (e :: es) X.env = (false, eval e X.env) :: starEach es X.env := by rfl) (hpl : (backTo pos (starEach es X.env)).any (·.1) = false := by rfl) : PDe X C (.Call (.Name x p) (e :: es) [] pos) (M.fn io F ga) :=
  pe_imp (pe_call G hr hg hm hk hb .nil pass0 ha hdb he hpl) fun _ _ _ h => fn_go h
theorem pdl_fn (G : FnOk X.prog X.w X.K X.mg X.base CX0 k f fd ps (spF X.K io F)) (hr : Room k X.A) (hm : X.mg x = some (.ref f)) (hk : PySem.W.keepIn X.K (.ref f) = true) (hb : Binds X.K fd ps []) (ha : PDa X C (e :: es) ga) (hg : Gl X x := by rfl)
    (hdb : (x == ("__debug__" : Str)) = false := by decide) (he : starEach (e :: es) X.env = (false, eval e X.env) :: starEach es X.env := by rfl) (hpl : (backTo pos (starEach es X.env)).any (·.1) = false := by rfl) : PDl X C (.Call (.Name x p) (e :: es) [] pos) (M.fnL io F ga) :=
  pe_imp (pe_call G hr hg hm hk hb .nil pass0 ha hdb he hpl) fun _ _ _ h => fnL_go h
end
/-- a weaker F (it says less) -/
theorem spF_le {K : PySem.W.Frag} {io : Option Nat} {F F' : List LV → FR} (h : ∀ lvs, F' lvs = .bad ∨ F' lvs = F lvs) : ∀ vs H Q E, spF K io F' vs H Q E → spF K io F vs H Q E := fun vs H Q E ⟨Hf, lvs, h1, h2, h3⟩ => by
  refine ⟨Hf, lvs, h1, h2, ?_⟩
  rcases h lvs with e | e
  · rw [e] at h3; exact h3.elim
  · rw [← e]; exact h3
end PD

set_option maxRecDepth 100000
set_option maxHeartbeats 4000000
set_option autoImplicit false
namespace PD
open PySem PySem.Spec L2
open Evl (Ex)
theorem tuple_mul1 (l : Addr) (items : Array Value) (n : Nat) (dd : Option Addr) (sl : Array (Option Value)) (x : Int) (u : Tok) (c0 : (decide (x < -(2 ^ 63)) || decide (x ≥ 2 ^ 63)) = false) (c1 : (items.isEmpty || x == 1) = true) :
    Meets (Builtin.«tuple.__mul__» ⟨[.ref l, .int x u], []⟩) (fun _ R s => s.heap.get? l = some { cls := .type "tuple", dict := dd, data := .seq items n, slots := sl } ∧
      R (.ok (.ret (Value.ref l))) s) :=
  .of_wp fun prog w A R s h => by
    obtain ⟨hp, g, d, tk, os⟩ := s
    obtain ⟨hl, h⟩ := h
    have f1 := AutoSeq1.idx_int
    wp_walk using wpAny_loadPart' hl
    refine wpAny_ite_false (decide_eq_false (by rw [c0]; exact Bool.false_ne_true)) ?_
    wp_walk using wpAny_loadPart' hl
    exact ⟨_, rfl, h⟩
/-- tuple * int that is the tuple itself -/
def rRepS (K : PySem.W.Frag) : R2 := fun x y H Q => ∃ l k xs, x = .ref l ∧ y = .int k ∧ SqT K H l xs ∧ (xs = [] ∨ k = 1) ∧ -1000 ≤ k ∧ k ≤ 1000 ∧ Q (.ref l) H
theorem op_repS {X : Cx} : OpR X (binaryOp .Mult) (rRepS X.K) := by
  intro pins s σ H x y v u Q I rx ry h
  obtain ⟨l, k, xs, rfl, rfl, hT, hne, h1, h2, q⟩ := h
  cases rx
  obtain ⟨t, rfl⟩ := ry
  obtain ⟨its, r, ⟨⟨cls, dd, data, sl⟩, ho, hc, n, hd⟩, hs⟩ := I.tuple hT
  simp only at hc hd
  subst hc hd
  have c0 : (decide (k < -(2 ^ 63)) || decide (k ≥ 2 ^ 63)) = false := by
    rw [decide_eq_false (by omega), decide_eq_false (by omega)] <;> rfl
  have c1 : (its.toArray.isEmpty || k == 1) = true := by
    rcases hne with e | e
    · subst e
      cases r
      rfl
    · subst e
      simp
  exact wpAny_binaryOp_repeat_ref (T := "tuple") (U := "int") (by decide) ⟨_, ho, rfl⟩ (fun s' => typeIs_int s' k t) noFill_tuple_mul F.fills_int_mul F.slot_int_rmul repeat_tuple F.slot_int_index.lookup
    (call_meets F.slot_int_rmul (typeIs_int s k t) F.entry_int_rmul (F.args_int_rmul_2 _ _) (int_rmul_tuple k t l its.toArray n dd sl)
      ⟨ho, rfl, ⟨_, ho, rfl⟩, call_meets F.slot_tuple_mul ⟨_, ho, rfl⟩ F.entry_tuple_mul (F.args_tuple_mul_2 _ _) (tuple_mul1 l its.toArray n dd sl k t c0 c1) ⟨ho, ⟨.ref l, H, I, rfl, q⟩⟩⟩)
def repTD : D → D → Option D
  | .tuple xs, .int k => if xs = [] ∧ -1000 ≤ k ∧ k ≤ 1000 then some (.tuple []) else if 1 ≤ k ∧ k ≤ 1000 ∧ xs.length ≤ 1000 then some (.tuple (List.replicate k.toNat xs).flatten) else none
  | _, _ => none
section
variable {X : Cx} {C : Fc} {pos : Pos} {a b : Expr} {f g : M D}
theorem repT_ok : Op2 X.K (fun x y H Q => rRepT X.K x y H Q ∨ rRepS X.K x y H Q) repTD := fun C Hf H σ ρ v w x y z Q s d1 d2 e q => by
  cases x with
  | tuple xs =>
    cases y with
    | int k =>
      simp only [repTD] at e
      obtain ⟨p, us, rfl, h1, h2⟩ := d1.tup_of
      have hl := h2.length
      split at e
      · rename_i h
        cases e
        obtain ⟨rfl, h3, h4⟩ := h
        have : us = [] := List.eq_nil_of_length_eq_zero hl
        subst this
        exact .inr ⟨p, k, [], rfl, d2.int_of, Evl.ex_t s.e1 h1, .inl rfl, h3, h4, q.now s (.tup h1 .nil)⟩
      · split at e
        · rename_i hn h
          cases e
          obtain ⟨h3, h4, h5⟩ := h
          by_cases hk : k = 1
          · subst hk
            have e1 : (List.replicate (1 : Int).toNat xs).flatten = xs := by simp
            rw [e1] at q
            exact .inr ⟨p, 1, us, rfl, d2.int_of, Evl.ex_t s.e1 h1, .inr rfl, by omega, by omega, q.now s (.tup h1 h2)⟩
          · refine .inl ⟨p, k, us, rfl, d2.int_of, Evl.ex_t s.e1 h1, fun e => ?_, by omega, h4, by omega, fun t ht => ?_⟩
            · subst e
              have : xs = [] := List.eq_nil_of_length_eq_zero hl.symm
              exact hn ⟨this, by omega, h4⟩
            · have gr := Grow.new (o := .tup (List.replicate k.toNat us).flatten) s.e1 ht
              exact q.nowG s gr (.tup (SqT.of upd_same) (DpAll.rep _ (DpAll.mono gr.f _ _ h2)))
        · cases e
    | _ => cases e
  | _ => cases e
/-- a if t else b, as a test -/
theorem pdt_if {c : Expr} {p q r : M Bool} (hc : PDt X C c p) (ha : PDt X C a q) (hb : PDt X C b r) : PDt X C (.IfExp c a b pos) (M.ite p q r) := ⟨fun pins sh σ H Q I ⟨Hf, ρ, s, h⟩ => by
  refine PyProof.Rows.isTrue_IfExp (thn (hc.run pins sh σ H (fun t H1 => if t = true then tG X.K C relB q σ H1 Q else tG X.K C relB r σ H1 Q) I (tG_bind s h fun v x H1 Hf1 ρ1 e1 s1 d1 h1 => ?_)) fun t s2 ⟨H2, I2, q2⟩ => ?_)
  · have d1 : v = x := d1
    subst d1
    cases v with
    | true => exact L2.iteT ⟨Hf1, ρ1, s1, h1⟩
    | false => exact L2.iteF ⟨Hf1, ρ1, s1, h1⟩
  · cases t with
    | true => exact ha.run pins s2 σ H2 Q I2 q2
    | false => exact hb.run pins s2 σ H2 Q I2 q2⟩
/-- a constant of the module -/
theorem pd_const {x : Str} {u : Value} {d : D} (hm : X.mg x = some u) (hr : ∃ v, RelV v u ∧ ∀ H, Dp X.K H v d) (hg : Gl X x := by rfl) (hdb : (x == ("__debug__" : Str)) = false := by decide) : PDe X C (.Name x pos) (M.ret d) := by
  obtain ⟨v, r, hd⟩ := hr
  exact pd_glob hg hm r hd hdb
theorem pd_mulT (ha : PDe X C a f) (hb : PDe X C b g) : PDe X C (.BinOp a .Mult b pos) (M.op2 repTD f g) := pd_op (op_repT.or op_repS) repT_ok ha hb
end
section
variable {X : Cx} {C : Fc} {pos : Pos} {tg iter elt : Expr} {ifs : List Expr} {scope : Scope} {own : List (Str × Nat)} {it : M (List D)} {G : Gt} {sl : List Nat} {tt : M Bool} {te : M D}
/-- name = [..], the list a datum -/
theorem pd_setLcF {i : Nat} {y : Str} {py spos : Pos} (hpi : ∀ q, C.io = some q → q.1 ≠ i) (hp : ∀ q, C.io = some q → q.1 ∉ own.map (·.2)) (hsl : ∀ j ∈ sl, j ∈ own.map (·.2)) (hc : X.calm = true) (hN : X.N.Nodup) (ok : BlkOk X.N X.env.scope scope own) (hi : PDi X C tg iter it)
    (hg : ∀ (C' : Fc), C'.sg = C.sg → ∀ (s : Shared) (H : Hp) (Cc : Addr) (cl : List (Str × Addr)) (fp : List Addr), PDg (X.blk s H scope (compEnvC scope cl Cc X.env) fp) C' tg G sl)
    (ht : ∀ (C' : Fc), C'.sg = C.sg → ∀ (s : Shared) (H : Hp) (Cc : Addr) (cl : List (Str × Addr)) (fp : List Addr), PDts (X.blk s H scope (compEnvC scope cl Cc X.env) fp) C' ifs tt)
    (he : ∀ (C' : Fc), C'.sg = C.sg → ∀ (s : Shared) (H : Hp) (Cc : Addr) (cl : List (Str × Addr)) (fp : List Addr), PDe (X.blk s H scope (compEnvC scope cl Cc X.env) fp) C' elt te)
    (hsw : swapsWith (.ListComp elt [⟨tg, iter, ifs, 0⟩] scope pos) (some (.Name y py)) spos.line X.env = pure true)
    (hy : X.N[i]? = some y := by rfl) (hyl : X.env.scope.names.lookup y = some .local := by rfl)
    (hs : ∀ x, foldedSetIterable iter X.env x = pure x := by intro _; rfl) :
    PDs X C (.Assign [.Name y py] (.ListComp elt [⟨tg, iter, ifs, 0⟩] scope pos) spos) (S.asg i (M.known (M.lc it (own.map (·.2)) G tt te))) :=
  ps_imp (ps_setLc hc hN hy hyl hsw hi ok (fun s H Cc cl fp => pg_any fun C' e => hg C' e s H Cc cl fp) (fun s H Cc cl fp => pts_any fun C' e => ht C' e s H Cc cl fp) (fun s H Cc cl fp => pe_any fun C' e => he C' e s H Cc cl fp) hs) fun E σ H ⟨Hf, ρ, s, q⟩ => by
    refine lc_go (it := it) (G := G) (sl := sl) (tt := tt) (te := te) hp hsl ⟨Hf, ρ, s, ?_⟩
    unfold S.asg S.ofM M.known M.bind at q
    cases hf : M.lc it (own.map (·.2)) G tt te ρ with
    | ok x ρ1 =>
      rw [hf] at q
      intro v H1 Hf1 e1 s1 d1
      obtain ⟨Hf2, e2, s2, d2⟩ := s1.known d1
      exact PostS.nx (PostS.mono (e1.trans e2) q) (s2.setD d2 hpi)
    | ex e ρ1 =>
      rw [hf] at q
      exact fun H' Hf'' e' s' => q σ H' Hf'' e' s'
    | bad => rw [hf] at q; exact q
end
end PD

set_option maxRecDepth 100000
set_option maxHeartbeats 4000000
set_option autoImplicit false
namespace L2
open PySem PySem.Spec PyProof.Rows PD
/-! ### dicts with nested keys, by their raw entries -/
section
variable {X : Cx} {pins : List (Addr × Obj)} {σ : St} {H : Hp} {s : Shared}
mutual
theorem key_dp (I : Inv X pins σ H s) : ∀ (x : PyData) (v : V) (u : Value) (k : NestedKey), Dp X.K H v x → RelV v u → nk x = some k → NestedIs s.heap k u
  | .none, _, _, k, h, r, e => by cases h; cases r; cases e; exact .none
  | .bool b, _, _, k, h, r, e => by cases h; cases r; cases e; exact .bool rfl
  | .int i, _, _, k, h, r, e => by cases h; obtain ⟨t, rfl⟩ := r; cases e; exact .int i t
  | .str x, _, _, k, h, r, e => by cases h; obtain ⟨t, rfl⟩ := r; cases e; exact .text x t
  | .list ds, _, _, k, h, r, e => by cases e
  | .dict ds, _, _, k, h, r, e => by cases e
  | .tuple ds, _, _, k, h, r, e => by
    cases h with
    | tup hs ha =>
      cases r
      obtain ⟨its, rv, ⟨o, ho, hc, n, hd⟩, _⟩ := I.tuple hs
      unfold nk at e
      cases q : nkAll ds with
      | none => rw [q] at e; cases e
      | some ks =>
        rw [q] at e
        cases e
        exact .tup ho hc hd (by simpa using key_dps I ds _ its ks ha rv q)
theorem key_dps (I : Inv X pins σ H s) : ∀ (ds : List PyData) (vs : List V) (us : List Value) (ks : List NestedKey), DpAll X.K H vs ds → Vals vs us → nkAll ds = some ks → NestedAll s.heap ks us
  | [], _, _, ks, h, r, e => by cases h; cases r; cases e; exact .nil
  | d :: ds, _, _, ks, h, r, e => by
    cases h with
    | cons h1 h2 =>
      cases r with
      | cons r1 r2 =>
        unfold nkAll at e
        cases q : nk d with
        | none => rw [q] at e; cases e
        | some k =>
          rw [q] at e
          simp only [Option.bind_some] at e
          cases q2 : nkAll ds with
          | none => rw [q2] at e; cases e
          | some ks' =>
            rw [q2] at e
            cases e
            exact .cons (key_dp I d _ _ k h1 r1 q) (key_dps I ds _ _ ks' h2 r2 q2)
end
/-- the tuple y is the key k -/
def KeyIs (K : PySem.W.Frag) (H : Hp) (y : V) (k : NestedKey) : Prop := (∃ b, y = .ref b) ∧ ∃ x, Dp K H y x ∧ nk x = some k ∧ k.depth ≤ 8
theorem KeyIs.is (I : Inv X pins σ H s) {b : Addr} {k : NestedKey} (h : KeyIs X.K H (.ref b) k) : (nestedKind X.prog X.w).is s.heap k b := by
  obtain ⟨_, x, d, e, hd⟩ := h
  exact ⟨key_dp I x _ _ k d rfl e, hd⟩
theorem KeyIs.mono {K : PySem.W.Frag} {H H' : Hp} (e : Evl.Ex H H') {y : V} {k : NestedKey} (h : KeyIs K H y k) : KeyIs K H' y k := by
  obtain ⟨a, x, d, h⟩ := h
  exact ⟨a, x, Dp.mono e _ _ d, h⟩
def KeysAre (K : PySem.W.Frag) (H : Hp) (xs : List (NestedKey × Addr × Value)) : Prop := ∀ z ∈ xs, KeyIs K H (.ref z.2.1) z.1
theorem raw_dict (I : Inv X pins σ H s) {a : Addr} {xs : List (NestedKey × Addr × Value)} (e : H a = some (.ext (RawN X.w a xs))) (hk : KeysAre X.K H xs) :
    xs.length ≤ sizeLine ∧ (a == sysModules) = false ∧ s.heap.DictOfH (nestedKind X.prog X.w) a xs := by
  obtain ⟨⟨h1, h2, o, es, ep, h3, h4, h5, h6, h7⟩, _⟩ := (show ObjOk X.prog X.w H s.heap a (.ext (RawN X.w a xs)) from I.hok a _ e)
  exact ⟨h1, h2, o, es, ep, h3, h4, h5, h6, fun z hz => (hk z hz).is I, h7⟩
/-- so, or an empty one -/
def RawAt (w : World) (H : Hp) (a : Addr) (xs : List (NestedKey × Addr × Value)) : Prop := H a = some (.ext (RawN w a xs)) ∨ (H a = some (.dK []) ∧ xs = [])
theorem raw_at (I : Inv X pins σ H s) {a : Addr} {xs : List (NestedKey × Addr × Value)} (e : RawAt X.w H a xs) (hk : KeysAre X.K H xs) :
    (a == sysModules) = false ∧ s.heap.DictOfH (nestedKind X.prog X.w) a xs ∧ Mut (H a) := by
  rcases e with e | ⟨e, rfl⟩
  · obtain ⟨z, hd, dd⟩ := raw_dict I e hk
    exact ⟨hd, dd, by rw [e]; exact True.intro⟩
  · obtain ⟨z, hd, vs, rel, o, es, ep, h1, h2, h3, _, h4, _⟩ := dk_of I.hok e
    cases rel
    have h5 : es.toList = [] := by
      generalize es.toList = l at h4
      cases l with
      | nil => rfl
      | cons e l => cases h4
    exact ⟨hd, ⟨o, es, ep, h1, h2, h3, h5, (fun _ hz => by cases hz), List.nodup_nil⟩, by rw [e]; exact True.intro⟩
theorem raw_new {w : World} {P : Program} {H' : Hp} {h' : Heap} {a : Addr} {xs : List (NestedKey × Addr × Value)} (z : xs.length ≤ sizeLine) (hd : (a == sysModules) = false) (dd : h'.DictOfH (nestedKind P w) a xs) : ObjOk P w H' h' a (.ext (RawN w a xs)) := by
  obtain ⟨o, es, ep, h3, h4, h5, h6, _, h7⟩ := dd
  refine ⟨⟨z, hd, o, es, ep, h3, h4, h5, h6, h7⟩, ⟨o, h3⟩, fun h1 h2 g hh => ?_⟩
  obtain ⟨g1, g2, o, es, ep, g3, g4⟩ := g
  exact ⟨g1, g2, o, es, ep, hh o g3, g4⟩
/-- the dict at a holds at the key y this (as the entries say) -/
def DAt (w : World) (K : PySem.W.Frag) (H : Hp) (a : Addr) (y : V) (xs : List (NestedKey × Addr × Value)) (k : NestedKey) : Prop :=
  RawAt w H a xs ∧ KeysAre K H xs ∧ KeyIs K H y k
variable {a : Addr} {y v : V} {u r : Value} {A : Around} {E : Value → Shared → Prop} {xs : List (NestedKey × Addr × Value)} {k : NestedKey}
theorem room8 (hu : A.units + 9 < cLine) : (nestedKind X.prog X.w).room A.in1 := by
  show A.units + 1 + 8 < cLine
  omega
theorem n_getItem {Q : Value → Shared → Prop} {p : Addr × Value} (hu : A.units + 9 < cLine) (I : Inv X pins σ H s) (g : DAt X.w X.K H a y xs k) (ry : RelV y u) (hp : atKey xs k = some p) (h : ∀ s', Inv X pins σ H s' → Q p.2 s') :
    wpAny (model X.prog X.w) A (getItem (.ref a) u) Q E s := by
  obtain ⟨e, ks, kk⟩ := g
  obtain ⟨b, rfl⟩ := kk.1
  cases (show u = Value.ref b from ry)
  obtain ⟨hd, dd, _⟩ := raw_at I e ks
  exact wpAny_getItem_heap (room8 hu) (kk.is I) dd hp (h _ (I.tok _))
theorem n_in {Q : Value → Shared → Prop} (hu : A.units + 9 < cLine) (I : Inv X pins σ H s) (g : DAt X.w X.K H a y xs k) (ry : RelV y u) (h : ∀ s', Inv X pins σ H s' → Q (.bool (atKey xs k).isSome) s') :
    wpAny (model X.prog X.w) A (compareOp .In u (.ref a)) Q E s := by
  obtain ⟨e, ks, kk⟩ := g
  obtain ⟨b, rfl⟩ := kk.1
  cases (show u = Value.ref b from ry)
  obtain ⟨hd, dd, _⟩ := raw_at I e ks
  exact wpAny_in_heap (room8 hu) (kk.is I) hd dd (h _ (I.tok _))
theorem n_notIn {Q : Value → Shared → Prop} (hu : A.units + 9 < cLine) (I : Inv X pins σ H s) (g : DAt X.w X.K H a y xs k) (ry : RelV y u) (h : ∀ s', Inv X pins σ H s' → Q (.bool (!(atKey xs k).isSome)) s') :
    wpAny (model X.prog X.w) A (compareOp .NotIn u (.ref a)) Q E s := by
  obtain ⟨e, ks, kk⟩ := g
  obtain ⟨b, rfl⟩ := kk.1
  cases (show u = Value.ref b from ry)
  obtain ⟨hd, dd, _⟩ := raw_at I e ks
  exact wpAny_notIn_heap (room8 hu) (kk.is I) hd dd (h _ (I.tok _))
theorem storedH_len (xs : List (NestedKey × Addr × Value)) (k : NestedKey) (b : Addr) (r : Value) : (storedH xs k b r).length ≤ xs.length + 1 := by
  unfold storedH
  split
  · rw [List.length_map]; omega
  · rw [List.length_append, List.length_singleton]; exact Nat.le_refl _
/-- d[y] = v, in a dict with nested keys, or in an empty one -/
theorem n_setItem {Q : Unit → Shared → Prop} {b : Addr} (hu : A.units + 9 < cLine) (I : Inv X pins σ H s) (e : RawAt X.w H a xs) (ks : KeysAre X.K H xs) (kk : KeyIs X.K H (.ref b) k) (hl : xs.length < sizeLine)
    (h : ∀ s', Inv X pins σ (upd H a (.ext (RawN X.w a (storedH xs k b r)))) s' → Q () s') :
    wpAny (model X.prog X.w) A (setItem (.ref a) (.ref b) r) Q E s := by
  obtain ⟨hd, dd, hm⟩ := raw_at I e ks
  refine wpAny_setItem_heap (hsz := Nat.le_of_lt hl) (room8 hu) (kk.is I) dd fun h' dd' hs => h _ ?_
  have he : ∃ q, h'.get? a = some q := let ⟨q, _, _, hq, _⟩ := dd'; ⟨q, hq⟩
  exact d_write I hm hs he (raw_new (by have := storedH_len xs k b r; omega) hd dd')
theorem raw_type (I : Inv X pins σ H s) (g : DAt X.w X.K H a y xs k) : s.TypeIs (.ref a) "dict" := by
  obtain ⟨hd, dd, _⟩ := raw_at I g.1 g.2.1
  exact dd.typeIs
end
/-- what the dict at a gives at y -/
def DGetN (w : World) (K : PySem.W.Frag) (H : Hp) (a : Addr) (y : V) (o : Option V) : Prop := DGet H a y o ∨ ∃ xs k, DAt w K H a y xs k ∧ RelO o ((atKey xs k).map (·.2))
def tGetN (w : World) (K : PySem.W.Frag) (td ty : TE) : TE := fun σ H Q => td σ H fun x H1 => ty σ H1 fun y H2 => ∃ a v, x = .ref a ∧ DGetN w K H2 a y (some v) ∧ Q v H2
def tInN (w : World) (K : PySem.W.Frag) (neg : Bool) (ty td : TE) : TE := fun σ H Q => ty σ H fun y H1 => td σ H1 fun x H2 => ∃ a o, x = .ref a ∧ DGetN w K H2 a y o ∧ Q (.bl (if neg then !o.isSome else o.isSome)) H2
def DPutN (w : World) (K : PySem.W.Frag) (H : Hp) (a : Addr) (y v : V) (D : Hp → Prop) : Prop :=
  (∃ H', DPut H a y v H' ∧ D H') ∨ ∃ xs k b, y = .ref b ∧ RawAt w H a xs ∧ KeysAre K H xs ∧ KeyIs K H (.ref b) k ∧ xs.length < sizeLine ∧ ∀ r, RelV v r → D (upd H a (.ext (RawN w a (storedH xs k b r))))
def sPutN (w : World) (K : PySem.W.Frag) (td ty tv : TE) : TS := fun D σ H => tv σ H fun v H1 => td σ H1 fun x H2 => ty σ H2 fun y H3 => ∃ a, x = .ref a ∧ DPutN w K H3 a y v (D.nx σ)
section
variable {X : Cx} {o i value : Expr} {pos pos' tpos : Pos} {td ty tv : TE}
theorem pe_getN (hu : X.A.units + 9 < cLine) (ho : PE X o td) (hi : PE X i ty) (hs : NoSl i) : PE X (.Subscript o i pos) (tGetN X.w X.K td ty) := by
  refine ⟨fun pins s σ H Q I h => ?_⟩
  refine subD_of PySem.F.slot_dict_getitem.lookup hs (thn (ho.run pins s σ H _ I h) fun u s1 ⟨x, H1, I1, rx, q1⟩ => thn (hi.run pins s1 σ H1 _ I1 q1) fun iv s2 ⟨y, H2, I2, ry, a, v, ex, g, q2⟩ => ?_)
  subst ex
  obtain rfl : u = Value.ref a := rx
  rcases g with g | ⟨xs, k, g, r⟩
  · exact ⟨dict_typeIs I2 g, d_getItem (by omega) I2 g ry fun w' s3 I3 rw' => ⟨v, H2, I3, rw', q2⟩⟩
  · cases hp : atKey xs k with
    | none => rw [hp] at r; exact r.elim
    | some p =>
      rw [hp] at r
      exact ⟨raw_type I2 g, n_getItem hu I2 g ry hp fun s3 I3 => ⟨v, H2, I3, r, q2⟩⟩
theorem relO_some {o : Option V} {u : Option Value} (r : RelO o u) : u.isSome = o.isSome := by
  cases o <;> cases u <;> first | rfl | exact r.elim
theorem pc_inN (hu : X.A.units + 9 < cLine) (hi : PE X i ty) (ho : PE X o td) : PC X .In i o (tInN X.w X.K false ty td) := by
  refine ⟨fun pins s σ H Q I h => ?_⟩
  refine thn (hi.run pins s σ H _ I h) fun iv s1 ⟨y, H1, I1, ry, q1⟩ => thn (ho.run pins s1 σ H1 _ I1 q1) fun u s2 ⟨x, H2, I2, rx, a, ov, ex, g, q2⟩ => ?_
  subst ex
  obtain rfl : u = Value.ref a := rx
  rcases g with g | ⟨xs, k, g, r⟩
  · exact d_in (by omega) I2 g ry fun s3 I3 => ⟨.bl ov.isSome, H2, I3, rfl, q2⟩
  · refine n_in hu I2 g ry fun s3 I3 => ⟨.bl ov.isSome, H2, I3, ?_, q2⟩
    have := relO_some r
    rw [Option.isSome_map] at this
    rw [this]
    rfl
theorem pc_notInN (hu : X.A.units + 9 < cLine) (hi : PE X i ty) (ho : PE X o td) : PC X .NotIn i o (tInN X.w X.K true ty td) := by
  refine ⟨fun pins s σ H Q I h => ?_⟩
  refine thn (hi.run pins s σ H _ I h) fun iv s1 ⟨y, H1, I1, ry, q1⟩ => thn (ho.run pins s1 σ H1 _ I1 q1) fun u s2 ⟨x, H2, I2, rx, a, ov, ex, g, q2⟩ => ?_
  subst ex
  obtain rfl : u = Value.ref a := rx
  rcases g with g | ⟨xs, k, g, r⟩
  · exact d_notIn (by omega) I2 g ry fun s3 I3 => ⟨.bl (!ov.isSome), H2, I3, rfl, q2⟩
  · refine n_notIn hu I2 g ry fun s3 I3 => ⟨.bl (!ov.isSome), H2, I3, ?_, q2⟩
    have := relO_some r
    rw [Option.isSome_map] at this
    rw [this]
    rfl
theorem ps_putN (hu : X.A.units + 9 < cLine) (ho : PE X o td) (hi : PE X i ty) (hv : PE X value tv) (hs : swapsWith value (some (.Subscript o i pos')) pos.line X.env = pure false) :
    PS X (.Assign [.Subscript o i pos'] value pos) (sPutN X.w X.K td ty tv) := by
  refine ⟨fun pins s σ H D I h => ?_⟩
  refine wpAny_Assign_Subscript (thn (hv.run pins s σ H _ I h) fun r s1 ⟨v, H1, I1, rv, q1⟩ => thn (ho.run pins s1 σ H1 _ I1 q1) fun u s2 ⟨x, H2, I2, rx, q2⟩ => thn (hi.run pins s2 σ H2 _ I2 q2) fun iv s3 ⟨y, H3, I3, ry, a, ex, g⟩ => ?_) hs
  subst ex
  obtain rfl : u = Value.ref a := rx
  rcases g with ⟨H4, g, q3⟩ | ⟨xs, k, b, rfl, g, ks, kk, hl, q3⟩
  · exact d_setItem (by omega) I3 g ry rv fun s4 I4 => ⟨σ, H4, I4, q3⟩
  · obtain rfl : iv = Value.ref b := ry
    exact n_setItem hu I3 g ks kk hl fun s4 I4 => ⟨σ, _, I4, q3 r rv⟩
end
end L2

set_option maxRecDepth 100000
set_option maxHeartbeats 4000000
set_option autoImplicit false
namespace PD
open PySem PySem.Spec L2
open Evl (Ex)
/-! ### dicts over data -/
def getK : List (D × D) → D → Option D
  | [], _ => none
  | (y, v) :: r, x => if nk y = nk x then some v else getK r x
def putKD (kvs : List (D × D)) (x d : D) : List (D × D) := if (getK kvs x).isSome = true then kvs.map (fun p => if nk p.1 = nk x then (p.1, d) else p) else kvs ++ [(x, d)]
/-- a key that is an int or a text; a key that is a tuple -/
def scalK : D → Bool
  | .int _ => true
  | .str _ => true
  | _ => false
def tupK : D → Bool
  | .tuple xs => match nk (.tuple xs) with
    | some k => decide (k.depth ≤ 8)
    | none => false
  | _ => false
def okKey (kvs : List (D × D)) (x : D) : Bool := (scalK x && kvs.all fun p => scalK p.1) || (tupK x && kvs.all fun p => tupK p.1)
def toKey : D → Option Key
  | .int i => some (.inl i)
  | .str s => some (.inr s)
  | _ => none
theorem scalK_key {x : D} (h : scalK x = true) : ∃ k, x = keyD k := by
  cases x <;> first | cases h | skip
  · exact ⟨.inl _, rfl⟩
  · exact ⟨.inr _, rfl⟩
theorem nk_keyD {j k : Key} : nk (keyD j) = nk (keyD k) ↔ j = k := by
  refine ⟨fun h => ?_, fun h => by rw [h]⟩
  cases j <;> cases k <;> unfold keyD nk at h <;> simp at h
  · rw [h]
  · rw [h]
theorem tupK_of {x : D} (h : tupK x = true) : ∃ xs k, x = .tuple xs ∧ nk x = some k ∧ k.depth ≤ 8 := by
  cases x <;> first | cases h | skip
  rename_i xs
  have h : (match nk (.tuple xs) with | some k => decide (k.depth ≤ 8) | none => false) = true := h
  cases q : nk (.tuple xs) with
  | none => rw [q] at h; cases h
  | some k => rw [q] at h; exact ⟨xs, k, rfl, rfl, of_decide_eq_true h⟩
theorem scal_not_tup {x : D} (h : scalK x = true) (h2 : tupK x = true) : False := by cases x <;> first | (cases h; done) | (cases h2; done)
section
variable {K : PySem.W.Frag} {Hf : Hp}
def RelOD (K : PySem.W.Frag) (Hf : Hp) : Option V → Option D → Prop
  | some v, some d => Dp K Hf v d
  | none, none => True
  | _, _ => False
theorem KeysRel.get {k : Key} : ∀ {ks : List (Key × V)} {kvs : List (D × D)}, KeysRel K Hf ks kvs → RelOD K Hf (valV ks k) (getK kvs (keyD k))
  | _, _, .nil => True.intro
  | _, _, .cons (a := p) (l₁ := ps) (b := q) (l₂ := qs) h t => by
    have ih := KeysRel.get (k := k) t
    obtain ⟨y, d⟩ := q
    obtain ⟨h1, h2⟩ := h
    have h1 : keyD p.1 = y := h1
    subst h1
    by_cases e : p.1 = k
    · rw [valV_pos e]
      show RelOD K Hf _ (if nk (keyD p.1) = nk (keyD k) then some d else getK qs (keyD k))
      rw [if_pos (nk_keyD.mpr e)]
      exact h2
    · have e2 : valV (p :: ps) k = valV ps k := by simp [valV, List.find?_cons, e]
      rw [e2]
      show RelOD K Hf _ (if nk (keyD p.1) = nk (keyD k) then some d else getK qs (keyD k))
      rw [if_neg (fun z => e (nk_keyD.mp z))]
      exact ih
theorem RelN.get {k : NestedKey} {x : D} (hx : nk x = some k) : ∀ {xs : List (NestedKey × Addr × Value)} {kvs : List (D × D)}, RelN K Hf xs kvs →
    (∃ p v d, atKey xs k = some p ∧ getK kvs x = some d ∧ RelV v p.2 ∧ Dp K Hf v d) ∨ (atKey xs k = none ∧ getK kvs x = none)
  | _, _, .nil => .inr ⟨rfl, rfl⟩
  | _, _, .cons (a := p) (l₁ := ps) (b := q) (l₂ := qs) h t => by
    have ih := RelN.get hx t
    obtain ⟨y, d⟩ := q
    obtain ⟨h1, h2, h3, v, h4, h5⟩ := h
    have h1 : nk y = some p.1 := h1
    have eg : getK ((y, d) :: qs) x = if p.1 = k then some d else getK qs x := by
      show (if nk y = nk x then some d else getK qs x) = _
      rw [h1, hx]
      by_cases e : p.1 = k
      · rw [if_pos e, if_pos (by rw [e])]
      · rw [if_neg e, if_neg (fun z => e (Option.some.inj z))]
    by_cases e : p.1 = k
    · refine .inl ⟨p.2, v, d, ?_, by rw [eg, if_pos e], h4, h5⟩
      simp [atKey, List.find?_cons, e]
    · rw [eg, if_neg e]
      have e2 : atKey (p :: ps) k = atKey ps k := by simp [atKey, List.find?_cons, e]
      rw [e2]
      exact ih
theorem KeysRel.put {k : Key} {v : V} {d : D} (hd : Dp K Hf v d) {ks : List (Key × V)} {kvs : List (D × D)} (r : KeysRel K Hf ks kvs) : KeysRel K Hf (putK ks k v) (putKD kvs (keyD k) d) := by
  have hg := r.get (k := k)
  have e : (ks.any fun kv => decide (kv.1 = k)) = (getK kvs (keyD k)).isSome := by
    rw [valV_any]
    cases h1 : valV ks k <;> cases h2 : getK kvs (keyD k) <;> rw [h1, h2] at hg <;> first | rfl | exact hg.elim
  unfold putK putKD
  rw [e]
  cases (getK kvs (keyD k)).isSome with
  | false => exact Paired.snoc r ⟨rfl, hd⟩
  | true =>
    simp only [if_true]
    clear hg e
    induction r with
    | nil => exact .nil
    | cons h t ih =>
      rename_i p q ps qs
      obtain ⟨h1, h2⟩ := h
      refine .cons ?_ ih
      dsimp only
      by_cases e : p.1 = k
      · rw [if_pos e, if_pos (by rw [← h1]; exact nk_keyD.mpr e)]
        exact ⟨h1, hd⟩
      · rw [if_neg e, if_neg (by rw [← h1]; exact fun z => e (nk_keyD.mp z))]
        exact ⟨h1, h2⟩
theorem RelN.put {k : NestedKey} {b : Addr} {x d : D} {v : V} {u : Value} (hx : nk x = some k) (hk : k.depth ≤ 8) (hb : Dp K Hf (.ref b) x) (ru : RelV v u) (hd : Dp K Hf v d) {xs : List (NestedKey × Addr × Value)} {kvs : List (D × D)} (r : RelN K Hf xs kvs) :
    RelN K Hf (storedH xs k b u) (putKD kvs x d) := by
  have e : (atKey xs k).isSome = (getK kvs x).isSome := by
    rcases r.get hx with ⟨p, v', d', h1, h2, _⟩ | ⟨h1, h2⟩ <;> rw [h1, h2] <;> rfl
  unfold storedH putKD
  rw [e]
  cases (getK kvs x).isSome with
  | false => exact Paired.snoc r ⟨hx, hk, hb, v, ru, hd⟩
  | true =>
    simp only [if_true]
    clear e
    induction r with
    | nil => exact .nil
    | cons h t ih =>
      rename_i p q ps qs
      obtain ⟨h1, h2, h3, h4⟩ := h
      refine .cons ?_ ih
      unfold putAt
      dsimp only
      by_cases e : p.1 = k
      · rw [if_pos e, if_pos (by rw [h1, hx, e])]
        exact ⟨h1, h2, h3, v, ru, hd⟩
      · rw [if_neg e, if_neg (by rw [h1, hx]; exact fun z => e (Option.some.inj z))]
        exact ⟨h1, h2, h3, h4⟩
theorem RelN.keys {xs : List (NestedKey × Addr × Value)} {kvs : List (D × D)} (r : RelN K Hf xs kvs) : KeysAre K Hf xs := by
  induction r with
  | nil => intro z hz; cases hz
  | cons h t ih =>
    intro z hz
    rcases List.mem_cons.mp hz with e | hz
    · subst e
      obtain ⟨h1, h2, h3, _⟩ := h
      exact ⟨⟨_, rfl⟩, _, h3, h1, h2⟩
    · exact ih z hz
theorem ref_scal {b : Addr} {x : D} (h : Dp K Hf (.ref b) x) : scalK x = false := by
  cases x <;> first | rfl | cases h
theorem keyD_scal (k : Key) : scalK (keyD k) = true := by cases k <;> rfl
theorem KeysRel.scal {ks : List (Key × V)} {kvs : List (D × D)} (r : KeysRel K Hf ks kvs) (h : (kvs.all fun p => tupK p.1) = true) : ks = [] ∧ kvs = [] := by
  cases r with
  | nil => exact ⟨rfl, rfl⟩
  | cons h1 t =>
    rw [List.all_cons, Bool.and_eq_true] at h
    have := h.1
    rw [← h1.1] at this
    exact (scal_not_tup (keyD_scal _) this).elim
theorem RelN.notScal {xs : List (NestedKey × Addr × Value)} {kvs : List (D × D)} (r : RelN K Hf xs kvs) (hx : xs ≠ []) (h : (kvs.all fun p => scalK p.1) = true) : False := by
  cases r with
  | nil => exact hx rfl
  | cons h1 t =>
    rw [List.all_cons, Bool.and_eq_true] at h
    have := h.1
    rw [ref_scal h1.2.2.1] at this
    cases this
theorem keyV {k : Key} {y : V} (d : Dp K Hf y (keyD k)) : y = kV k := by
  cases k with
  | inl i => exact d.int_of
  | inr s => exact d.str_of
theorem DictHo.get {w : World} {H : Hp} {a : Addr} {ho : HO} {kvs : List (D × D)} {x : D} {y : V} (h : DictHo w K Hf a ho kvs) (e : Ex Hf H) (ha : H a = some ho) (d : Dp K Hf y x) (ok : okKey kvs x = true) :
    ∃ o, DGetN w K H a y o ∧ RelOD K Hf o (getK kvs x) := by
  unfold okKey at ok
  rw [Bool.or_eq_true, Bool.and_eq_true, Bool.and_eq_true] at ok
  rcases ok with ⟨o1, o2⟩ | ⟨o1, o2⟩
  · obtain ⟨k, rfl⟩ := scalK_key o1
    rcases h with ⟨ks, rfl, r⟩ | ⟨xs, rfl, r, hne⟩
    · rw [keyV d]
      exact ⟨_, .inl (DGet.k ha), r.get⟩
    · exact (r.notScal hne o2).elim
  · obtain ⟨zs, k, rfl, hk, hd⟩ := tupK_of o1
    obtain ⟨b, vs, rfl, _, _⟩ := d.tup_of
    have kk : KeyIs K H (.ref b) k := KeyIs.mono e ⟨⟨b, rfl⟩, _, d, hk, hd⟩
    rcases h with ⟨ks, rfl, r⟩ | ⟨xs, rfl, r, hne⟩
    · obtain ⟨rfl, rfl⟩ := r.scal o2
      exact ⟨none, .inr ⟨[], k, ⟨.inr ⟨ha, rfl⟩, (fun z hz => by cases hz), kk⟩, True.intro⟩, True.intro⟩
    · have dd : DAt w K H a (.ref b) xs k := ⟨.inl ha, fun z hz => KeyIs.mono e (r.keys z hz), kk⟩
      rcases r.get hk with ⟨p, v, dv, h1, h2, h3, h4⟩ | ⟨h1, h2⟩
      · exact ⟨some v, .inr ⟨xs, k, dd, by rw [h1]; exact h3⟩, by rw [h2]; exact h4⟩
      · exact ⟨none, .inr ⟨xs, k, dd, by rw [h1]; exact True.intro⟩, by rw [h2]; exact True.intro⟩
theorem paired_len {α β : Type} {F : α → β → Prop} {l : List α} {m : List β} (h : Paired F l m) : l.length = m.length := Paired.length h
theorem storedH_ne {xs : List (NestedKey × Addr × Value)} {k : NestedKey} {b : Addr} {u : Value} : storedH xs k b u ≠ [] := by
  unfold storedH
  split
  · rename_i h
    cases xs with
    | nil => cases h
    | cons x xs => exact fun e => nomatch e
  · exact fun e => by simp at e
theorem DictHo.put {w : World} {H : Hp} {a : Addr} {ho : HO} {kvs : List (D × D)} {x dv : D} {y v : V} {Dl : Hp → Prop} (h : DictHo w K Hf a ho kvs) (e : Ex Hf H) (ha : H a = some ho) (d : Dp K Hf y x) (d2 : Dp K Hf v dv) (ok : okKey kvs x = true) (hl : kvs.length < sizeLine)
    (hD : ∀ ho', DictHo w K Hf a ho' (putKD kvs x dv) → Dl (upd H a ho')) : DPutN w K H a y v Dl := by
  unfold okKey at ok
  rw [Bool.or_eq_true, Bool.and_eq_true, Bool.and_eq_true] at ok
  rcases ok with ⟨o1, o2⟩ | ⟨o1, o2⟩
  · obtain ⟨k, rfl⟩ := scalK_key o1
    rcases h with ⟨ks, rfl, r⟩ | ⟨xs, rfl, r, hne⟩
    · rw [keyV d]
      exact .inl ⟨_, DPut.k ha (by rw [paired_len r]; exact hl), hD _ (.inl ⟨_, rfl, r.put d2⟩)⟩
    · exact (r.notScal hne o2).elim
  · obtain ⟨zs, k, rfl, hk, hd⟩ := tupK_of o1
    obtain ⟨b, vs, rfl, _, _⟩ := d.tup_of
    have kk : KeyIs K H (.ref b) k := KeyIs.mono e ⟨⟨b, rfl⟩, _, d, hk, hd⟩
    rcases h with ⟨ks, rfl, r⟩ | ⟨xs, rfl, r, hne⟩
    · obtain ⟨rfl, rfl⟩ := r.scal o2
      exact .inr ⟨[], k, b, rfl, .inr ⟨ha, rfl⟩, (fun z hz => by cases hz), kk, hl, fun u ru => hD _ (.inr ⟨_, rfl, RelN.put hk hd d ru d2 .nil, storedH_ne⟩)⟩
    · exact .inr ⟨xs, k, b, rfl, .inl ha, fun z hz => KeyIs.mono e (r.keys z hz), kk, by rw [paired_len r]; exact hl, fun u ru => hD _ (.inr ⟨_, rfl, RelN.put hk hd d ru d2 r, storedH_ne⟩)⟩
end
/-! ### the rules -/
def dctAt (ρ : DE) (i : Nat) : Option (List (D × D)) := match ρ[i]? with
  | some (some (.dct kvs)) => some kvs
  | _ => none
theorem dctAt_get {ρ : DE} {i : Nat} {kvs : List (D × D)} (h : dctAt ρ i = some kvs) : ρ[i]? = some (some (.dct kvs)) := by
  unfold dctAt at h
  split at h
  · rename_i ys hy
    cases h
    exact hy
  · cases h
/-- x in d, x not in d -/
def M.inK (neg : Bool) (i : Nat) (f : M D) : M D := M.bind f fun x ρ => M.lift ((dctAt ρ i).bind fun kvs => if okKey kvs x = true then some (.bool (if neg then !(getK kvs x).isSome else (getK kvs x).isSome)) else none) ρ
/-- d[x] -/
def M.subK (i : Nat) (f : M D) : M D := fun ρ => match dctAt ρ i with
  | some _ => M.bind f (fun x ρ1 => M.lift ((dctAt ρ1 i).bind fun kvs => if okKey kvs x = true then getK kvs x else none) ρ1) ρ
  | none => .bad
/-- d[x] = v -/
def S.setK (i : Nat) (f g : M D) : MS := S.ofM f fun v ρ0 => match dctAt ρ0 i with
  | some _ => S.ofM g (fun x => S.ofM (fun ρ1 => M.lift ((dctAt ρ1 i).bind fun kvs => if okKey kvs x = true ∧ kvs.length < sizeLine then some (putKD kvs x v) else none) ρ1) fun kvs ρ1 => .nx (ρ1.set i (some (.dct kvs)))) ρ0
  | none => .bad
theorem relOD_some {K : PySem.W.Frag} {Hf : Hp} {o : Option V} {d : Option D} (r : RelOD K Hf o d) : o.isSome = d.isSome := by
  cases o <;> cases d <;> first | rfl | exact r.elim
section
variable {X : Cx} {C : Fc} {pos p2 : Pos} {e b : Expr} {f g : M D}
theorem in_go (hw : C.w = X.w) {i : Nat} {neg : Bool} {σ : L2.St} {H : Hp} {Q : VK} (h : tG X.K C (relD X.K) (M.inK neg i f) σ H Q) : tInN X.w X.K neg (tG X.K C (relD X.K) f) (tVar i) σ H Q := by
  obtain ⟨Hf, ρ, s, h⟩ := h
  refine tG_bind s h fun v x H1 Hf1 ρ1 e1 s1 d1 h1 => ?_
  obtain ⟨z, hz, h2⟩ := h1.lift
  cases hk : dctAt ρ1 i with
  | none => rw [hk] at hz; cases hz
  | some kvs =>
    rw [hk] at hz
    simp only [Option.bind_some] at hz
    split at hz
    · rename_i ok
      cases hz
      obtain ⟨a, ho, g1, g2, g3, g4, _⟩ := s1.dct i kvs (dctAt_get hk)
      rw [hw] at g4
      obtain ⟨o, q1, q2⟩ := g4.get s1.e1 g3 d1 ok
      refine ⟨.ref a, g1, a, o, rfl, q1, ?_⟩
      rw [relOD_some q2]
      exact PostG.now h2 s1 (.bl _)
    · cases hz
section
variable {x : Str} {px : Pos} {i : Nat}
theorem pd_inK (i : Nat) (hw : C.w = X.w) (hu : X.A.units + 9 < cLine) (ha : PDe X C e f) (hN : X.N[i]? = some x := by rfl) (hv : Vis X.env.scope x := by first | exact Or.inl rfl | exact Or.inr (Or.inl rfl) | exact Or.inr (Or.inr rfl)) (hd : (x == ("__debug__" : Str)) = false := by decide)
    (hcd : (x == ("__classdict__" : Str)) = false := by decide) (h1 : behindInMarks .In (.Name x px) = false := by rfl) : PDe X C (.Compare e [.In] [.Name x px] pos) (M.inK false i f) :=
  pe_imp (pe_cmp (pc_inN hu ha (pe_var hN hv hd hcd)) h1) fun _ _ _ h => in_go hw h
theorem pd_notInK (i : Nat) (hw : C.w = X.w) (hu : X.A.units + 9 < cLine) (ha : PDe X C e f) (hN : X.N[i]? = some x := by rfl) (hv : Vis X.env.scope x := by first | exact Or.inl rfl | exact Or.inr (Or.inl rfl) | exact Or.inr (Or.inr rfl)) (hd : (x == ("__debug__" : Str)) = false := by decide)
    (hcd : (x == ("__classdict__" : Str)) = false := by decide) (h1 : behindInMarks .NotIn (.Name x px) = false := by rfl) : PDe X C (.Compare e [.NotIn] [.Name x px] pos) (M.inK true i f) :=
  pe_imp (pe_cmp (pc_notInN hu ha (pe_var hN hv hd hcd)) h1) fun _ _ _ h => in_go hw h
theorem pdt_inK (i : Nat) (hw : C.w = X.w) (hu : X.A.units + 9 < cLine) (ha : PDe X C e f) (hN : X.N[i]? = some x := by rfl) (hv : Vis X.env.scope x := by first | exact Or.inl rfl | exact Or.inr (Or.inl rfl) | exact Or.inr (Or.inr rfl)) (hd : (x == ("__debug__" : Str)) = false := by decide)
    (hcd : (x == ("__classdict__" : Str)) = false := by decide) (h1 : behindInMarks .In (.Name x px) = false := by rfl) : PDt X C (.Compare e [.In] [.Name x px] pos) (M.test (M.inK false i f)) :=
  pt_imp (pt_cmp (pc_inN hu ha (pe_var hN hv hd hcd)) h1) fun _ _ _ h => in_go hw (test_go (t := tC .non) h)
theorem pdt_notInK (i : Nat) (hw : C.w = X.w) (hu : X.A.units + 9 < cLine) (ha : PDe X C e f) (hN : X.N[i]? = some x := by rfl) (hv : Vis X.env.scope x := by first | exact Or.inl rfl | exact Or.inr (Or.inl rfl) | exact Or.inr (Or.inr rfl)) (hd : (x == ("__debug__" : Str)) = false := by decide)
    (hcd : (x == ("__classdict__" : Str)) = false := by decide) (h1 : behindInMarks .NotIn (.Name x px) = false := by rfl) : PDt X C (.Compare e [.NotIn] [.Name x px] pos) (M.test (M.inK true i f)) :=
  pt_imp (pt_cmp (pc_notInN hu ha (pe_var hN hv hd hcd)) h1) fun _ _ _ h => in_go hw (test_go (t := tC .non) h)
theorem pd_subK (i : Nat) (hw : C.w = X.w) (hu : X.A.units + 9 < cLine) (ha : PDe X C e f) (hs : NoSl e) (hN : X.N[i]? = some x := by rfl) (hv : Vis X.env.scope x := by first | exact Or.inl rfl | exact Or.inr (Or.inl rfl) | exact Or.inr (Or.inr rfl)) (hd : (x == ("__debug__" : Str)) = false := by decide)
    (hcd : (x == ("__classdict__" : Str)) = false := by decide) : PDe X C (.Subscript (.Name x px) e pos) (M.subK i f) :=
  pe_imp (pe_getN hu (pe_var hN hv hd hcd) ha hs) fun σ H Q ⟨Hf, ρ, s, h⟩ => by
    unfold M.subK at h
    cases hk : dctAt ρ i with
    | none => simp only [hk] at h; exact (show False from h).elim
    | some kvs =>
      simp only [hk] at h
      obtain ⟨a, ho, g1, g2, g3, g4, _⟩ := s.dct i kvs (dctAt_get hk)
      refine ⟨.ref a, g1, tG_bind s h fun v x H1 Hf1 ρ1 e1 s1 d1 h1 => ?_⟩
      obtain ⟨z, hz, h2⟩ := h1.lift
      cases hk2 : dctAt ρ1 i with
      | none => rw [hk2] at hz; cases hz
      | some kvs2 =>
        rw [hk2] at hz
        simp only [Option.bind_some] at hz
        split at hz
        · rename_i ok
          obtain ⟨a2, ho2, z1, z2, z3, z4, _⟩ := s1.dct i kvs2 (dctAt_get hk2)
          rw [g1] at z1
          cases z1
          rw [hw] at z4
          obtain ⟨o, q1, q2⟩ := z4.get s1.e1 z3 d1 ok
          rw [hz] at q2
          cases o with
          | none => exact q2.elim
          | some w => exact ⟨a, w, rfl, q1, PostG.now h2 s1 q2⟩
        · cases hz
theorem pd_setK (i : Nat) {tpos : Pos} {g : M D} (hp : ∀ q, C.io = some q → q.1 ≠ i) (hw : C.w = X.w) (hu : X.A.units + 9 < cLine) (ha : PDe X C e f) (hb : PDe X C b g)
    (hs : swapsWith e (some (.Subscript (.Name x px) b tpos)) pos.line X.env = pure false := by rfl)
    (hN : X.N[i]? = some x := by rfl) (hv : Vis X.env.scope x := by first | exact Or.inl rfl | exact Or.inr (Or.inl rfl) | exact Or.inr (Or.inr rfl)) (hd : (x == ("__debug__" : Str)) = false := by decide)
    (hcd : (x == ("__classdict__" : Str)) = false := by decide) : PDs X C (.Assign [.Subscript (.Name x px) b tpos] e pos) (S.setK i f g) :=
  ps_imp (ps_putN hu (pe_var hN hv hd hcd) hb ha hs) fun E σ H ⟨Hf, ρ, s, q⟩ => tS_bind s q fun v y H1 Hf1 ρ1 e1 s1 d1 q1 => by
    cases ho : dctAt ρ1 i with
    | none => simp only [ho] at q1; exact (show False from q1).elim
    | some kvs =>
      simp only [ho] at q1
      obtain ⟨a, ho1, h1, h2, h3, _⟩ := s1.dct i kvs (dctAt_get ho)
      refine ⟨.ref a, h1, tS_bind s1 q1 fun w k H2 Hf2 ρ2 e2 s2 d2 q2 => ?_⟩
      obtain ⟨zs, hz, q3⟩ := ofM_s q2
      cases ho2 : dctAt ρ2 i with
      | none => rw [ho2] at hz; cases hz
      | some kvs2 =>
        rw [ho2] at hz
        simp only [Option.bind_some] at hz
        split at hz
        · rename_i ok
          cases hz
          obtain ⟨b, ho3, g1, g2, g3, g4, _⟩ := s2.dct i kvs2 (dctAt_get ho2)
          rw [h1] at g1
          cases g1
          rw [hw] at g4
          refine ⟨a, rfl, g4.put s2.e1 g3 d2 (Dp.mono e2 _ _ d1) ok.1 ok.2 fun ho' hh => ?_⟩
          exact PostS.nx q3 (s2.mutL (dctAt_get ho2) rfl h1 (l' := .dct (putKD kvs2 k y)) (by rw [hw]; exact hh) fun q hq e => absurd e (hp q hq))
        · cases hz
end
end
end PD

set_option maxRecDepth 100000
set_option maxHeartbeats 4000000
set_option autoImplicit false
namespace PD
open PySem PySem.Spec L2
open Evl (Ex)
/-! ### x, y, z = (..): data, new lists, new dicts side by side -/
/-- an owned thing that no slot holds yet -/
structure Fresh (K : PySem.W.Frag) (C : Fc) (σ : L2.St) (Hf H : Hp) (ρ : DE) (a : Addr) (ho : HO) (l : LV) : Prop where
  f : Hf a = none
  h : H a = some ho
  o : HoldsO C.w K Hf a ho l
  z : C.H0 a = none
  n : ∀ p ∈ C.no, a ≠ p.1
  j : ∀ j, IsOwn ρ j → σ[j]? ≠ some (some (.ref a))
/-- a datum, or an owned thing -/
def relX (K : PySem.W.Frag) (C : Fc) : L2.St → Hp → Hp → DE → V → LV → Prop := fun σ Hf H ρ v l => match l with
  | .d x => Dp K Hf v x
  | l => ∃ a ho, v = .ref a ∧ Fresh K C σ Hf H ρ a ho l
def PDn (X : Cx) (C : Fc) (e : Expr) (f : M LV) : Prop := PE X e (tG X.K C (relX X.K C) f)
inductive News (K : PySem.W.Frag) (σ : L2.St) (Hf H : Hp) (ρ : DE) : Fc → List V → List LV → Prop
  | nil {C : Fc} : News K σ Hf H ρ C [] []
  | d {C : Fc} {v : V} {x : D} {vs : List V} {ls : List LV} : Dp K Hf v x → News K σ Hf H ρ C vs ls → News K σ Hf H ρ C (v :: vs) (.d x :: ls)
  | o {C : Fc} {a : Addr} {ho : HO} {l : LV} {vs : List V} {ls : List LV} : Fresh K C σ Hf H ρ a ho l → News K σ Hf H ρ (C.hide a ho) vs ls → News K σ Hf H ρ C (.ref a :: vs) (l :: ls)
def tNs (X : Cx) (C : Fc) (g : M (List LV)) : TA := fun σ H Q => ∃ Hf ρ, SR X.K C Hf H σ ρ ∧ match g ρ with
  | .ok ls ρ' => ∀ (vs : List V) (H' Hf' : Hp), Ex Hf Hf' → SR X.K C Hf' H' σ ρ' → News X.K σ Hf' H' ρ' C vs ls → Q vs H'
  | _ => False
def PDns (X : Cx) (C : Fc) (es : List Expr) (g : M (List LV)) : Prop := PA X es (tNs X C g)
section
variable {X : Cx} {C : Fc} {e : Expr} {es : List Expr} {f : M LV} {g : M (List LV)}
def M.nD (f : M D) : M LV := M.bind f fun x => M.ret (.d x)
def M.nL (f : M (List D)) : M LV := M.bind f fun x => M.ret (.own x)
theorem pdn_d {f : M D} (h : PDe X C e f) : PDn X C e (M.nD f) := pe_imp h fun σ H Q ⟨Hf, ρ, s, h⟩ =>
  tG_bind s h fun v x H1 Hf1 ρ1 e1 s1 d1 h1 => PostG.now (b := v) h1 s1 d1
theorem pdn_l {f : M (List D)} (h : PDl X C e f) : PDn X C e (M.nL f) := pe_imp h fun σ H Q ⟨Hf, ρ, s, h⟩ =>
  tG_bind s h fun v x H1 Hf1 ρ1 e1 s1 d1 h1 => by
    obtain ⟨a, vs, rfl, g1, g2, g3, g4, g5, g6⟩ := d1
    exact PostG.now (b := V.ref a) h1 s1 ⟨a, _, rfl, g1, g2, ⟨vs, rfl, g3⟩, g4, g5, g6⟩
/-- {} -/
theorem pdn_k0 {pos : Pos} : PDn X C (.Dict [] [] pos) (M.ret (.dct [])) := pe_imp pe_dnewK fun σ H Q ⟨Hf, ρ, s, h⟩ p hp => by
  have gr := Grow.mine (o := .dK []) s.e1 hp
  have s1 := s.grow gr
  refine PostG.now (b := V.ref p) h s1 ⟨p, _, rfl, Evl.fresh_back s.e1 hp, upd_same, .inl ⟨[], rfl, .nil⟩, s.h0 hp, fun q hq e => ?_, fun j ⟨l, hj, oj⟩ e => ?_⟩
  · obtain ⟨_, h⟩ := s.no q hq
    rw [← e, hp] at h
    cases h
  · obtain ⟨b, ho, h1, h2, h3, _⟩ := s.ownd j l hj oj
    rw [h1] at e
    cases e
    rw [hp] at h3
    cases h3
theorem pdns_nil : PDns X C [] (M.ret []) := pa_imp pa_nil fun σ H Q ⟨Hf, ρ, s, h⟩ => h [] H Hf (Ex.refl _) s .nil
def M.nC (f : M LV) (g : M (List LV)) : M (List LV) := M.bind f fun l => M.bind g fun ls => M.ret (l :: ls)
theorem Fresh.later {K : PySem.W.Frag} {σ : L2.St} {Hf H Hf' H' : Hp} {ρ ρ' : DE} {a : Addr} {ho : HO} {l : LV} (r : Fresh K C σ Hf H ρ a ho l) (e : Ex Hf Hf') (s : SR K (C.hide a ho) Hf' H' σ ρ') : Fresh K C σ Hf' H' ρ' a ho l := by
  obtain ⟨n1, n2⟩ := s.no (a, ho) List.mem_cons_self
  refine ⟨n1, n2, r.o.mono e, r.z, r.n, fun j ⟨l, hj, oj⟩ h => ?_⟩
  obtain ⟨b, ho', h1, _, _, _, _, h6⟩ := s.ownd j l hj oj
  rw [h1] at h
  cases h
  exact h6 (a, ho) List.mem_cons_self rfl
/-- what is made around does not matter -/
theorem pa_any {io : Option (Nat × Addr) × World} {es : List Expr} {g : M (List LV)} (h : ∀ C : Fc, C.sg = io → PDns X C es g) : PA X es (fun σ H Q => ∃ C : Fc, C.sg = io ∧ tNs X C g σ H Q) := ⟨fun pos pins s σ H Q I ⟨C, e, q⟩ => (h C e).run pos pins s σ H Q I q⟩
theorem pdns_cons (ha : PDn X C e f) (hr : ∀ C' : Fc, C'.sg = C.sg → PDns X C' es g) (hs : starEach (e :: es) X.env = (false, eval e X.env) :: starEach es X.env := by rfl) : PDns X C (e :: es) (M.nC f g) :=
  pa_imp (pa_cons ha (pa_any hr) hs) fun σ H Q ⟨Hf, ρ, s, h⟩ => by
    refine ⟨Hf, ρ, s, ?_⟩
    unfold M.nC M.bind at h
    cases hf : f ρ with
    | ex e ρ1 => rw [hf] at h; exact (show False from h).elim
    | bad => rw [hf] at h; exact (show False from h).elim
    | ok l ρ1 =>
      rw [hf] at h
      simp only at h
      intro v H1 Hf1 e1 s1 r1
      cases hg : g ρ1 with
      | ex e ρ2 => rw [hg] at h; exact (show False from h).elim
      | bad => rw [hg] at h; exact (show False from h).elim
      | ok ls ρ2 =>
        rw [hg] at h
        have h : ∀ (vs : List V) (H' Hf' : Hp), Ex Hf Hf' → SR X.K C Hf' H' σ ρ2 → News X.K σ Hf' H' ρ2 C vs (l :: ls) → Q vs H' := h
        have own : l.owned = true → relX X.K C σ Hf1 H1 ρ1 v l → ∃ C' : Fc, C'.sg = C.sg ∧ tNs X C' g σ H1 fun vs H2 => Q (v :: vs) H2 := fun hl r1 => by
          obtain ⟨a, ho, rfl, fr⟩ : ∃ a ho, v = .ref a ∧ Fresh X.K C σ Hf1 H1 ρ1 a ho l := by cases l <;> first | (cases hl; done) | exact r1
          refine ⟨C.hide a ho, rfl, Hf1, ρ1, s1.hide fr.f fr.h fr.j, ?_⟩
          rw [hg]
          exact fun vs H2 Hf2 e2 s2 news => h (.ref a :: vs) H2 Hf2 (e1.trans e2) s2.show_ (.o (fr.later e2 s2) news)
        cases l with
        | d x =>
          refine ⟨C, rfl, Hf1, ρ1, s1, ?_⟩
          rw [hg]
          exact fun vs H2 Hf2 e2 s2 news => h (v :: vs) H2 Hf2 (e1.trans e2) s2 (.d (Dp.mono e2 _ _ r1) news)
        | own xs => exact own rfl r1
        | dct kvs => exact own rfl r1
theorem News.move {K : PySem.W.Frag} {σ σ' : L2.St} {Hf H : Hp} {ρ ρ' : DE} {C1 : Fc} {vs : List V} {ls : List LV} (h : News K σ Hf H ρ C1 vs ls) : ∀ {C2 : Fc}, C2.H0 = C1.H0 → C2.w = C1.w → (∀ p ∈ C2.no, p ∈ C1.no) →
    (∀ (j : Nat) (b : Addr), IsOwn ρ' j → σ'[j]? = some (some (.ref b)) → (∃ j', IsOwn ρ j' ∧ σ[j']? = some (some (.ref b))) ∨ ∃ ho, (b, ho) ∈ C1.no) → News K σ' Hf H ρ' C2 vs ls := by
  induction h with
  | nil => exact fun _ _ _ _ => .nil
  | d hd _ ih => exact fun h1 h2 h3 h4 => .d hd (ih h1 h2 h3 h4)
  | @o C a ho l vs ls fr _ ih =>
    intro C2 h1 h2 h3 h4
    refine .o ⟨fr.f, fr.h, by rw [h2]; exact fr.o, by rw [h1]; exact fr.z, fun p hp => fr.n p (h3 p hp), fun j hj e => ?_⟩ (ih (C2 := C2.hide a ho) h1 h2 (fun p hp => ?_) fun j b hj e => ?_)
    · rcases h4 j a hj e with ⟨j', g1, g2⟩ | ⟨ho', g⟩
      · exact fr.j j' g1 g2
      · exact fr.n _ g rfl
    · rcases List.mem_cons.mp hp with e | hp
      · rw [e]; exact List.mem_cons_self
      · exact List.mem_cons_of_mem _ (h3 p hp)
    · rcases h4 j b hj e with g | ⟨ho', g⟩
      · exact .inl g
      · exact .inr ⟨ho', List.mem_cons_of_mem _ g⟩
/-- the names take them -/
theorem News.set {K : PySem.W.Frag} {σ : L2.St} {Hf H : Hp} {ρ : DE} {C : Fc} {v : V} {vs : List V} {l : LV} {ls : List LV} (h : News K σ Hf H ρ C (v :: vs) (l :: ls)) (s : SR K C Hf H σ ρ) {i : Nat} (hp : ∀ q, C.io = some q → q.1 ≠ i) :
    SR K C Hf H (σ.set i (some v)) (ρ.set i (some l)) ∧ News K (σ.set i (some v)) Hf H (ρ.set i (some l)) C vs ls := by
  cases h with
  | d hd hn =>
    refine ⟨s.setD hd hp, hn.move rfl rfl (fun p h => h) fun j b ⟨m, hj, oj⟩ e => ?_⟩
    rcases get_set hj with ⟨_, e2, _⟩ | ⟨ne, hj⟩
    · cases e2
      cases oj
    · rw [List.getElem?_set_ne ne] at e
      exact .inl ⟨j, ⟨m, hj, oj⟩, e⟩
  | @o _ a ho _ _ _ fr hn =>
    refine ⟨s.setL fr.f fr.h fr.o fr.z fr.n fr.j hp, hn.move rfl rfl (fun p h => List.mem_cons_of_mem _ h) fun j b ⟨m, hj, oj⟩ e => ?_⟩
    rcases get_set hj with ⟨e1, e2, hl⟩ | ⟨ne, hj⟩
    · subst e1
      rw [List.getElem?_set_self (by rw [s.len]; exact hl)] at e
      cases e
      exact .inr ⟨ho, List.mem_cons_self⟩
    · rw [List.getElem?_set_ne ne] at e
      exact .inl ⟨j, ⟨m, hj, oj⟩, e⟩
theorem News.len {K : PySem.W.Frag} {σ : L2.St} {Hf H : Hp} {ρ : DE} {C : Fc} {vs : List V} {ls : List LV} (h : News K σ Hf H ρ C vs ls) : vs.length = ls.length := by
  induction h with
  | nil => rfl
  | d _ _ ih => rw [List.length_cons, List.length_cons, ih]
  | o _ _ ih => rw [List.length_cons, List.length_cons, ih]
def setN (ρ : DE) : List Nat → List LV → Option DE
  | [], [] => some ρ
  | i :: is, l :: ls => setN (ρ.set i (some l)) is ls
  | _, _ => none
def parR (is : List Nat) (r : R (List LV)) : Fl := match r with
  | .ok ls ρ => (match setN ρ is ls with
    | some ρ' => .nx ρ'
    | none => .bad)
  | _ => .bad
/-- x, y, .. = a, b, .. -/
def S.parN (is : List Nat) (g : M (List LV)) : MS := fun ρ => parR is (g ρ)
section
variable {pos : Pos}
theorem pd_parN2 {i j : Nat} {x y : Str} {a b : Expr} {px py pt : Pos} {kt k2 pt2} (hpi : ∀ q, C.io = some q → q.1 ≠ i) (hpj : ∀ q, C.io = some q → q.1 ≠ j) (hc : X.calm = true) (hN : X.N.Nodup) (ha : PDns X C [a, b] g) (hi : X.N[i]? = some x := by rfl) (hj : X.N[j]? = some y := by rfl) (hij : i ≠ j := by decide)
    (hx : X.env.scope.names.lookup x = some .local := by rfl) (hy : X.env.scope.names.lookup y = some .local := by rfl)
    (hw : swappedStores [.Tuple [.Name x px, .Name y py] kt pt] (.Tuple [a, b] k2 pt2) X.env = pure (some [x, y]) := by rfl)
    (hs : swapsWithSole [.Tuple [.Name x px, .Name y py] kt pt] (.Tuple [a, b] k2 pt2) pos.line X.env = pure false := by rfl) :
    PDs X C (.Assign [.Tuple [.Name x px, .Name y py] kt pt] (.Tuple [a, b] k2 pt2) pos) (S.parN [i, j] g) :=
  ps_imp (ps_par hc hN hi hj hij hx hy ha hw hs) fun E σ H ⟨Hf, ρ, s, q⟩ => by
    refine ⟨Hf, ρ, s, ?_⟩
    unfold S.parN parR at q
    cases hg : g ρ with
    | ex e ρ1 => rw [hg] at q; exact (show False from q).elim
    | bad => rw [hg] at q; exact (show False from q).elim
    | ok ls ρ1 =>
      rw [hg] at q
      simp only at q
      intro vs H1 Hf1 e1 s1 nw
      match ls, q with
      | [], q => exact (show False from q).elim
      | [_], q => exact (show False from q).elim
      | _ :: _ :: _ :: _, q => exact (show False from q).elim
      | [l1, l2], q =>
        have hl := nw.len
        match vs, hl with
        | [v1, v2], _ =>
          obtain ⟨s2, n2⟩ := nw.set s1 hpi
          obtain ⟨s3, n3⟩ := n2.set s2 hpj
          exact ⟨v1, v2, rfl, PostS.nx (PostS.mono e1 q) s3⟩
theorem pd_parN3 {i j l : Nat} {x y z : Str} {a b c : Expr} {px py pz pt : Pos} {kt k2 pt2} (hpi : ∀ q, C.io = some q → q.1 ≠ i) (hpj : ∀ q, C.io = some q → q.1 ≠ j) (hpl : ∀ q, C.io = some q → q.1 ≠ l) (hc : X.calm = true) (hN : X.N.Nodup) (ha : PDns X C [a, b, c] g)
    (hi : X.N[i]? = some x := by rfl) (hj : X.N[j]? = some y := by rfl) (hl : X.N[l]? = some z := by rfl) (hij : i ≠ j := by decide) (hil : i ≠ l := by decide) (hjl : j ≠ l := by decide)
    (hx : X.env.scope.names.lookup x = some .local := by rfl) (hy : X.env.scope.names.lookup y = some .local := by rfl) (hz : X.env.scope.names.lookup z = some .local := by rfl)
    (hw : swappedStores [.Tuple [.Name x px, .Name y py, .Name z pz] kt pt] (.Tuple [a, b, c] k2 pt2) X.env = pure (some [x, y, z]) := by rfl)
    (hs : swapsWithSole [.Tuple [.Name x px, .Name y py, .Name z pz] kt pt] (.Tuple [a, b, c] k2 pt2) pos.line X.env = pure false := by rfl) :
    PDs X C (.Assign [.Tuple [.Name x px, .Name y py, .Name z pz] kt pt] (.Tuple [a, b, c] k2 pt2) pos) (S.parN [i, j, l] g) :=
  ps_imp (ps_par3 hc hN hi hj hl hij hil hjl hx hy hz ha hw hs) fun E σ H ⟨Hf, ρ, s, q⟩ => by
    refine ⟨Hf, ρ, s, ?_⟩
    unfold S.parN parR at q
    cases hg : g ρ with
    | ex e ρ1 => rw [hg] at q; exact (show False from q).elim
    | bad => rw [hg] at q; exact (show False from q).elim
    | ok ls ρ1 =>
      rw [hg] at q
      simp only at q
      intro vs H1 Hf1 e1 s1 nw
      match ls, q with
      | [], q => exact (show False from q).elim
      | [_], q => exact (show False from q).elim
      | [_, _], q => exact (show False from q).elim
      | _ :: _ :: _ :: _ :: _, q => exact (show False from q).elim
      | [l1, l2, l3], q =>
        have hl := nw.len
        match vs, hl with
        | [v1, v2, v3], _ =>
          obtain ⟨s2, n2⟩ := nw.set s1 hpi
          obtain ⟨s3, n3⟩ := n2.set s2 hpj
          obtain ⟨s4, n4⟩ := n3.set s3 hpl
          exact ⟨v1, v2, v3, rfl, PostS.nx (PostS.mono e1 q) s4⟩
end
end
end PD

set_option maxRecDepth 100000
set_option maxHeartbeats 4000000
set_option autoImplicit false
namespace L2
open PySem PySem.Spec PyProof.Rows PD
/-! ### {k: v} with a tuple for a key -/
def d1N (w : World) (K : PySem.W.Frag) (p : Addr) (Q : VK) : List (V × V) → Hp → Prop := fun ps H2 => H2 p = some (.dK []) ∧ ∃ b k y, ps = [(.ref b, y)] ∧ KeyIs K H2 (.ref b) k ∧
  ∀ r, RelV y r → Q (.ref p) (upd H2 p (.ext (RawN w p (storedH [] k b r))))
def tDisp1N (w : World) (K : PySem.W.Frag) (tk tv : TE) : TE := fun σ H Q => ∀ p, H p = none → tk σ (upd H p (.dK [])) fun x H1 => tv σ H1 fun y H2 => d1N w K p Q [(x, y)] H2
theorem pe_disp1N {X : Cx} {pos : Pos} {ke ve : Expr} {tk tv : TE} (hu : X.A.units + 9 < cLine) (hk : PE X ke tk) (hv : PE X ve tv) : PE X (.Dict [some ke] [ve] pos) (tDisp1N X.w X.K tk tv) := by
  refine ⟨fun pins s σ H Q I q => ?_⟩
  have hn := I.hok.fresh (Nat.le_refl s.heap.objs.size)
  have I1 := I.laid (a := s.heap.objs.size) (o := .dK []) (h' := s.heap.push { cls := .type "dict", data := .dict #[] }) (t' := s.toks) (fun _ _ q => Heap.get?_push_of_some _ q) (Nat.le_refl _) (dk_empty s.heap I.big)
  have h : PPs X pos [some ke] [ve] [(tk, tv)] := pps_cons hk hv pps_nil
  have h1 := h.run pins _ σ _ (d1N X.w X.K s.heap.objs.size Q) I1 (q s.heap.objs.size hn)
  have hlen := pairTrees_length [some ke] [ve] X.env pos rfl rfl
  rw [arm_eval_Dict, zip_pairTrees [some ke] [ve] X.env pos rfl rfl, dictDisplay_pairs (pairTrees [some ke] [ve] X.env pos) (fun e => by rw [e] at hlen; cases hlen) (by rw [hlen]; show 1 < 17; decide)]
  refine wpAny_bind (wpAny_standAt (wpAny_bind (wpAny_subDictH (knd := nestedKind X.prog X.w) (show X.A.units + 8 < cLine by omega) (by rw [hlen]; show 1 ≤ 15; decide) (thn h1 fun vs s2 hh => ?_))))
  obtain ⟨ps, H2, I2, rel, e, b, k, y, rfl, kk, hq⟩ := hh
  cases rel with
  | @cons p q ps qs hr t =>
    cases t
    obtain ⟨q1, q2⟩ := q
    obtain ⟨r1, r2⟩ := hr
    obtain rfl : q1 = Value.ref b := r1
    obtain ⟨hd, dd, hm⟩ := raw_at I2 (xs := []) (.inr ⟨e, rfl⟩) (fun z hz => by cases hz)
    refine ⟨[(k, b, q2)], ⟨rfl, rfl, kk.is I2, True.intro⟩, dd, fun h' tk' dd' hs' => wpAny_pure ⟨.ref s.heap.objs.size, _, ?_, rfl, hq q2 r2⟩⟩
    have he : ∃ q, h'.get? s.heap.objs.size = some q := let ⟨q, _, _, hq, _⟩ := dd'; ⟨q, hq⟩
    exact d_write I2 hm hs' he (raw_new (by have := storedH_len [] k b q2; rw [sizeLine_eq]; simp only [List.length_nil] at this; omega) hd dd')
end L2
namespace PD
open PySem PySem.Spec L2
open Evl (Ex)
section
variable {X : Cx} {C : Fc} {pos : Pos} {ke ve : Expr} {f g : M D}
theorem u9 {n : Nat} (h : n + 64 < cLine) : n + 9 < cLine := by omega
/-- {k: v}, a new dict -/
def M.dict1 (f g : M D) : M LV := M.bind f fun k => M.bind g fun v => M.lift (if tupK k = true then some (.dct (putKD [] k v)) else none)
theorem pdn_k1 (hw : C.w = X.w) (hu : X.A.units + 9 < cLine) (ha : ∀ C' : Fc, C'.sg = C.sg → PDe X C' ke f) (hb : ∀ C' : Fc, C'.sg = C.sg → PDe X C' ve g) : PDn X C (.Dict [some ke] [ve] pos) (M.dict1 f g) :=
  pe_imp (pe_disp1N hu (pe_any ha) (pe_any hb)) fun σ H Q ⟨Hf, ρ, s, h⟩ p hp => by
    have nf : Hf p = none := Evl.fresh_back s.e1 hp
    have hno : ∀ q ∈ C.no, p ≠ q.1 := fun q hq e => by
      obtain ⟨_, h⟩ := s.no q hq
      rw [← e, hp] at h
      cases h
    have s0 : SR X.K (C.hide p (.dK [])) Hf (upd H p (.dK [])) σ ρ := (s.grow (Grow.mine (o := .dK []) s.e1 hp)).hide nf upd_same fun j ⟨l, hj, oj⟩ e => by
      obtain ⟨b, ho, h1, h2, h3, _⟩ := s.ownd j l hj oj
      rw [h1] at e
      cases e
      rw [hp] at h3
      cases h3
    refine ⟨C.hide p (.dK []), rfl, Hf, ρ, s0, ?_⟩
    unfold M.dict1 M.bind at h
    cases hf : f ρ with
    | ex e ρ1 => rw [hf] at h; exact fun H' Hf' e1 s1 => h H' Hf' e1 s1.show_
    | bad => rw [hf] at h; exact (show False from h).elim
    | ok k ρ1 =>
      rw [hf] at h
      simp only at h
      intro v H1 Hf1 e1 s1 d1
      refine ⟨C.hide p (.dK []), rfl, Hf1, ρ1, s1, ?_⟩
      cases hg : g ρ1 with
      | ex e ρ2 => rw [hg] at h; exact fun H' Hf' e2 s2 => h H' Hf' (e1.trans e2) s2.show_
      | bad => rw [hg] at h; exact (show False from h).elim
      | ok x ρ2 =>
        rw [hg] at h
        simp only at h
        intro y H2 Hf2 e2 s2 d2
        obtain ⟨n1, n2⟩ := s2.no (p, .dK []) List.mem_cons_self
        unfold M.lift at h
        by_cases ht : tupK k = true
        case neg => rw [if_neg ht] at h; exact (show False from h).elim
        rw [if_pos ht] at h
        obtain ⟨zs, kk, rfl, hk, hd⟩ := tupK_of ht
        have d1' : Dp X.K Hf2 v (.tuple zs) := Dp.mono e2 _ _ d1
        obtain ⟨b, vs, rfl, _, _⟩ := d1'.tup_of
        refine ⟨n2, b, kk, y, rfl, KeyIs.mono s2.e1 ⟨⟨b, rfl⟩, _, d1', hk, hd⟩, fun r rr => ?_⟩
        have s3 := s2.rehide (ws := .ext (RawN X.w p (storedH [] kk b r))) hno (s.h0 hp)
        refine h (.ref p) _ Hf2 (e1.trans e2) s3.show_ ⟨p, _, rfl, n1, upd_same, ?_, s.h0 hp, hno, fun j ⟨l, hj, oj⟩ e => ?_⟩
        · rw [hw]
          exact .inr ⟨_, rfl, RelN.put hk hd d1' rr d2 .nil, storedH_ne⟩
        · obtain ⟨b', ho, z1, _, _, _, _, z6⟩ := s2.ownd j l hj oj
          rw [z1] at e
          cases e
          exact z6 (p, .dK []) List.mem_cons_self rfl
/-- d = {} and the like -/
def S.new (i : Nat) (f : M LV) : MS := S.ofM f fun l ρ => .nx (ρ.set i (some l))
theorem pd_new {i : Nat} {x : Str} {e : Expr} {f : M LV} {pos' : Pos} (hp : ∀ q, C.io = some q → q.1 ≠ i) (hN : X.N.Nodup) (ha : PDn X C e f) (hi : X.N[i]? = some x := by rfl) (hx : Loc X.env.scope x := by first | exact Or.inl rfl | exact Or.inr rfl) (hs : swapsWith e (some (.Name x pos')) pos.line X.env = pure false := by rfl)
    (hf : X.fn x = true ∨ X.env.scope.names.lookup x = some .local := by first | exact .inl rfl | exact .inr rfl) : PDs X C (.Assign [.Name x pos'] e pos) (S.new i f) :=
  ps_imp (ps_set hN hi hx ha hs hf) fun E σ H ⟨Hf, ρ, s, q⟩ => tS_bind s q fun v l H1 Hf1 ρ1 e1 s1 d1 h1 => by
    cases l with
    | d x => exact PostS.nx h1 (s1.setD d1 hp)
    | own xs =>
      obtain ⟨a, ho, rfl, fr⟩ := d1
      exact PostS.nx h1 (s1.setL fr.f fr.h fr.o fr.z fr.n fr.j hp)
    | dct kvs =>
      obtain ⟨a, ho, rfl, fr⟩ := d1
      exact PostS.nx h1 (s1.setL fr.f fr.h fr.o fr.z fr.n fr.j hp)
/-- a new list times an int -/
def repO (xs : List D) : D → Option (List D)
  | .int k => if -(2 ^ 63) ≤ k ∧ k < 2 ^ 63 ∧ xs.length * k.toNat ≤ sizeLine then some (List.replicate k.toNat xs).flatten else none
  | _ => none
def M.repL (f : M (List D)) (g : M D) : M (List D) := M.bind f fun xs => M.bind g fun y => M.lift (repO xs y)
theorem pdl_rep {a b : Expr} {f : M (List D)} {g : M D} (ha : PDl X C a f) (hb : ∀ C' : Fc, C'.sg = C.sg → PDe X C' b g) : PDl X C (.BinOp a .Mult b pos) (M.repL f g) :=
  pe_imp (pe_op op_rep ha (pe_any hb)) fun σ H Q ⟨Hf, ρ, s, h⟩ => tG_bind s h fun v xs H1 Hf1 ρ1 e1 s1 r1 h1 => by
    obtain ⟨a, vs, rfl, g1, g2, g3, g4, g5, g6⟩ := r1
    refine ⟨C.hide a (.lst vs), rfl, Hf1, ρ1, s1.hide g1 g2 g6, ?_⟩
    unfold M.bind at h1
    cases hg : g ρ1 with
    | ex e ρ2 => rw [hg] at h1; exact fun H' Hf' e2 s2 => h1 H' Hf' e2 s2.show_
    | bad => rw [hg] at h1; exact (show False from h1).elim
    | ok y ρ2 =>
      rw [hg] at h1
      simp only at h1
      intro w H2 Hf2 e2 s2 d2
      obtain ⟨n1, n2⟩ := s2.no (a, .lst vs) List.mem_cons_self
      obtain ⟨z, hz, h4⟩ := PostG.lift h1
      cases y <;> first | (cases hz; done) | skip
      rename_i k
      have hz : (if -(2 ^ 63) ≤ k ∧ k < 2 ^ 63 ∧ xs.length * k.toNat ≤ sizeLine then some (List.replicate k.toNat xs).flatten else none) = some z := hz
      split at hz
      · rename_i hk
        cases hz
        have g3' := DpAll.mono e2 _ _ g3
        have hl : vs.length = xs.length := DpAll.length g3
        refine ⟨a, k, vs, rfl, d2.int_of, n2, hk.1, hk.2.1, by rw [hl]; exact hk.2.2, fun p hp => ?_⟩
        have s3 := s2.show_
        exact PostG.nowG (b := V.ref p) (PostG.mono e2 h4) s3 (Grow.mine (o := .lst (List.replicate k.toNat vs).flatten) s3.e1 hp) (s3.newL hp (DpAll.rep _ g3'))
      · cases hz
end
end PD

set_option maxRecDepth 100000
set_option maxHeartbeats 4000000
set_option autoImplicit false
namespace PD
open PySem PySem.Spec L2
open Evl (Ex)
/-! ### four names at once: by way of a tuple -/
theorem News.grow {K : PySem.W.Frag} {σ : L2.St} {Hf H : Hp} {ρ : DE} {C : Fc} {vs : List V} {ls : List LV} {p : Addr} {o : HO} (hp : H p = none) (h : News K σ Hf H ρ C vs ls) : News K σ Hf (upd H p o) ρ C vs ls := by
  induction h with
  | nil => exact .nil
  | d hd _ ih => exact .d hd ih
  | @o C a ho l vs ls fr _ ih =>
    refine .o ⟨fr.f, ?_, fr.o, fr.z, fr.n, fr.j⟩ ih
    have : a ≠ p := fun e => by have := fr.h; rw [e, hp] at this; cases this
    rw [upd_ne this]
    exact fr.h
section
variable {X : Cx} {C : Fc} {pos : Pos} {g : M (List LV)}
theorem pd_parN4 {i j k l : Nat} {x y z u : Str} {a b c d : Expr} {px py pz pu pt : Pos} {kt k2 pt2} (hpi : ∀ q, C.io = some q → q.1 ≠ i) (hpj : ∀ q, C.io = some q → q.1 ≠ j) (hpk : ∀ q, C.io = some q → q.1 ≠ k) (hpl : ∀ q, C.io = some q → q.1 ≠ l) (hc : X.calm = true) (hN : X.N.Nodup) (ha : PDns X C [a, b, c, d] g)
    (hi : X.N[i]? = some x := by rfl) (hj : X.N[j]? = some y := by rfl) (hk : X.N[k]? = some z := by rfl) (hl : X.N[l]? = some u := by rfl)
    (hx : X.env.scope.names.lookup x = some .local := by rfl) (hy : X.env.scope.names.lookup y = some .local := by rfl) (hz : X.env.scope.names.lookup z = some .local := by rfl) (hu : X.env.scope.names.lookup u = some .local := by rfl)
    (hn : (assignEach [.Name x px, .Name y py, .Name z pz, .Name u pu] X.env).length = 4 := by rfl) (hst : (assignEach [.Name x px, .Name y py, .Name z pz, .Name u pu] X.env).findIdx? (·.1) = none := by rfl)
    (hs : swapsWithSole [.Tuple [.Name x px, .Name y py, .Name z pz, .Name u pu] kt pt] (.Tuple [a, b, c, d] k2 pt2) pos.line X.env = pure false := by rfl) (hw : swappedStores [.Tuple [.Name x px, .Name y py, .Name z pz, .Name u pu] kt pt] (.Tuple [a, b, c, d] k2 pt2) X.env = pure none := by rfl)
    (h1 : (assignEach [.Tuple [.Name x px, .Name y py, .Name z pz, .Name u pu] kt pt] X.env).map (·.2) = [assign (.Tuple [.Name x px, .Name y py, .Name z pz, .Name u pu] kt pt) X.env] := by rfl) :
    PDs X C (.Assign [.Tuple [.Name x px, .Name y py, .Name z pz, .Name u pu] kt pt] (.Tuple [a, b, c, d] k2 pt2) pos) (S.parN [i, j, k, l] g) :=
  ps_imp (ps_asg (pe_tup ha) (pg_tup hc (pgs_cons (pg_name hN hi (.inl hx) (.inr hx)) (pgs_cons (pg_name hN hj (.inl hy) (.inr hy)) (pgs_cons (pg_name hN hk (.inl hz) (.inr hz)) (pgs_cons (pg_name hN hl (.inl hu) (.inr hu)) pgs_nil)))) hn hst) hs hw h1) fun E σ H ⟨Hf, ρ, s, q⟩ => by
    refine ⟨Hf, ρ, s, ?_⟩
    unfold S.parN parR at q
    cases hg : g ρ with
    | ex e ρ1 => rw [hg] at q; exact (show False from q).elim
    | bad => rw [hg] at q; exact (show False from q).elim
    | ok ls ρ1 =>
      rw [hg] at q
      simp only at q
      intro vs H1 Hf1 e1 s1 nw
      have hlen := nw.len
      match ls, q with
      | [], q => exact (show False from q).elim
      | [_], q => exact (show False from q).elim
      | [_, _], q => exact (show False from q).elim
      | [_, _, _], q => exact (show False from q).elim
      | _ :: _ :: _ :: _ :: _ :: _, q => exact (show False from q).elim
      | [l1, l2, l3, l4], q =>
        match vs, hlen with
        | [v1, v2, v3, v4], _ =>
          refine ⟨by rw [sizeLine_eq]; show 4 ≤ 16777216; decide, fun p hp => ?_⟩
          have s1' := s1.grow (Grow.mine (o := .tup [v1, v2, v3, v4]) s1.e1 hp)
          have nw' := nw.grow (o := .tup [v1, v2, v3, v4]) hp
          obtain ⟨s2, n2⟩ := nw'.set s1' hpi
          obtain ⟨s3, n3⟩ := n2.set s2 hpj
          obtain ⟨s4, n4⟩ := n3.set s3 hpk
          obtain ⟨s5, n5⟩ := n4.set s4 hpl
          exact ⟨p, _, rfl, SqT.of upd_same, rfl, v1, _, rfl, v2, _, rfl, v3, _, rfl, v4, _, rfl, rfl, PostS.nx (PostS.mono e1 q) s5⟩
end
end PD

set_option maxRecDepth 100000
set_option maxHeartbeats 4000000
set_option autoImplicit false
namespace PySem
open Sem (wp)
theorem pd_meets_enum {v : Value} {o : Obj} {H : Heap → Prop} (B : Begins v o H) :
    Meets (Builtin.«enumerate.__new__» ⟨[.type "enumerate", v], []⟩) (fun _ R s => H s.heap ∧
      R (.ok (.ret (.ref (s.heap.push o).objs.size))) { s with heap := (s.heap.push o).push { cls := .type "enumerate", data := .fields #[.none, .bool false, .ref s.heap.objs.size, rawInt 0, .none, .none] } }) :=
  .of_wp fun prog w A R s h => by
    obtain ⟨hp, g, d, tk, os⟩ := s; obtain ⟨h1, h⟩ := h
    have hsub := sub_enumerate
    have q1 : ∀ {A' : Around} {E : Value → Shared → Prop} {Q : Value → Shared → Prop}, Q (.ref hp.objs.size) ⟨hp.push o, g, d, tk, os⟩ → wpAny (model prog w) A' (pyIter v) Q E ⟨hp, g, d, tk, os⟩ :=
      fun q => B.iter prog w _ _ ⟨hp, g, d, tk, os⟩ _ h1 q
    wp_walk using q1
    refine wpAny_stack_any fun st => wpAny_pure ?_
    split
    · rename_i c _ _ _ _ _
      cases (c == Value.type "enumerate")
      · wp_walk using q1
        exact ⟨_, rfl, h⟩
      · wp_walk using q1
        exact ⟨_, rfl, h⟩
    · wp_walk using q1
      exact ⟨_, rfl, h⟩
section
variable {prog : Program} {w : World} {A : Around} {E : Value → Shared → Prop} {s : Shared}
theorem pd_enum_begins {v : Value} {o : Obj} {H : Heap → Prop} {Q : Value → Shared → Prop} (B : Begins v o H) (h1 : H s.heap)
    (h : ∀ h', IsEnum h' (s.heap.objs.size + 1) s.heap.objs.size 0 .none → h'.get? s.heap.objs.size = some o → h'.objs.size = s.heap.objs.size + 2 →
      (∀ b o, s.heap.get? b = some o → h'.get? b = some o) → Q (.ref (s.heap.objs.size + 1)) { s with heap := h' }) :
    wpAny (model prog w) A (call (.type "enumerate") [v]) Q E s := by
  refine callType_new F.called_enumerate (by decide) (F.typeCall_enumerate_1 _) (F.newCall_enumerate_1 _) (fun obj => F.args_object_init_2 obj _) F.entry_enumerate_new
    (pd_meets_enum B) ⟨h1, ?_⟩
  have hz : (s.heap.push o).objs.size = s.heap.objs.size + 1 := Heap.size_push ..
  show _ ∧ _
  rw [hz]
  have he : IsEnum ((s.heap.push o).push { cls := .type "enumerate", data := .fields #[.none, .bool false, .ref s.heap.objs.size, rawInt 0, .none, .none] }) (s.heap.objs.size + 1) s.heap.objs.size 0 .none := by
    have := Heap.get?_push_size (s.heap.push o) (o := { cls := .type "enumerate", data := .fields #[.none, .bool false, .ref s.heap.objs.size, rawInt 0, .none, .none] }) rfl
    rw [hz] at this; exact this
  refine ⟨⟨_, he, rfl⟩, h _ he (Heap.get?_push_of_some _ (Heap.get?_push_size _ B.free)) (by rw [Heap.size_push, hz]) fun b o x => Heap.get?_push_of_some _ (Heap.get?_push_of_some _ x)⟩
end
end PySem
namespace PySem
open Sem (wp)
section
variable {prog : Program} {w : World} {A : Around} {E : Value → Shared → Prop} {s : Shared}
theorem pd_enum_endT {e it a : Addr} {items : Array Value} {i : Nat} {old : Value} {Q : Option Value → Shared → Prop} (hh : A.handled = none)
    (he : IsEnum s.heap e it i old) (hit : s.heap.IsTupleIter it a i) (ht : s.heap.IsTuple a items) (hx : items[i]? = none)
    (hQ : ∀ h', Heap.ExtBut it s.heap h' → Q none { s with heap := h' }) : wpAny (model prog w) A (pyNext (.ref e)) Q E s := by
  have hT : s.TypeIs (.ref e) "enumerate" := ⟨_, he, rfl⟩
  unfold pyNext
  refine wpAny_bind (wpAny_attempt (wpAny_callSpecial?_slot (name := Str.ofString "__next__") hT F.slot_enumerate_next
    (wpAny_call_entry F.slot_enumerate_next hT F.entry_enumerate_next ?_ (F.args_enumerate_next_1 _))))
  show wpAny _ _ (field (.ref e) 2 >>= _) _ _ _
  refine wpAny_bind (wpAny_field he rfl (x := .ref it) rfl ?_)
  refine wpAny_bind (wpAny_nextOf_tuple_end (A := A.in1) hh hit ht hx fun h' x he' hx' => ?_)
  obtain ⟨o, ho, hc⟩ := hx'
  refine wpAny_bind (wpAny_isInstance (T := "StopIteration") (b := true) ⟨o, ho, hc⟩ isSubtype_stop ?_)
  exact wpAny_pure (hQ _ he')
end
end PySem
namespace PD
open PySem PySem.Spec L2 PyProof.Rows
/-! ### enumerate(tuple), enumerate(list) -/
/-- the tuple at a, each item in a new pair -/
def IteT (K : PySem.W.Frag) (a : Addr) : It :=
  ⟨fun i H => ∃ (xs : List V) (x : V), SqT K H a xs ∧ xs[i]? = some x, fun i H v H' => ∃ T x, v = .ref T ∧ H T = none ∧ H' = upd H T (.tup [.int (i : Nat), x]) ∧ ∀ xs, SqT K H a xs → xs[i]? = some x, fun i H => ∃ xs : List V, SqT K H a xs ∧ xs.length ≤ i⟩
theorem turn_enumT {P : Program} {w : World} {K : PySem.W.Frag} {elts : List Expr} {kk : Nat} {tpos : Pos} (a e it : Addr) (hne : e ≠ it) (hea : e ≠ a) (hai : a ≠ it) :
    Turn P w K (.Tuple elts kk tpos) (IteT K a) [e, it] e (fun i h => (∃ old, IsEnum h e it ((i : Nat) : Int) old) ∧ h.IsTupleIter it a i) where
  mem := by simp
  obj := fun i h st b hb => by
    obtain ⟨⟨old, he⟩, ⟨o, ho, hc, hd⟩⟩ := st
    have e' : b = e ∨ b = it := by simpa using hb
    rcases e' with z | z
    · rw [z]; exact ⟨_, he, fun v q => nomatch q⟩
    · rw [z]; exact ⟨o, ho, fun v q => by rw [hd] at q; cases q⟩
  keep := fun i h h' st k => let ⟨⟨old, he⟩, hi⟩ := st; ⟨⟨old, k e (by simp) _ he⟩, hi.at fun o q => k it (by simp) o q⟩
  item := by
    intro X hP hw hK hc i pins s σ H E I hf st hg
    subst hP hw hK
    obtain ⟨⟨old, he⟩, hit⟩ := st
    obtain ⟨xs, x, hq, hx⟩ := hg
    obtain ⟨its, rv, p, hz⟩ := I.tuple hq
    obtain ⟨u, hu, ru⟩ := rv.get hx
    have hel : e < s.heap.objs.size := Heap.lt_size he
    have hil : it < s.heap.objs.size := by obtain ⟨_, q, _⟩ := hit; exact Heap.lt_size q
    have D := Draws.tuple (prog := X.prog) (w := X.w) (A := X.A.in1) (I.ok.hd hc) it a hai its.toArray
    have hu' : its.toArray[i]? = some u := by simpa using hu
    have hlt : i < its.toArray.size := by
      have := (List.getElem?_eq_some_iff.mp hu).1
      simpa using this
    refine wpAny_pyNext_enum_itemD D he ⟨hit, p⟩ hlt hne (by simp [hne, hea]) fun x' h' tk hP ho hst' hT hsz hk => ?_
    have ex : x' = u := by
      have := hP.symm.trans hu'
      exact Option.some.inj this
    subst ex
    refine ⟨_, rfl, wpAny_letOwnedTupleGo_enum (s := { s with heap := h', toks := tk + 1 }) ho fun h'' he' sb => ?_⟩
    have hT2 : h''.get? s.heap.objs.size = some { cls := .type "tuple", data := .seq #[.int i tk, x'] } := (sb.2 _ (Nat.ne_of_gt hel)).trans hT
    have new : ObjOk X.prog X.w (upd H s.heap.objs.size (.tup [.int (i : Nat), x])) h'' s.heap.objs.size (.tup [.int (i : Nat), x]) :=
      ⟨by show 2 ≤ sizeLine; decide, [.int i tk, x'], .cons ⟨_, rfl⟩ (.cons ru .nil), ⟨_, hT2, rfl, _, rfl⟩⟩
    have I1 : Inv X pins σ (upd H s.heap.objs.size (.tup [.int (i : Nat), x])) { s with heap := h'', toks := tk + 1 } :=
      I.turnedNew (ch := [e, it]) (fun b ob hb q => (sb.2 b (fun z => hb (by simp [z]))).trans (hk b ob (fun z => hb (by simp [z])) (fun z => hb (by simp [z])) q)) hf (Nat.le_refl _) new
    refine ⟨.ref s.heap.objs.size, _, I1, rfl, ⟨_, x, rfl, I.hok.fresh (Nat.le_refl _), rfl, fun ys hy => by rw [I.tuple_inj hy hq]; exact hx⟩, ⟨⟨x', ?_⟩, hst'.1.at fun o q => (sb.2 it (Ne.symm hne)).trans q⟩, fun b hb => ?_⟩
    · have e1 : ((i + 1 : Nat) : Int) = (i : Int) + 1 := by omega
      rw [e1]; exact he'
    · have hb' : b < s.heap.objs.size := by
        have e' : b = e ∨ b = it := by simpa using hb
        rcases e' with z | z
        · rw [z]; exact hel
        · rw [z]; exact hil
      rw [upd_ne (Nat.ne_of_lt hb')]
      exact (hf b hb).1
  done := by
    intro X hP hw hK hc i pins s σ H E I hf st hg
    subst hP hw hK
    obtain ⟨⟨old, he⟩, hit⟩ := st
    obtain ⟨xs, hq, hx⟩ := hg
    obtain ⟨its, rv, p, hz⟩ := I.tuple hq
    obtain ⟨f0, f1, f2, f3, f4, f5⟩ := hf it (by simp)
    have hl := rv.length
    exact pd_enum_endT (I.ok.hd hc) he hit p (by simp; omega) fun h' eb => ⟨rfl, I.turned (t' := s.toks) (fun b o hb q => eb b o hb q) f0 f1 f3 f4 f5⟩
  self := fun A i s Q E st h => let ⟨⟨_, he⟩, _⟩ := st; wpAny_pyIter_enum he h
def iEnumA (K : PySem.W.Frag) (ta : TA) : TI := fun σ H R => ta σ H fun vs H1 => ∃ a xs, vs = [.ref a] ∧ ((SqL K H1 a xs ∧ R (Ite K a) H1) ∨ (SqT K H1 a xs ∧ R (IteT K a) H1))
theorem pi_enumA {X : Cx} {e : Expr} {ta : TA} {p pos tpos : Pos} {elts : List Expr} {kk : Nat} (hg : Gl X "enumerate") (hm : X.mg "enumerate" = none) (ha : PA X [e] ta) (hs : starEach [e] X.env = [(false, eval e X.env)] := by rfl) :
    PI X (.Tuple elts kk tpos) (.Call (.Name "enumerate" p) [e] [] pos) (iEnumA X.K ta) := by
  refine ⟨fun pins s σ H R I h => ?_⟩
  refine Call_ (ld_blt I hg hm PyProof.Rows.boot_enumerate (PyProof.Rows.callWith_type1 (thn (ha.run pos pins s σ H _ I h) fun us s1 ⟨vs, H1, I1, r1, q1⟩ => ?_) hs rfl))
  obtain ⟨a, xs, ex, hq⟩ := q1
  subst ex
  cases r1 with
  | cons r rr =>
    cases rr
    cases r
    have fp : ∀ b, b ∈ [s1.heap.objs.size + 1, s1.heap.objs.size] → FpOk X pins H1 b := fun b hb => by
      have e' : b = s1.heap.objs.size + 1 ∨ b = s1.heap.objs.size := by simpa using hb
      have hle : s1.heap.objs.size ≤ b := by
        rcases e' with z | z
        · rw [z]; exact Nat.le_add_right _ _
        · rw [z]; exact Nat.le_refl _
      exact I1.fpOk hle (I1.hok.fresh hle)
    rcases hq with ⟨hq, q⟩ | ⟨hq, q⟩
    · obtain ⟨its, rv, p', hz⟩ := I1.list hq
      refine call_enumerate_list p'.isList fun h' he hit hsz hk => wpAny_pyIter_enum he ?_
      have I2 : Inv X pins σ H1 { s1 with heap := h' } := I1.kept (t' := s1.toks) hk
      exact ⟨s1.heap.objs.size + 1, [s1.heap.objs.size + 1, s1.heap.objs.size], _, _, H1, rfl, I2, turn_enum a (s1.heap.objs.size + 1) s1.heap.objs.size, ⟨⟨.none, he⟩, hit, Nat.succ_ne_self _⟩, fp, q⟩
    · obtain ⟨its, rv, p', hz⟩ := I1.tuple hq
      obtain ⟨o1, ho1, _⟩ := id p'
      have hlt : a < s1.heap.objs.size := Heap.lt_size ho1
      refine pd_enum_begins (begins_tuple a its.toArray) p' fun h' he hit hsz hk => wpAny_pyIter_enum he ?_
      have I2 : Inv X pins σ H1 { s1 with heap := h' } := I1.kept (t' := s1.toks) hk
      exact ⟨s1.heap.objs.size + 1, [s1.heap.objs.size + 1, s1.heap.objs.size], _, _, H1, rfl, I2, turn_enumT a (s1.heap.objs.size + 1) s1.heap.objs.size (Nat.succ_ne_self _) (Nat.ne_of_gt (Nat.lt_succ_of_lt hlt)) (Nat.ne_of_lt hlt), ⟨⟨.none, he⟩, ⟨_, hit, rfl, rfl⟩⟩, fp, q⟩
def enumL (xs : List D) : List D := (xs.zipIdx).map fun p => .tuple [.int (p.2 : Nat), p.1]
def enumD : List D → Option (List D)
  | [.list xs] => some (enumL xs)
  | [.tuple xs] => some (enumL xs)
  | _ => none
theorem enumL_get {xs : List D} {i : Nat} {z : D} (h : (enumL xs)[i]? = some z) : ∃ x, xs[i]? = some x ∧ z = .tuple [.int (i : Nat), x] := by
  unfold enumL at h
  rw [List.getElem?_map, List.getElem?_zipIdx] at h
  cases q : xs[i]? with
  | none => rw [q] at h; cases h
  | some x =>
    rw [q] at h
    cases h
    exact ⟨x, rfl, by rw [Nat.zero_add]⟩
theorem enumL_len (xs : List D) : (enumL xs).length = xs.length := by
  unfold enumL
  rw [List.length_map, List.length_zipIdx]
section
variable {X : Cx} {C : Fc} {p pos tpos : Pos} {e : Expr} {ga : M (List PD.Arg)}
theorem it_enumL {K : PySem.W.Frag} {σ : L2.St} {Hf H0 : Hp} {ρ : DE} {a : Addr} {us : List V} {xs : List D} (h : SqL K Hf a us) (d : DpAll K Hf us xs) : relI K σ Hf H0 ρ (Ite K a) (enumL xs) := by
  refine ⟨fun i Hf1 H z e1 e2 hz => ?_, fun i Hf1 H e1 e2 hi => ⟨us, Evl.ex_l (e1.trans e2) h, by rw [d.length, ← enumL_len]; exact hi⟩⟩
  obtain ⟨x, hx, rfl⟩ := enumL_get hz
  obtain ⟨v, g1, g2⟩ := d.get hx
  have q := Evl.ex_l (e1.trans e2) h
  refine ⟨⟨us, v, q, g1⟩, fun v' H2 ⟨T, x', ev, hT, eH, hx'⟩ => ?_⟩
  subst ev eH
  have a1 := (hx' us q).symm.trans g1
  cases a1
  exact pair_new e2 hT (.int _) (Dp.mono e1 _ _ g2)
theorem it_enumT {K : PySem.W.Frag} {σ : L2.St} {Hf H0 : Hp} {ρ : DE} {a : Addr} {us : List V} {xs : List D} (h : SqT K Hf a us) (d : DpAll K Hf us xs) : relI K σ Hf H0 ρ (IteT K a) (enumL xs) := by
  refine ⟨fun i Hf1 H z e1 e2 hz => ?_, fun i Hf1 H e1 e2 hi => ⟨us, Evl.ex_t (e1.trans e2) h, by rw [d.length, ← enumL_len]; exact hi⟩⟩
  obtain ⟨x, hx, rfl⟩ := enumL_get hz
  obtain ⟨v, g1, g2⟩ := d.get hx
  have q := Evl.ex_t (e1.trans e2) h
  refine ⟨⟨us, v, q, g1⟩, fun v' H2 ⟨T, x', ev, hT, eH, hx'⟩ => ?_⟩
  subst ev eH
  have a1 := (hx' us q).symm.trans g1
  cases a1
  exact pair_new e2 hT (.int _) (Dp.mono e1 _ _ g2)
theorem pdi_enum {elts : List Expr} {kk : Nat} (hm : X.mg "enumerate" = none) (ha : PDa X C [e] ga) (hg : Gl X "enumerate" := by rfl)
    (hs : starEach [e] X.env = [(false, eval e X.env)] := by rfl) : PDi X C (.Tuple elts kk tpos) (.Call (.Name "enumerate" p) [e] [] pos) (M.callL enumD ga) :=
  pi_imp (pi_enumA hg hm ha hs) fun σ H Q ⟨Hf, ρ, s, h⟩ => tG_bind s h fun vs as H1 Hf1 ρ1 e1 s1 d1 h1 => by
    obtain ⟨xs, z, hd, hz, h2⟩ := callL_go h1
    have da := ArgsRel.dats d1 hd
    unfold enumD at hz
    split at hz
    · cases hz
      obtain ⟨v, rfl, g⟩ := dp1 da
      obtain ⟨a, us, rfl, a1, a2⟩ := g.list_of
      exact ⟨a, us, rfl, .inl ⟨Evl.ex_l s1.e1 a1, PostG.now (b := Ite X.K a) h2 s1 (it_enumL a1 a2)⟩⟩
    · cases hz
      obtain ⟨v, rfl, g⟩ := dp1 da
      obtain ⟨a, us, rfl, a1, a2⟩ := g.tup_of
      exact ⟨a, us, rfl, .inr ⟨Evl.ex_t s1.e1 a1, PostG.now (b := IteT X.K a) h2 s1 (it_enumT a1 a2)⟩⟩
    · cases hz
end
end PD

set_option maxRecDepth 100000
set_option maxHeartbeats 4000000
set_option autoImplicit false
namespace PD
open PySem PySem.Spec L2
open Evl (Ex)
/-! ### {k: v, ..}.get(x, y), the keys constants; d.get(x, y) -/
def M.pairs : List (Key × M D) → M (List (D × D))
  | [] => M.ret []
  | (k, f) :: r => M.bind f fun v => M.bind (M.pairs r) fun ps => M.ret ((keyD k, v) :: ps)
def mergeKD (ps : List (D × D)) : List (D × D) := ps.foldl (fun acc p => putKD acc p.1 p.2) []
def M.dget (ps : List (Key × M D)) (f g : M D) : M D := M.bind (M.pairs ps) fun kvs => M.bind f fun x => M.bind g fun d => M.lift (if scalK x = true then some ((getK (mergeKD kvs) x).getD d) else none)
inductive PDps (X : Cx) (sg : Option (Nat × Addr) × World) : List (Option Expr) → List Expr → List (Key × M D) → Prop
  | nil : PDps X sg [] [] []
  | cons {k : Key} {ke ve : Expr} {f : M D} {ks : List (Option Expr)} {vs : List Expr} {ps : List (Key × M D)} (hk : PE X ke (tC (kV k))) (hv : ∀ C' : Fc, C'.sg = sg → PDe X C' ve f) (t : PDps X sg ks vs ps) : PDps X sg (some ke :: ks) (ve :: vs) ((k, f) :: ps)
def trsOf (X : Cx) (sg : Option (Nat × Addr) × World) (ps : List (Key × M D)) : List (TE × TE) := ps.map fun p => (tC (kV p.1), tX X.K sg (relD X.K) p.2)
section
variable {X : Cx} {sg : Option (Nat × Addr) × World}
theorem PDps.pps {pos : Pos} {ks : List (Option Expr)} {vs : List Expr} {ps : List (Key × M D)} (h : PDps X sg ks vs ps) : PPs X pos ks vs (trsOf X sg ps) := by
  induction h with
  | nil => exact pps_nil
  | cons hk hv _ ih => exact pps_cons hk (pe_any hv) ih
theorem PDps.len {ks : List (Option Expr)} {vs : List Expr} {ps : List (Key × M D)} (h : PDps X sg ks vs ps) : ks.length = vs.length := by
  induction h with
  | nil => rfl
  | cons _ _ _ ih => rw [List.length_cons, List.length_cons, ih]
theorem PDps.all {ks : List (Option Expr)} {vs : List Expr} {ps : List (Key × M D)} (h : PDps X sg ks vs ps) : ks.all (·.isSome) = true := by
  induction h with
  | nil => rfl
  | cons _ _ _ ih => rw [List.all_cons, ih]; rfl
theorem pairs_go : ∀ (ps : List (Key × M D)) (C' : Fc), C'.sg = sg → ∀ (σ : L2.St) (H Hf : Hp) (ρ : DE) (Q : List (V × V) → Hp → Prop), SR X.K C' Hf H σ ρ →
    (match M.pairs ps ρ with
      | .ok kvs ρ' => ∀ (vs : List (Key × V)) (H' Hf' : Hp), Ex Hf Hf' → SR X.K C' Hf' H' σ ρ' → KeysRel X.K Hf' vs kvs → vs.length = ps.length → Q (vs.map fun kv => (kV kv.1, kv.2)) H'
      | .ex e ρ' => ∀ (H' Hf' : Hp), Ex Hf Hf' → SR X.K C' Hf' H' σ ρ' → C'.E e H'
      | .bad => False) → tPairs (trsOf X sg ps) σ H Q
  | [], C', hc, σ, H, Hf, ρ, Q, s, h => h [] H Hf (Ex.refl _) s .nil rfl
  | (k, f) :: ps, C', hc, σ, H, Hf, ρ, Q, s, h => by
    show tX X.K sg (relD X.K) f σ H _
    refine ⟨C', hc, Hf, ρ, s, ?_⟩
    unfold M.pairs M.bind at h
    cases hf : f ρ with
    | ex e ρ1 => rw [hf] at h; exact h
    | bad => rw [hf] at h; exact h
    | ok v ρ1 =>
      rw [hf] at h
      simp only at h
      intro y H1 Hf1 e1 s1 d1
      refine pairs_go ps C' hc σ H1 Hf1 ρ1 _ s1 ?_
      cases hp : M.pairs ps ρ1 with
      | ex e ρ2 => rw [hp] at h; exact fun H' Hf' e2 s2 => h H' Hf' (e1.trans e2) s2
      | bad => rw [hp] at h; exact h
      | ok kvs ρ2 =>
        rw [hp] at h
        exact fun vs H' Hf' e2 s2 r hl => h ((k, y) :: vs) H' Hf' (e1.trans e2) s2 (.cons ⟨rfl, Dp.mono e2 _ _ d1⟩ r) (by rw [List.length_cons, List.length_cons, hl])
theorem KeysRel.merge {K : PySem.W.Frag} {Hf : Hp} {vs : List (Key × V)} {kvs : List (D × D)} (r : KeysRel K Hf vs kvs) : ∀ {as : List (Key × V)} {bs : List (D × D)}, KeysRel K Hf as bs → KeysRel K Hf (mergeK as vs) (kvs.foldl (fun acc p => putKD acc p.1 p.2) bs) := by
  induction r with
  | nil => exact fun h => h
  | @cons p ps q qs h t ih =>
    intro as bs r
    have h1 := h.1
    have h2 := h.2
    refine ih ?_
    show KeysRel K Hf (putK as p.1 p.2) (putKD bs ps.1 ps.2)
    rw [← h1]
    exact KeysRel.put h2 r
end
section
variable {X : Cx} {C : Fc} {pos : Pos} {e f : Expr} {kk dd : M D}
theorem pd_dget {ks : List (Option Expr)} {vs : List Expr} {ps : List (Key × M D)} {dpos apos cpos : Pos} (hu : X.A.units + 9 < cLine) (hps : PDps X C.sg ks vs ps) (he : ∀ C' : Fc, C'.sg = C.sg → PDe X C' e kk) (hf : ∀ C' : Fc, C'.sg = C.sg → PDe X C' f dd) (m : M2 X (.Dict ks vs dpos) "get" apos e f cpos) (h0 : ks ≠ []) (h15 : ks.length ≤ 15) (hpl : ps.length ≤ 15) :
    PDe X C (.Call (.Attribute (.Dict ks vs dpos) "get" apos) [e, f] [] cpos) (M.dget ps kk dd) :=
  pe_imp (pe_dget2 (by omega) (pe_disp hps.pps hps.all hps.len h0 h15) (pe_any he) (pe_any hf) m) fun σ H Q ⟨Hf, ρ, s, h⟩ p hp => by
    have nf : Hf p = none := Evl.fresh_back s.e1 hp
    have hno : ∀ q ∈ C.no, p ≠ q.1 := fun q hq e => by
      obtain ⟨_, h⟩ := s.no q hq
      rw [← e, hp] at h
      cases h
    have s0 : SR X.K (C.hide p (.dK [])) Hf (upd H p (.dK [])) σ ρ := (s.grow (Grow.mine (o := .dK []) s.e1 hp)).hide nf upd_same fun j ⟨l, hj, oj⟩ e => by
      obtain ⟨b, ho, h1, h2, h3, _⟩ := s.ownd j l hj oj
      rw [h1] at e
      cases e
      rw [hp] at h3
      cases h3
    refine pairs_go ps (C.hide p (.dK [])) rfl σ _ Hf ρ _ s0 ?_
    unfold M.dget M.bind at h
    cases hps : M.pairs ps ρ with
    | ex e ρ1 => rw [hps] at h; exact fun H' Hf' e1 s1 => h H' Hf' e1 s1.show_
    | bad => rw [hps] at h; exact (show False from h).elim
    | ok kvs ρ1 =>
      rw [hps] at h
      simp only at h
      intro vs H1 Hf1 e1 s1 r hl
      obtain ⟨n1, n2⟩ := s1.no (p, .dK []) List.mem_cons_self
      refine ⟨n2, vs, rfl, by omega, ?_⟩
      have s2 := s1.rehide (ws := .dK (mergeK [] vs)) hno (s.h0 hp)
      refine ⟨p, rfl, .inl ⟨_, .inl upd_same⟩, C.hide p (.dK (mergeK [] vs)), rfl, Hf1, ρ1, s2, ?_⟩
      cases hk : kk ρ1 with
      | ex e ρ2 => rw [hk] at h; exact fun H' Hf' e2 s2 => h H' Hf' (e1.trans e2) s2.show_
      | bad => rw [hk] at h; exact (show False from h).elim
      | ok x ρ2 =>
        rw [hk] at h
        simp only at h
        intro y H2 Hf2 e2 s3 d2
        refine ⟨C.hide p (.dK (mergeK [] vs)), rfl, Hf2, ρ2, s3, ?_⟩
        cases hd : dd ρ2 with
        | ex e ρ3 => rw [hd] at h; exact fun H' Hf' e3 s4 => h H' Hf' (e1.trans (e2.trans e3)) s4.show_
        | bad => rw [hd] at h; exact (show False from h).elim
        | ok z ρ3 =>
          rw [hd] at h
          simp only at h
          intro zv H3 Hf3 e3 s4 d3
          obtain ⟨m1, m2⟩ := s4.no (p, .dK (mergeK [] vs)) List.mem_cons_self
          unfold M.lift at h
          by_cases hx : scalK x = true
          case neg => rw [if_neg hx] at h; exact (show False from h).elim
          rw [if_pos hx] at h
          obtain ⟨k, rfl⟩ := scalK_key hx
          rw [keyV d2]
          refine ⟨_, DGet.k m2, ?_⟩
          have r2 : KeysRel X.K Hf3 (mergeK [] vs) (mergeKD kvs) := KeysRel.merge (Paired.mapP r fun _ _ z => ⟨z.1, Dp.mono (e2.trans e3) _ _ z.2⟩) .nil
          have g := r2.get (k := k)
          refine h _ H3 Hf3 (e1.trans (e2.trans e3)) s4.show_ ?_
          cases hv : valV (mergeK [] vs) k with
          | none =>
            cases hg : getK (mergeKD kvs) (keyD k) with
            | none => exact d3
            | some d => rw [hv, hg] at g; exact g.elim
          | some v =>
            cases hg : getK (mergeKD kvs) (keyD k) with
            | none => rw [hv, hg] at g; exact g.elim
            | some d => rw [hv, hg] at g; exact g
/-- a text as a key -/
theorem pe_kstr {x : Str} {j : Nat} {p : Pos} : PE X (.Constant (.str x) j p) (tC (kV (.inr x))) := pe_str
/-- d.get(x, y), the keys of d ints or texts -/
def M.getK (i : Nat) (f g : M D) : M D := fun ρ => match dctAt ρ i with
  | some kvs0 => if (kvs0.all fun p => scalK p.1) = true then M.bind f (fun x => M.bind g fun y ρ2 => M.lift ((dctAt ρ2 i).bind fun kvs => if (scalK x && kvs.all fun p => scalK p.1) = true then some ((PD.getK kvs x).getD y) else none) ρ2) ρ else .bad
  | none => .bad
theorem pd_getK {x : Str} {px apos cpos : Pos} (i : Nat) (hw : C.w = X.w) (hu : X.A.units + 9 < cLine) (he : PDe X C e kk) (hf : PDe X C f dd) (m : M2 X (.Name x px) "get" apos e f cpos) (hN : X.N[i]? = some x := by rfl) (hv : Vis X.env.scope x := by first | exact Or.inl rfl | exact Or.inr (Or.inl rfl) | exact Or.inr (Or.inr rfl)) (hd : (x == ("__debug__" : Str)) = false := by decide)
    (hcd : (x == ("__classdict__" : Str)) = false := by decide) : PDe X C (.Call (.Attribute (.Name x px) "get" apos) [e, f] [] cpos) (M.getK i kk dd) :=
  pe_imp (pe_dget2 (by omega) (pe_var hN hv hd hcd) he hf m) fun σ H Q ⟨Hf, ρ, s, h⟩ => by
    unfold M.getK at h
    have go : ∀ {ρ : DE} {Hf H : Hp} {kvs : List (D × D)}, SR X.K C Hf H σ ρ → dctAt ρ i = some kvs → (kvs.all fun p => scalK p.1) = true → ∃ a ks, σ[i]? = some (some (.ref a)) ∧ H a = some (.dK ks) ∧ KeysRel X.K Hf ks kvs := fun s hk ha => by
      obtain ⟨a, ho, g1, g2, g3, g4, _⟩ := s.dct i _ (dctAt_get hk)
      rcases g4 with ⟨ks, rfl, r⟩ | ⟨xs, rfl, r, hne⟩
      · exact ⟨a, ks, g1, g3, r⟩
      · exact (r.notScal hne ha).elim
    cases hk : dctAt ρ i with
    | none => simp only [hk] at h; exact (show False from h).elim
    | some kvs =>
      simp only [hk] at h
      split at h
      case isFalse => exact (show False from h).elim
      rename_i hall
      obtain ⟨a, ks, g1, g2, _⟩ := go s hk hall
      refine ⟨.ref a, g1, a, rfl, .inl ⟨ks, .inl g2⟩, tG_bind s h fun v x H1 Hf1 ρ1 e1 s1 d1 h1 => ?_⟩
      refine tG_bind s1 h1 fun w y H2 Hf2 ρ2 e2 s2 d2 h2 => ?_
      obtain ⟨z, hz, h3⟩ := h2.lift
      cases hk2 : dctAt ρ2 i with
      | none => rw [hk2] at hz; cases hz
      | some kvs2 =>
        rw [hk2] at hz
        simp only [Option.bind_some] at hz
        split at hz
        · rename_i ok
          rw [Bool.and_eq_true] at ok
          cases hz
          obtain ⟨a2, ks2, z1, z2, r⟩ := go s2 hk2 ok.2
          rw [g1] at z1
          cases z1
          obtain ⟨k, rfl⟩ := scalK_key ok.1
          rw [keyV d1]
          refine ⟨_, DGet.k z2, ?_⟩
          have g := r.get (k := k)
          refine PostG.now h3 s2 ?_
          cases hv : valV ks2 k with
          | none =>
            cases hg : PD.getK kvs2 (keyD k) with
            | none => exact d2
            | some d => rw [hv, hg] at g; exact g.elim
          | some v =>
            cases hg : PD.getK kvs2 (keyD k) with
            | none => rw [hv, hg] at g; exact g.elim
            | some d => rw [hv, hg] at g; exact g
        · cases hz
end
end PD

set_option maxRecDepth 100000
set_option maxHeartbeats 4000000
set_option autoImplicit false
namespace PD
open PySem PySem.Spec L2
def bindR {α β : Type} (r : R α) (k : α → M β) : R β := match r with
  | .ok a ρ1 => k a ρ1
  | .ex e ρ1 => .ex e ρ1
  | .bad => .bad
def ofR {α : Type} (r : R α) (k : α → MS) : Fl := match r with
  | .ok a ρ1 => k a ρ1
  | .ex e ρ1 => .ex e ρ1
  | .bad => .bad
def seqR (r : Fl) (h : MS) : Fl := match r with
  | .nx ρ1 => h ρ1
  | o => o
def asgR (o : Option DE) : Fl := match o with
  | some ρ' => .nx ρ'
  | none => .bad
def varR (ρ : DE) (o : Option (Option LV)) : R D := match o with
  | some (some (.d x)) => .ok x ρ
  | _ => .bad
def ownL (o : Option (Option LV)) : Option (List D) := match o with
  | some (some (.own xs)) => some xs
  | _ => none
def frzL (i : Nat) (ρ : DE) (o : Option (Option LV)) : DE := match o with
  | some (some (.own xs)) => ρ.set i (some (.d (.list xs)))
  | _ => ρ
def isOwnL (o : Option (Option LV)) : Bool := match o with
  | some (some (.own _)) => true
  | some (some (.dct _)) => true
  | _ => false
def catD (x y : D) : Option (List D) := match x, y with
  | .list xs, .list ys => if xs.length + ys.length ≤ sizeLine then some (xs ++ ys) else none
  | _, _ => none
def popR (i : Nat) (ρ : DE) (o : Option (List D)) : R D := match o with
  | some xs => (match xs[xs.length - 1]? with
    | some x => .ok x (ρ.set i (some (.own xs.dropLast)))
    | none => .bad)
  | none => .bad
def dctL (o : Option (Option LV)) : Option (List (D × D)) := match o with
  | some (some (.dct xs)) => some xs
  | _ => none
def inO (neg : Bool) (o : Option (List (D × D))) (x : D) : Option D := o.bind fun kvs => if okKey kvs x = true then some (.bool (if neg then !(getK kvs x).isSome else (getK kvs x).isSome)) else none
def subKO (o : Option (List (D × D))) (x : D) : Option D := o.bind fun kvs => if okKey kvs x = true then getK kvs x else none
def setKO (o : Option (List (D × D))) (x v : D) : Option (List (D × D)) := o.bind fun kvs => if okKey kvs x = true ∧ kvs.length < sizeLine then some (putKD kvs x v) else none
def slotKR {α : Type} (o : Option (List (D × D))) (r : R α) : R α := match o with
  | some _ => r
  | none => .bad
def slotKF (o : Option (List (D × D))) (r : Fl) : Fl := match o with
  | some _ => r
  | none => .bad
def setKR (i : Nat) (ρ : DE) (o : Option (List (D × D))) : Fl := match o with
  | some kvs => .nx (ρ.set i (some (.dct kvs)))
  | none => .bad
def slotR {α : Type} (o : Option (List D)) (r : R α) : R α := match o with
  | some _ => r
  | none => .bad
def borrowR (ρ : DE) (r : R D) : R D := match r with
  | .ok x _ => if scalarD x = true then .ok x ρ else .bad
  | _ => .bad
def borrowTR (ρ : DE) (r : R Bool) : R Bool := match r with
  | .ok x _ => .ok x ρ
  | _ => .bad
def lcR (ρ1 : DE) (vs : List Nat) (r : R (List D)) : R (List D) := match r with
  | .ok ys ρe => .ok ys (restoreD ρ1 ρe vs)
  | _ => .bad
def putR {α : Type} (x : α) (o : Option DE) : R α := match o with
  | some ρ' => .ok x ρ'
  | none => .bad
def retR (io : Option Nat) (as : List Arg) (ρ : DE) (r : FR) : R D := match r with
  | .ret x o => putR x (putO io as o ρ)
  | .retL xs o => putR (.list xs) (putO io as o ρ)
  | _ => .bad
def retLR (io : Option Nat) (as : List Arg) (ρ : DE) (r : FR) : R (List D) := match r with
  | .retL xs o => putR xs (putO io as o ρ)
  | _ => .bad
def fnR (io : Option Nat) (F : List LV → FR) (as : List Arg) (ρ : DE) (o : Option (List LV)) : R D := match o with
  | none => .bad
  | some lvs => if argIo io 0 as = true then retR io as ρ (F lvs) else .bad
def fnLR (io : Option Nat) (F : List LV → FR) (as : List Arg) (ρ : DE) (o : Option (List LV)) : R (List D) := match o with
  | none => .bad
  | some lvs => if argIo io 0 as = true then retLR io as ρ (F lvs) else .bad
def endR (io : Option Nat) (r : Fl) : FR := match r with
  | .rt x ρ => .ret x (outO io ρ)
  | .rl x ρ => .retL x (outO io ρ)
  | .nx ρ => .ret .none (outO io ρ)
  | .ex e ρ => .ex e (outO io ρ)
  | _ => .bad
theorem runF_eq (np n : Nat) (io : Option Nat) (g : MS) (lvs : List LV) : runF np n io g lvs = if lvs.length = np ∧ okIo io 0 lvs = true ∧ (∀ k, io = some k → k < np) then endR io (g (lvs.map some ++ List.replicate (n - np) none)) else .bad := rfl
theorem ret_ap {α : Type} {a : α} {ρ : DE} : M.ret a ρ = .ok a ρ := rfl
theorem lift_some {α : Type} {a : α} {ρ : DE} : M.lift (some a) ρ = .ok a ρ := rfl
theorem lift_none {α : Type} {ρ : DE} : M.lift (none : Option α) ρ = .bad := rfl
theorem var_ap {i : Nat} {ρ : DE} : M.var i ρ = varR ρ ρ[i]? := by
  unfold M.var varR
  cases ρ[i]? with
  | none => rfl
  | some o => cases o with
    | none => rfl
    | some l => cases l <;> rfl
theorem varR_d {ρ : DE} {x : D} : varR ρ (some (some (.d x))) = .ok x ρ := rfl
theorem ownAt_ap {i : Nat} {ρ : DE} : ownAt ρ i = ownL ρ[i]? := by
  unfold ownAt ownL
  cases ρ[i]? with
  | none => rfl
  | some o => cases o with
    | none => rfl
    | some l => cases l <;> rfl
theorem ownL_own {xs : List D} : ownL (some (some (.own xs))) = some xs := rfl
theorem ownL_d {x : D} : ownL (some (some (.d x))) = none := rfl
theorem ownL_n  : ownL (some none) = none := rfl
theorem frzAt_ap {i : Nat} {ρ : DE} : frzAt i ρ = frzL i ρ ρ[i]? := by
  unfold frzAt frzL
  cases ρ[i]? with
  | none => rfl
  | some o => cases o with
    | none => rfl
    | some l => cases l <;> rfl
theorem frzL_own {i : Nat} {ρ : DE} {xs : List D} : frzL i ρ (some (some (.own xs))) = ρ.set i (some (.d (.list xs))) := rfl
theorem frzL_d {i : Nat} {ρ : DE} {x : D} : frzL i ρ (some (some (.d x))) = ρ := rfl
theorem frz_nil  : PD.frz [] = [] := rfl
theorem frz_cons {o : Option LV} {ρ : DE} : PD.frz (o :: ρ) = frz1 o :: PD.frz ρ := rfl
theorem frz1_own {xs : List D} : frz1 (some (.own xs)) = some (.d (.list xs)) := rfl
theorem frz1_d {x : D} : frz1 (some (.d x)) = some (.d x) := rfl
theorem frz1_n  : frz1 none = none := rfl
theorem wipe_nil {ρ : DE} : wipeD ρ [] = ρ := rfl
theorem wipe_cons {v : Nat} {vs : List Nat} {ρ : DE} : wipeD ρ (v :: vs) = (wipeD ρ vs).set v none := rfl
theorem restore_nil {ρ ρe : DE} : restoreD ρ ρe [] = ρe := rfl
theorem restore_cons {v : Nat} {vs : List Nat} {ρ ρe : DE} : restoreD ρ ρe (v :: vs) = (restoreD ρ ρe vs).set v (ρ.getD v none) := rfl
theorem clean_nil {ρ : DE} : cleanD ρ [] = true := rfl
theorem clean_cons {v : Nat} {vs : List Nat} {ρ : DE} : cleanD ρ (v :: vs) = (!isOwnL ρ[v]? && cleanD ρ vs) := by
  unfold cleanD isOwnB isOwnL
  rfl
theorem isOwnL_own {xs : List D} : isOwnL (some (some (.own xs))) = true := rfl
theorem isOwnL_d {x : D} : isOwnL (some (some (.d x))) = false := rfl
theorem isOwnL_k {xs : List (D × D)} : isOwnL (some (some (.dct xs))) = true := rfl
theorem frz1_k {xs : List (D × D)} : frz1 (some (.dct xs)) = none := rfl
theorem frzL_k {i : Nat} {ρ : DE} {xs : List (D × D)} : frzL i ρ (some (some (.dct xs))) = ρ := rfl
theorem ownL_k {xs : List (D × D)} : ownL (some (some (.dct xs))) = none := rfl
theorem isOwnL_n  : isOwnL (some none) = false := rfl
theorem bind_ap {α β : Type} {m : M α} {k : α → M β} {ρ : DE} : M.bind m k ρ = bindR (m ρ) k := rfl
theorem bindR_ok {α β : Type} {a : α} {k : α → M β} {ρ : DE} : bindR (.ok a ρ) k = k a ρ := rfl
theorem bindR_ex {α β : Type} {e : EV} {k : α → M β} {ρ : DE} : bindR (.ex e ρ : R α) k = .ex e ρ := rfl
theorem bindR_bad {α β : Type} {k : α → M β} : bindR (.bad : R α) k = .bad := rfl
theorem ofM_ap {α : Type} {m : M α} {k : α → MS} {ρ : DE} : S.ofM m k ρ = ofR (m ρ) k := rfl
theorem ofR_ok {α : Type} {a : α} {k : α → MS} {ρ : DE} : ofR (.ok a ρ) k = k a ρ := rfl
theorem ofR_ex {α : Type} {e : EV} {k : α → MS} {ρ : DE} : ofR (.ex e ρ : R α) k = .ex e ρ := rfl
theorem ofR_bad {α : Type} {k : α → MS} : ofR (.bad : R α) k = .bad := rfl
theorem seq_ap {g h : MS} {ρ : DE} : S.seq g h ρ = seqR (g ρ) h := rfl
theorem seqR_nx {h : MS} {ρ : DE} : seqR (.nx ρ) h = h ρ := rfl
theorem seqR_rt {h : MS} {x : D} {ρ : DE} : seqR (.rt x ρ) h = .rt x ρ := rfl
theorem seqR_rl {h : MS} {x : List D} {ρ : DE} : seqR (.rl x ρ) h = .rl x ρ := rfl
theorem seqR_bk {h : MS} {ρ : DE} : seqR (.bk ρ) h = .bk ρ := rfl
theorem seqR_ct {h : MS} {ρ : DE} : seqR (.ct ρ) h = .ct ρ := rfl
theorem seqR_ex {h : MS} {e : EV} {ρ : DE} : seqR (.ex e ρ) h = .ex e ρ := rfl
theorem seqR_bad {h : MS} : seqR .bad h = .bad := rfl
theorem nil_ap {ρ : DE} : S.nil ρ = .nx ρ := rfl
theorem pass_ap {ρ : DE} : S.pass ρ = .nx ρ := rfl
theorem never_ap {ρ : DE} : S.never ρ = .bad := rfl
theorem brk_ap {ρ : DE} : S.brk ρ = .bk ρ := rfl
theorem cnt_ap {ρ : DE} : S.cnt ρ = .ct ρ := rfl
theorem retN_ap {ρ : DE} : S.retN ρ = .rt .none ρ := rfl
theorem sret_ap {f g k : M D} {p q : M Bool} {u l : M (Option Int)} {fl : M (List D)} {ga : M (List Arg)} {i j h : Nat} {ρ : DE} : S.ret f ρ = ofR (f ρ) fun x ρ => .rt x ρ := rfl
theorem sretL_ap {f g k : M D} {p q : M Bool} {u l : M (Option Int)} {fl : M (List D)} {ga : M (List Arg)} {i j h : Nat} {ρ : DE} : S.retL fl ρ = ofR (fl ρ) fun x ρ => .rl x ρ := rfl
theorem drop_ap {f g k : M D} {p q : M Bool} {u l : M (Option Int)} {fl : M (List D)} {ga : M (List Arg)} {i j h : Nat} {ρ : DE} : S.drop f ρ = ofR (f ρ) fun _ ρ => .nx ρ := rfl
theorem site_ap {p : M Bool} {g h : MS} {ρ : DE} : S.ite p g h ρ = ofR (p ρ) fun b => if b = true then g else h := rfl
theorem asg_ap {f g k : M D} {p q : M Bool} {u l : M (Option Int)} {fl : M (List D)} {ga : M (List Arg)} {i j h : Nat} {ρ : DE} : S.asg i f ρ = ofR (f ρ) fun x ρ => .nx (ρ.set i (some (.d x))) := rfl
theorem own_ap {f g k : M D} {p q : M Bool} {u l : M (Option Int)} {fl : M (List D)} {ga : M (List Arg)} {i j h : Nat} {ρ : DE} : S.own i fl ρ = ofR (fl ρ) fun x ρ => .nx (ρ.set i (some (.own x))) := rfl
theorem par2_ap {f g k : M D} {p q : M Bool} {u l : M (Option Int)} {fl : M (List D)} {ga : M (List Arg)} {i j h : Nat} {ρ : DE} : S.par2 i j ga ρ = ofR (ga ρ) fun as => S.ofM (M.lift ((datOf as).bind vals2D)) fun p ρ => .nx ((ρ.set i (some (.d p.1))).set j (some (.d p.2))) := rfl
theorem par3_ap {f g k : M D} {p q : M Bool} {u l : M (Option Int)} {fl : M (List D)} {ga : M (List Arg)} {i j h : Nat} {ρ : DE} : S.par3 i j h ga ρ = ofR (ga ρ) fun as => S.ofM (M.lift ((datOf as).bind vals3D)) fun p ρ => .nx (((ρ.set i (some (.d p.1))).set j (some (.d p.2.1))).set h (some (.d p.2.2))) := rfl
theorem asgT_ap {G : Gt} {f g k : M D} {p q : M Bool} {u l : M (Option Int)} {fl : M (List D)} {ga : M (List Arg)} {i j h : Nat} {ρ : DE} : S.asgT G f ρ = ofR (f ρ) fun x ρ => asgR (G x ρ) := rfl
theorem asgR_some {ρ : DE} : asgR (some ρ) = .nx ρ := rfl
theorem asgR_none  : asgR none = .bad := rfl
theorem gnm_ap {i : Nat} {x : D} {ρ : DE} : G.nm i x ρ = some (ρ.set i (some (.d x))) := rfl
theorem gnil_ap {ρ : DE} : G.nil [] ρ = some ρ := rfl
theorem gcons_ap {g : Gt} {gs : Gts} {x : D} {r : List D} {ρ : DE} : G.cons g gs (x :: r) ρ = (g x ρ).bind (gs r) := rfl
theorem gtup_ap {n : Nat} {gs : Gts} {xs : List D} {ρ : DE} : G.tup n gs (.tuple xs) ρ = if xs.length = n then gs xs ρ else none := rfl
theorem andV_ap {f g k : M D} {p q : M Bool} {u l : M (Option Int)} {fl : M (List D)} {ga : M (List Arg)} {i j h : Nat} {ρ : DE} : M.andV f g ρ = bindR (f ρ) fun x => M.bind (M.lift (asB x)) fun b => if b = true then g else M.ret (.bool false) := rfl
theorem orV_ap {f g k : M D} {p q : M Bool} {u l : M (Option Int)} {fl : M (List D)} {ga : M (List Arg)} {i j h : Nat} {ρ : DE} : M.orV f g ρ = bindR (f ρ) fun x => M.bind (M.lift (asB x)) fun b => if b = true then M.ret (.bool true) else g := rfl
theorem andT_ap {f g k : M D} {p q : M Bool} {u l : M (Option Int)} {fl : M (List D)} {ga : M (List Arg)} {i j h : Nat} {ρ : DE} : M.andT p q ρ = bindR (p ρ) fun b => if b = true then q else M.ret false := rfl
theorem orT_ap {f g k : M D} {p q : M Bool} {u l : M (Option Int)} {fl : M (List D)} {ga : M (List Arg)} {i j h : Nat} {ρ : DE} : M.orT p q ρ = bindR (p ρ) fun b => if b = true then M.ret true else q := rfl
theorem notT_ap {f g k : M D} {p q : M Bool} {u l : M (Option Int)} {fl : M (List D)} {ga : M (List Arg)} {i j h : Nat} {ρ : DE} : M.notT p ρ = bindR (p ρ) fun b => M.ret (!b) := rfl
theorem test_ap {f g k : M D} {p q : M Bool} {u l : M (Option Int)} {fl : M (List D)} {ga : M (List Arg)} {i j h : Nat} {ρ : DE} : M.test f ρ = bindR (f ρ) fun x => M.lift (asB x) := rfl
theorem op1_ap {o : D → Option D} {f g k : M D} {p q : M Bool} {u l : M (Option Int)} {fl : M (List D)} {ga : M (List Arg)} {i j h : Nat} {ρ : DE} : M.op1 o f ρ = bindR (f ρ) fun x => M.lift (o x) := rfl
theorem op2_ap {o : D → D → Option D} {f g k : M D} {p q : M Bool} {u l : M (Option Int)} {fl : M (List D)} {ga : M (List Arg)} {i j h : Nat} {ρ : DE} : M.op2 o f g ρ = bindR (f ρ) fun x => M.bind g fun y => M.lift (o x y) := rfl
theorem chain_ap {o o' : D → D → Option D} {f g k : M D} {p q : M Bool} {u l : M (Option Int)} {fl : M (List D)} {ga : M (List Arg)} {i j h : Nat} {ρ : DE} : M.chain o o' f g k ρ = bindR (f ρ) fun x => M.bind g fun y => M.bind (M.lift (o x y)) fun z => M.bind (M.lift (asB z)) fun t => if t = true then M.bind k fun w => M.lift (o' y w) else M.ret (.bool false) := rfl
theorem mite_ap {α : Type} {p : M Bool} {f g : M α} {ρ : DE} : M.ite p f g ρ = bindR (p ρ) fun b => if b = true then f else g := rfl
theorem ite_apR {α : Type} {c : Prop} [Decidable c] {f g : M α} {ρ : DE} : (if c then f else g : M α) ρ = if c then f ρ else g ρ := by split <;> rfl
theorem ite_apS {c : Prop} [Decidable c] {f g : MS} {ρ : DE} : (if c then f else g : MS) ρ = if c then f ρ else g ρ := by split <;> rfl
theorem argN_ap {ρ : DE} : M.argN ρ = .ok [] ρ := rfl
theorem argD_ap {f g k : M D} {p q : M Bool} {u l : M (Option Int)} {fl : M (List D)} {ga : M (List Arg)} {i j h : Nat} {ρ : DE} : M.argD f ga ρ = bindR (f ρ) fun x => M.bind ga fun as => M.ret (.dat x :: as) := rfl
theorem argS_ap {i : Nat} {ga : M (List PD.Arg)} {ρ : DE} : M.argS i ga ρ = slotR (ownAt ρ i) (bindR (ga ρ) fun as => M.ret (.slot i :: as)) := by
  unfold M.argS ownAt slotR
  cases ρ[i]? with
  | none => rfl
  | some o => cases o with
    | none => rfl
    | some l => cases l <;> rfl
theorem slotR_some {α : Type} {xs : List D} {r : R α} : slotR (some xs) r = r := rfl
theorem tup_ap {f g k : M D} {p q : M Bool} {u l : M (Option Int)} {fl : M (List D)} {ga : M (List Arg)} {i j h : Nat} {ρ : DE} : M.tup ga ρ = bindR (ga ρ) fun as => M.lift ((datOf as).bind fun xs => if xs.length ≤ sizeLine then some (.tuple xs) else none) := rfl
theorem lst_ap {f g k : M D} {p q : M Bool} {u l : M (Option Int)} {fl : M (List D)} {ga : M (List Arg)} {i j h : Nat} {ρ : DE} : M.lst ga ρ = bindR (ga ρ) fun as => M.lift ((datOf as).bind fun xs => if xs.length ≤ sizeLine then some xs else none) := rfl
theorem known_ap {f g k : M D} {p q : M Bool} {u l : M (Option Int)} {fl : M (List D)} {ga : M (List Arg)} {i j h : Nat} {ρ : DE} : M.known fl ρ = bindR (fl ρ) fun xs => M.ret (.list xs) := rfl
theorem call_ap {o : List D → Option D} {f g k : M D} {p q : M Bool} {u l : M (Option Int)} {fl : M (List D)} {ga : M (List Arg)} {i j h : Nat} {ρ : DE} : M.call o ga ρ = bindR (bindR (ga ρ) fun as => M.lift (datOf as)) fun xs => M.lift (o xs) := rfl
theorem callL_ap {o : List D → Option (List D)} {f g k : M D} {p q : M Bool} {u l : M (Option Int)} {fl : M (List D)} {ga : M (List Arg)} {i j h : Nat} {ρ : DE} : M.callL o ga ρ = bindR (ga ρ) fun as => M.lift ((datOf as).bind o) := rfl
theorem listL_ap {ga : M (List PD.Arg)} {ρ : DE} : M.listL ga ρ = bindR (ga ρ) fun as => M.bind (M.lift (datOf as)) fun xs => M.lift (seqOf xs) := rfl
theorem seqOf_l {xs : List D} : seqOf [.list xs] = some xs := rfl
theorem seqOf_t {xs : List D} : seqOf [.tuple xs] = some xs := rfl
theorem items_ap {f g k : M D} {p q : M Bool} {u l : M (Option Int)} {fl : M (List D)} {ga : M (List Arg)} {i j h : Nat} {ρ : DE} : M.items f ρ = bindR (f ρ) fun x => M.lift (itemsD x) := rfl
theorem part_ap {f g k : M D} {p q : M Bool} {u l : M (Option Int)} {fl : M (List D)} {ga : M (List Arg)} {i j h : Nat} {ρ : DE} : M.part f ρ = bindR (f ρ) fun x => M.lift ((asI x).map some) := rfl
theorem slice_ap {f g k : M D} {p q : M Bool} {u l : M (Option Int)} {fl : M (List D)} {ga : M (List Arg)} {i j h : Nat} {ρ : DE} : M.slice f l u ρ = bindR (f ρ) fun x => M.bind l fun a => M.bind u fun b => M.lift (sliceD x a b) := rfl
theorem catL_ap {f g k : M D} {p q : M Bool} {u l : M (Option Int)} {fl : M (List D)} {ga : M (List Arg)} {i j h : Nat} {ρ : DE} : M.catL f g ρ = bindR (f ρ) fun x => M.bind g fun y => M.lift (catD x y) := rfl
theorem frz_ap {α : Type} {i : Nat} {f : M α} {ρ : DE} : M.frz i f ρ = f (frzAt i ρ) := rfl
theorem borrow_ap {f g k : M D} {p q : M Bool} {u l : M (Option Int)} {fl : M (List D)} {ga : M (List Arg)} {i j h : Nat} {ρ : DE} : M.borrow f ρ = borrowR ρ (f (PD.frz ρ)) := rfl
theorem borrowR_ok {ρ ρ1 : DE} {x : D} : borrowR ρ (.ok x ρ1) = if scalarD x = true then .ok x ρ else .bad := rfl
theorem borrowT_ap {f g k : M D} {p q : M Bool} {u l : M (Option Int)} {fl : M (List D)} {ga : M (List Arg)} {i j h : Nat} {ρ : DE} : M.borrowT p ρ = borrowTR ρ (p (PD.frz ρ)) := rfl
theorem borrowTR_ok {ρ ρ1 : DE} {x : Bool} : borrowTR ρ (.ok x ρ1) = .ok x ρ := rfl
theorem subO_ap {f g k : M D} {p q : M Bool} {u l : M (Option Int)} {fl : M (List D)} {ga : M (List Arg)} {i j h : Nat} {ρ : DE} : M.subO i g ρ = (match ownAt ρ i with | some _ => bindR (g ρ) (fun k ρ1 => M.lift ((ownAt ρ1 i).bind fun xs => (asI k).bind fun j => atI xs j) ρ1) | none => .bad) := rfl
theorem app_ap {f g k : M D} {p q : M Bool} {u l : M (Option Int)} {fl : M (List D)} {ga : M (List Arg)} {i j h : Nat} {ρ : DE} : S.app i f ρ = (match ownAt ρ i with | some _ => ofR (f ρ) (fun x => S.ofM (fun ρ1 => M.lift ((ownAt ρ1 i).bind fun xs => if xs.length < sizeLine then some (xs ++ [x]) else none) ρ1) fun ys ρ1 => .nx (ρ1.set i (some (.own ys)))) | none => .bad) := rfl
theorem setIx_ap {f g k : M D} {p q : M Bool} {u l : M (Option Int)} {fl : M (List D)} {ga : M (List Arg)} {i j h : Nat} {ρ : DE} : S.setIx i f g ρ = ofR (f ρ) fun x ρ0 => match ownAt ρ0 i with | some _ => S.ofM g (fun k => S.ofM (fun ρ1 => M.lift ((ownAt ρ1 i).bind fun xs => (asI k).bind fun j => (ixN xs.length j).map fun n => xs.set n x) ρ1) fun ys ρ1 => .nx (ρ1.set i (some (.own ys)))) ρ0 | none => .bad := rfl
theorem retO_ap {f g k : M D} {p q : M Bool} {u l : M (Option Int)} {fl : M (List D)} {ga : M (List Arg)} {i j h : Nat} {ρ : DE} : S.retO i ρ = (match ownAt ρ i with | some xs => .rl xs (ρ.set i none) | none => .bad) := rfl
theorem for_ap {G : Gt} {g : MS} {fl : M (List D)} {ρ : DE} : S.for_ fl G g ρ = ofR (fl ρ) fun xs => forD G g xs := rfl
theorem lc_ap {G : Gt} {tt : M Bool} {te : M D} {fl : M (List D)} {vs : List Nat} {ρ : DE} : M.lc fl vs G tt te ρ = bindR (fl ρ) fun xs ρ1 => if cleanD ρ1 vs = true then lcR ρ1 vs (lcLoop vs G tt te xs [] (wipeD ρ1 vs)) else .bad := rfl
theorem lcR_ok {ρ ρe : DE} {vs : List Nat} {ys : List D} : lcR ρ vs (.ok ys ρe) = .ok ys (restoreD ρ ρe vs) := rfl
theorem fn_ap {io : Option Nat} {F : List LV → FR} {ga : M (List Arg)} {ρ : DE} : M.fn io F ga ρ = bindR (ga ρ) fun as ρ => fnR io F as ρ (lvsOf ρ as) := rfl
theorem fnL_ap {io : Option Nat} {F : List LV → FR} {ga : M (List Arg)} {ρ : DE} : M.fnL io F ga ρ = bindR (ga ρ) fun as ρ => fnLR io F as ρ (lvsOf ρ as) := rfl
theorem fnR_some {io : Option Nat} {F : List LV → FR} {as : List Arg} {lvs : List LV} {ρ : DE} : fnR io F as ρ (some lvs) = if argIo io 0 as = true then retR io as ρ (F lvs) else .bad := rfl
theorem fnLR_some {io : Option Nat} {F : List LV → FR} {as : List Arg} {lvs : List LV} {ρ : DE} : fnLR io F as ρ (some lvs) = if argIo io 0 as = true then retLR io as ρ (F lvs) else .bad := rfl
theorem retR_ret {io : Option Nat} {as : List Arg} {ρ : DE} {x : D} {o : Option (List D)} : retR io as ρ (.ret x o) = putR x (putO io as o ρ) := rfl
theorem retR_retL {io : Option Nat} {as : List Arg} {ρ : DE} {x : List D} {o : Option (List D)} : retR io as ρ (.retL x o) = putR (PyData.list x) (putO io as o ρ) := rfl
theorem retLR_retL {io : Option Nat} {as : List Arg} {ρ : DE} {x : List D} {o : Option (List D)} : retLR io as ρ (.retL x o) = putR x (putO io as o ρ) := rfl
theorem putR_some {α : Type} {x : α} {ρ : DE} : putR x (some ρ) = .ok x ρ := rfl
theorem putO_none {as : List Arg} {o : Option (List D)} {ρ : DE} : putO none as o ρ = some ρ := rfl
theorem putO_s0 {i : Nat} {as : List PD.Arg} {xs : List D} {ρ : DE} : putO (some 0) (.slot i :: as) (some xs) ρ = some (ρ.set i (some (.own xs))) := rfl
theorem putO_s1 {a0 : PD.Arg} {i : Nat} {as : List PD.Arg} {xs : List D} {ρ : DE} : putO (some 1) (a0 :: .slot i :: as) (some xs) ρ = some (ρ.set i (some (.own xs))) := rfl
theorem putO_s2 {a0 a1 : PD.Arg} {i : Nat} {as : List PD.Arg} {xs : List D} {ρ : DE} : putO (some 2) (a0 :: a1 :: .slot i :: as) (some xs) ρ = some (ρ.set i (some (.own xs))) := rfl
theorem putO_s3 {a0 a1 a2 : PD.Arg} {i : Nat} {as : List PD.Arg} {xs : List D} {ρ : DE} : putO (some 3) (a0 :: a1 :: a2 :: .slot i :: as) (some xs) ρ = some (ρ.set i (some (.own xs))) := rfl
theorem putO_s4 {a0 a1 a2 a3 : PD.Arg} {i : Nat} {as : List PD.Arg} {xs : List D} {ρ : DE} : putO (some 4) (a0 :: a1 :: a2 :: a3 :: .slot i :: as) (some xs) ρ = some (ρ.set i (some (.own xs))) := rfl
theorem endR_rt {io : Option Nat} {x : D} {ρ : DE} : endR io (.rt x ρ) = .ret x (outO io ρ) := rfl
theorem endR_rl {io : Option Nat} {x : List D} {ρ : DE} : endR io (.rl x ρ) = .retL x (outO io ρ) := rfl
theorem endR_nx {io : Option Nat} {ρ : DE} : endR io (.nx ρ) = .ret .none (outO io ρ) := rfl
theorem endR_bad {io : Option Nat} : endR io .bad = .bad := rfl
theorem bindR_ite {α β : Type} {c : Prop} [Decidable c] {a b : R α} {k : α → M β} : bindR (if c then a else b) k = if c then bindR a k else bindR b k := by split <;> rfl
theorem ofR_ite {α : Type} {c : Prop} [Decidable c] {a b : R α} {k : α → MS} : ofR (if c then a else b) k = if c then ofR a k else ofR b k := by split <;> rfl
theorem seqR_ite {c : Prop} [Decidable c] {a b : Fl} {k : MS} : seqR (if c then a else b) k = if c then seqR a k else seqR b k := by split <;> rfl
theorem endR_ite {c : Prop} [Decidable c] {a b : Fl} {io : Option Nat} : endR io (if c then a else b) = if c then endR io a else endR io b := by split <;> rfl
theorem lift_ite {α : Type} {c : Prop} [Decidable c] {a b : Option α} {ρ : DE} : M.lift (if c then a else b) ρ = if c then M.lift a ρ else M.lift b ρ := by split <;> rfl
theorem pop_ap {i : Nat} {ρ : DE} : M.pop i ρ = popR i ρ (ownAt ρ i) := rfl
theorem popR_snoc {i : Nat} {ρ : DE} {xs : List D} {x : D} : popR i ρ (some (xs ++ [x])) = .ok x (ρ.set i (some (.own xs))) := by
  unfold popR
  simp
theorem dctAt_ap {i : Nat} {ρ : DE} : dctAt ρ i = dctL ρ[i]? := by
  unfold dctAt dctL
  cases ρ[i]? with
  | none => rfl
  | some o => cases o with
    | none => rfl
    | some l => cases l <;> rfl
theorem dctL_k {xs : List (D × D)} : dctL (some (some (.dct xs))) = some xs := rfl
theorem dctL_o {xs : List D} : dctL (some (some (.own xs))) = none := rfl
theorem dctL_d {x : D} : dctL (some (some (.d x))) = none := rfl
theorem dctL_n  : dctL (some none) = none := rfl
theorem inK_ap {neg : Bool} {i : Nat} {f : M D} {ρ : DE} : M.inK neg i f ρ = bindR (f ρ) fun x ρ => M.lift (inO neg (dctAt ρ i) x) ρ := rfl
theorem subK_ap {i : Nat} {f : M D} {ρ : DE} : M.subK i f ρ = slotKR (dctAt ρ i) (bindR (f ρ) fun x ρ1 => M.lift (subKO (dctAt ρ1 i) x) ρ1) := by
  unfold M.subK slotKR
  cases dctAt ρ i <;> rfl
theorem slotKR_some {α : Type} {xs : List (D × D)} {r : R α} : slotKR (some xs) r = r := rfl
theorem setK_ap {i : Nat} {f g : M D} {ρ : DE} : S.setK i f g ρ = ofR (f ρ) fun v ρ0 => slotKF (dctAt ρ0 i) (ofR (g ρ0) fun x ρ1 => setKR i ρ1 (setKO (dctAt ρ1 i) x v)) := by
  unfold S.setK S.ofM ofR
  cases f ρ with
  | ok v ρ0 =>
    simp only
    unfold slotKF
    cases dctAt ρ0 i with
    | none => rfl
    | some kvs =>
      simp only
      cases g ρ0 with
      | ok x ρ1 =>
        simp only
        unfold M.lift setKR setKO
        cases (dctAt ρ1 i).bind (fun kvs => if okKey kvs x = true ∧ kvs.length < sizeLine then some (putKD kvs x v) else none) <;> rfl
      | ex e ρ1 => rfl
      | bad => rfl
  | ex e ρ0 => rfl
  | bad => rfl
theorem slotKF_some {xs : List (D × D)} {r : Fl} : slotKF (some xs) r = r := rfl
theorem setKR_some {i : Nat} {ρ : DE} {kvs : List (D × D)} : setKR i ρ (some kvs) = .nx (ρ.set i (some (.dct kvs))) := rfl
theorem parN_ap {is : List Nat} {g : M (List LV)} {ρ : DE} : S.parN is g ρ = parR is (g ρ) := rfl
theorem parR_ok {is : List Nat} {ls : List LV} {ρ : DE} : parR is (.ok ls ρ) = asgR (setN ρ is ls) := rfl
theorem setN_nil {ρ : DE} : setN ρ [] [] = some ρ := rfl
theorem setN_cons {ρ : DE} {i : Nat} {is : List Nat} {l : LV} {ls : List LV} : setN ρ (i :: is) (l :: ls) = setN (ρ.set i (some l)) is ls := rfl
theorem nC_ap {f : M LV} {g : M (List LV)} {ρ : DE} : M.nC f g ρ = bindR (f ρ) fun l => M.bind g fun ls => M.ret (l :: ls) := rfl
theorem nL_ap {f : M (List D)} {ρ : DE} : M.nL f ρ = bindR (f ρ) fun l => M.ret (.own l) := rfl
theorem nD_ap {f : M D} {ρ : DE} : M.nD f ρ = bindR (f ρ) fun l => M.ret (.d l) := rfl
theorem dict1_ap {f g : M D} {ρ : DE} : M.dict1 f g ρ = bindR (f ρ) fun k => M.bind g fun v => M.lift (if tupK k = true then some (.dct (putKD [] k v)) else none) := rfl
theorem new_ap {i : Nat} {f : M LV} {ρ : DE} : S.new i f ρ = ofR (f ρ) fun l ρ => .nx (ρ.set i (some l)) := rfl
theorem repL_ap {f : M (List D)} {g : M D} {ρ : DE} : M.repL f g ρ = bindR (f ρ) fun xs => M.bind g fun y => M.lift (repO xs y) := rfl
theorem addD_ii {i j : Int} : addD (.int i) (.int j) = some (.int (i + j)) := rfl
theorem addD_ss {a b : Str} : addD (.str a) (.str b) = if a.length + b.length ≤ sizeLine then some (.str (a ++ b)) else none := rfl
theorem addD_tt {a b : List D} : addD (.tuple a) (.tuple b) = if a.length + b.length ≤ sizeLine then some (.tuple (a ++ b)) else none := rfl
theorem subD_ii {i j : Int} : subD (.int i) (.int j) = some (.int (i - j)) := rfl
theorem mulD_ii {i j : Int} : mulD (.int i) (.int j) = if mulOk i j = true then some (.int (i * j)) else none := rfl
theorem fdivD_ii {i j : Int} : fdivD (.int i) (.int j) = if divOk j = true then some (.int (i / j)) else none := rfl
theorem modD_ii {i j : Int} : modD (.int i) (.int j) = if 0 < j then some (.int (i % j)) else none := rfl
theorem powD_ii {i j : Int} : powD (.int i) (.int j) = if 0 ≤ j ∧ j ≤ 1000000 ∧ i.natAbs < 2 ^ 64 then some (.int (i ^ j.toNat)) else none := rfl
theorem negD_i {i j : Int} : negD (.int i) = some (.int (-i)) := rfl
theorem ltD_ii {i j : Int} : ltD (.int i) (.int j) = some (.bool (decide (i < j))) := rfl
theorem leD_ii {i j : Int} : leD (.int i) (.int j) = some (.bool (decide (i ≤ j))) := rfl
theorem gtD_ii {i j : Int} : gtD (.int i) (.int j) = some (.bool (decide (j < i))) := rfl
theorem geD_ii {i j : Int} : geD (.int i) (.int j) = some (.bool (decide (j ≤ i))) := rfl
theorem ixD_l {xs : List D} {i : Int} : ixD (.list xs) (.int i) = atI xs i := rfl
theorem ixD_t {xs : List D} {i : Int} : ixD (.tuple xs) (.int i) = atI xs i := rfl
theorem catD_ll {a b : List D} : catD (.list a) (.list b) = if a.length + b.length ≤ sizeLine then some (a ++ b) else none := rfl
theorem itemsD_l {xs : List D} : itemsD (.list xs) = some xs := rfl
theorem itemsD_t {xs : List D} : itemsD (.tuple xs) = some xs := rfl
theorem lenD_l {xs : List D} : lenD [.list xs] = some (.int xs.length) := rfl
theorem lenD_t {xs : List D} : lenD [.tuple xs] = some (.int xs.length) := rfl
theorem lenD_s {z : Str} : lenD [.str z] = if z.length ≤ sizeLine then some (.int z.length) else none := rfl
theorem absD_i {i j : Int} : absD [.int i] = some (.int (if i < 0 then -i else i)) := rfl
theorem maxD_ii {i j : Int} : maxD [.int i, .int j] = some (.int (if j > i then j else i)) := rfl
theorem minD_ii {i j : Int} : minD [.int i, .int j] = some (.int (if j < i then j else i)) := rfl
theorem intD_i {i j : Int} : intD [.int i] = some (.int i) := rfl
theorem intD_b {k : Bool} : intD [.bool k] = some (.int (if k then 1 else 0)) := rfl
theorem tupleD_l {xs : List D} : tupleD [.list xs] = some (.tuple xs) := rfl
theorem tupleD_t {xs : List D} : tupleD [.tuple xs] = some (.tuple xs) := rfl
theorem notD_b {k : Bool} : notD (.bool k) = some (.bool !k) := rfl
theorem asB_b {k : Bool} : asB (.bool k) = some k := rfl
theorem asI_i {i j : Int} : asI (.int i) = some i := rfl
theorem eqD_ii {i j : Int} : eqD (.int i) (.int j) = some (decide (i = j)) := rfl
theorem eqD_ss {a b : Str} : eqD (.str a) (.str b) = some (decide (a = b)) := rfl
theorem eqD_bb {a b : Bool} : eqD (.bool a) (.bool b) = some (decide (a = b)) := rfl
theorem eqD_si {a : Str} {i : Int} : eqD (.str a) (.int i) = some false := rfl
theorem eqD_is {a : Str} {i : Int} : eqD (.int i) (.str a) = some false := rfl
theorem eqD_nn  : eqD .none .none = some true := rfl
theorem eqD_nb {b : Bool} : eqD .none (.bool b) = some false := rfl
theorem eqD_ni {i : Int} : eqD .none (.int i) = some false := rfl
theorem eqD_ns {a : Str} : eqD .none (.str a) = some false := rfl
theorem eqD_bn {b : Bool} : eqD (.bool b) .none = some false := rfl
theorem eqD_in {i : Int} : eqD (.int i) .none = some false := rfl
theorem eqD_sn {a : Str} : eqD (.str a) .none = some false := rfl
theorem tInt_none  : tInt (.none) = false := rfl
theorem tInt_bool {b : Bool} : tInt (.bool b) = true := rfl
theorem tInt_int {i : Int} : tInt (.int i) = true := rfl
theorem tInt_str {a : Str} : tInt (.str a) = false := rfl
theorem tInt_tuple {a : List D} : tInt (.tuple a) = false := rfl
theorem tInt_list {a : List D} : tInt (.list a) = false := rfl
theorem tInt_dict {a : List (D × D)} : tInt (.dict a) = false := rfl
theorem tBool_none  : tBool (.none) = false := rfl
theorem tBool_bool {b : Bool} : tBool (.bool b) = true := rfl
theorem tBool_int {i : Int} : tBool (.int i) = false := rfl
theorem tBool_str {a : Str} : tBool (.str a) = false := rfl
theorem tBool_tuple {a : List D} : tBool (.tuple a) = false := rfl
theorem tBool_list {a : List D} : tBool (.list a) = false := rfl
theorem tBool_dict {a : List (D × D)} : tBool (.dict a) = false := rfl
theorem tStr_none  : tStr (.none) = false := rfl
theorem tStr_bool {b : Bool} : tStr (.bool b) = false := rfl
theorem tStr_int {i : Int} : tStr (.int i) = false := rfl
theorem tStr_str {a : Str} : tStr (.str a) = true := rfl
theorem tStr_tuple {a : List D} : tStr (.tuple a) = false := rfl
theorem tStr_list {a : List D} : tStr (.list a) = false := rfl
theorem tStr_dict {a : List (D × D)} : tStr (.dict a) = false := rfl
theorem tTuple_none  : tTuple (.none) = false := rfl
theorem tTuple_bool {b : Bool} : tTuple (.bool b) = false := rfl
theorem tTuple_int {i : Int} : tTuple (.int i) = false := rfl
theorem tTuple_str {a : Str} : tTuple (.str a) = false := rfl
theorem tTuple_tuple {a : List D} : tTuple (.tuple a) = true := rfl
theorem tTuple_list {a : List D} : tTuple (.list a) = false := rfl
theorem tTuple_dict {a : List (D × D)} : tTuple (.dict a) = false := rfl
theorem tList_none  : tList (.none) = false := rfl
theorem tList_bool {b : Bool} : tList (.bool b) = false := rfl
theorem tList_int {i : Int} : tList (.int i) = false := rfl
theorem tList_str {a : Str} : tList (.str a) = false := rfl
theorem tList_tuple {a : List D} : tList (.tuple a) = false := rfl
theorem tList_list {a : List D} : tList (.list a) = true := rfl
theorem tList_dict {a : List (D × D)} : tList (.dict a) = false := rfl
theorem tSeq_none  : PD.tSeq (.none) = false := rfl
theorem tSeq_bool {b : Bool} : PD.tSeq (.bool b) = false := rfl
theorem tSeq_int {i : Int} : PD.tSeq (.int i) = false := rfl
theorem tSeq_str {a : Str} : PD.tSeq (.str a) = false := rfl
theorem tSeq_tuple {a : List D} : PD.tSeq (.tuple a) = true := rfl
theorem tSeq_list {a : List D} : PD.tSeq (.list a) = true := rfl
theorem tSeq_dict {a : List (D × D)} : PD.tSeq (.dict a) = false := rfl
theorem isNoneB_none  : isNoneB (.none) = true := rfl
theorem scalarD_none  : scalarD (.none) = true := rfl
theorem isNoneB_bool {b : Bool} : isNoneB (.bool b) = false := rfl
theorem scalarD_bool {b : Bool} : scalarD (.bool b) = true := rfl
theorem isNoneB_int {i : Int} : isNoneB (.int i) = false := rfl
theorem scalarD_int {i : Int} : scalarD (.int i) = true := rfl
theorem isNoneB_str {a : Str} : isNoneB (.str a) = false := rfl
theorem scalarD_str {a : Str} : scalarD (.str a) = true := rfl
theorem isNoneB_tuple {a : List D} : isNoneB (.tuple a) = false := rfl
theorem scalarD_tuple {a : List D} : scalarD (.tuple a) = false := rfl
theorem isNoneB_list {a : List D} : isNoneB (.list a) = false := rfl
theorem scalarD_list {a : List D} : scalarD (.list a) = false := rfl
theorem isNoneB_dict {a : List (D × D)} : isNoneB (.dict a) = false := rfl
theorem scalarD_dict {a : List (D × D)} : scalarD (.dict a) = false := rfl
theorem ixT0 {a0 : D} {r : List D} : ixD (.tuple (a0 :: r)) (.int 0) = some a0 := atI_nat (j := 0) rfl
theorem ixT1 {a0 a1 : D} {r : List D} : ixD (.tuple (a0 :: a1 :: r)) (.int 1) = some a1 := atI_nat (j := 1) rfl
theorem ixT2 {a0 a1 a2 : D} {r : List D} : ixD (.tuple (a0 :: a1 :: a2 :: r)) (.int 2) = some a2 := atI_nat (j := 2) rfl
theorem ixT3 {a0 a1 a2 a3 : D} {r : List D} : ixD (.tuple (a0 :: a1 :: a2 :: a3 :: r)) (.int 3) = some a3 := atI_nat (j := 3) rfl
theorem ixT4 {a0 a1 a2 a3 a4 : D} {r : List D} : ixD (.tuple (a0 :: a1 :: a2 :: a3 :: a4 :: r)) (.int 4) = some a4 := atI_nat (j := 4) rfl
theorem ixT5 {a0 a1 a2 a3 a4 a5 : D} {r : List D} : ixD (.tuple (a0 :: a1 :: a2 :: a3 :: a4 :: a5 :: r)) (.int 5) = some a5 := atI_nat (j := 5) rfl
theorem ixT6 {a0 a1 a2 a3 a4 a5 a6 : D} {r : List D} : ixD (.tuple (a0 :: a1 :: a2 :: a3 :: a4 :: a5 :: a6 :: r)) (.int 6) = some a6 := atI_nat (j := 6) rfl
theorem ixT7 {a0 a1 a2 a3 a4 a5 a6 a7 : D} {r : List D} : ixD (.tuple (a0 :: a1 :: a2 :: a3 :: a4 :: a5 :: a6 :: a7 :: r)) (.int 7) = some a7 := atI_nat (j := 7) rfl
theorem ixT8 {a0 a1 a2 a3 a4 a5 a6 a7 a8 : D} {r : List D} : ixD (.tuple (a0 :: a1 :: a2 :: a3 :: a4 :: a5 :: a6 :: a7 :: a8 :: r)) (.int 8) = some a8 := atI_nat (j := 8) rfl
theorem ixT9 {a0 a1 a2 a3 a4 a5 a6 a7 a8 a9 : D} {r : List D} : ixD (.tuple (a0 :: a1 :: a2 :: a3 :: a4 :: a5 :: a6 :: a7 :: a8 :: a9 :: r)) (.int 9) = some a9 := atI_nat (j := 9) rfl
theorem ixL0 {a0 : D} {r : List D} : ixD (.list (a0 :: r)) (.int 0) = some a0 := atI_nat (j := 0) rfl
theorem ixL1 {a0 a1 : D} {r : List D} : ixD (.list (a0 :: a1 :: r)) (.int 1) = some a1 := atI_nat (j := 1) rfl
theorem ixL2 {a0 a1 a2 : D} {r : List D} : ixD (.list (a0 :: a1 :: a2 :: r)) (.int 2) = some a2 := atI_nat (j := 2) rfl
theorem ixL3 {a0 a1 a2 a3 : D} {r : List D} : ixD (.list (a0 :: a1 :: a2 :: a3 :: r)) (.int 3) = some a3 := atI_nat (j := 3) rfl
theorem ixL4 {a0 a1 a2 a3 a4 : D} {r : List D} : ixD (.list (a0 :: a1 :: a2 :: a3 :: a4 :: r)) (.int 4) = some a4 := atI_nat (j := 4) rfl
theorem ixL5 {a0 a1 a2 a3 a4 a5 : D} {r : List D} : ixD (.list (a0 :: a1 :: a2 :: a3 :: a4 :: a5 :: r)) (.int 5) = some a5 := atI_nat (j := 5) rfl
theorem ixL6 {a0 a1 a2 a3 a4 a5 a6 : D} {r : List D} : ixD (.list (a0 :: a1 :: a2 :: a3 :: a4 :: a5 :: a6 :: r)) (.int 6) = some a6 := atI_nat (j := 6) rfl
theorem ixL7 {a0 a1 a2 a3 a4 a5 a6 a7 : D} {r : List D} : ixD (.list (a0 :: a1 :: a2 :: a3 :: a4 :: a5 :: a6 :: a7 :: r)) (.int 7) = some a7 := atI_nat (j := 7) rfl
theorem ixL8 {a0 a1 a2 a3 a4 a5 a6 a7 a8 : D} {r : List D} : ixD (.list (a0 :: a1 :: a2 :: a3 :: a4 :: a5 :: a6 :: a7 :: a8 :: r)) (.int 8) = some a8 := atI_nat (j := 8) rfl
theorem ixL9 {a0 a1 a2 a3 a4 a5 a6 a7 a8 a9 : D} {r : List D} : ixD (.list (a0 :: a1 :: a2 :: a3 :: a4 :: a5 :: a6 :: a7 :: a8 :: a9 :: r)) (.int 9) = some a9 := atI_nat (j := 9) rfl
theorem aI0 {a0 : D} {r : List D} : atI (a0 :: r) (0 : Int) = some a0 := atI_nat (j := 0) rfl
theorem aI1 {a0 a1 : D} {r : List D} : atI (a0 :: a1 :: r) (1 : Int) = some a1 := atI_nat (j := 1) rfl
theorem aI2 {a0 a1 a2 : D} {r : List D} : atI (a0 :: a1 :: a2 :: r) (2 : Int) = some a2 := atI_nat (j := 2) rfl
theorem aI3 {a0 a1 a2 a3 : D} {r : List D} : atI (a0 :: a1 :: a2 :: a3 :: r) (3 : Int) = some a3 := atI_nat (j := 3) rfl
theorem aI4 {a0 a1 a2 a3 a4 : D} {r : List D} : atI (a0 :: a1 :: a2 :: a3 :: a4 :: r) (4 : Int) = some a4 := atI_nat (j := 4) rfl
theorem aI5 {a0 a1 a2 a3 a4 a5 : D} {r : List D} : atI (a0 :: a1 :: a2 :: a3 :: a4 :: a5 :: r) (5 : Int) = some a5 := atI_nat (j := 5) rfl
theorem aI6 {a0 a1 a2 a3 a4 a5 a6 : D} {r : List D} : atI (a0 :: a1 :: a2 :: a3 :: a4 :: a5 :: a6 :: r) (6 : Int) = some a6 := atI_nat (j := 6) rfl
theorem aI7 {a0 a1 a2 a3 a4 a5 a6 a7 : D} {r : List D} : atI (a0 :: a1 :: a2 :: a3 :: a4 :: a5 :: a6 :: a7 :: r) (7 : Int) = some a7 := atI_nat (j := 7) rfl
theorem aI8 {a0 a1 a2 a3 a4 a5 a6 a7 a8 : D} {r : List D} : atI (a0 :: a1 :: a2 :: a3 :: a4 :: a5 :: a6 :: a7 :: a8 :: r) (8 : Int) = some a8 := atI_nat (j := 8) rfl
theorem aI9 {a0 a1 a2 a3 a4 a5 a6 a7 a8 a9 : D} {r : List D} : atI (a0 :: a1 :: a2 :: a3 :: a4 :: a5 :: a6 :: a7 :: a8 :: a9 :: r) (9 : Int) = some a9 := atI_nat (j := 9) rfl
theorem ixN1_0 : ixN 1 (0 : Int) = some 0 := by decide
theorem ixN2_0 : ixN 2 (0 : Int) = some 0 := by decide
theorem ixN2_1 : ixN 2 (1 : Int) = some 1 := by decide
theorem ixN3_0 : ixN 3 (0 : Int) = some 0 := by decide
theorem ixN3_1 : ixN 3 (1 : Int) = some 1 := by decide
theorem ixN3_2 : ixN 3 (2 : Int) = some 2 := by decide
theorem ixN4_0 : ixN 4 (0 : Int) = some 0 := by decide
theorem ixN4_1 : ixN 4 (1 : Int) = some 1 := by decide
theorem ixN4_2 : ixN 4 (2 : Int) = some 2 := by decide
theorem ixN4_3 : ixN 4 (3 : Int) = some 3 := by decide
theorem ixN5_0 : ixN 5 (0 : Int) = some 0 := by decide
theorem ixN5_1 : ixN 5 (1 : Int) = some 1 := by decide
theorem ixN5_2 : ixN 5 (2 : Int) = some 2 := by decide
theorem ixN5_3 : ixN 5 (3 : Int) = some 3 := by decide
theorem ixN5_4 : ixN 5 (4 : Int) = some 4 := by decide
theorem ixN6_0 : ixN 6 (0 : Int) = some 0 := by decide
theorem ixN6_1 : ixN 6 (1 : Int) = some 1 := by decide
theorem ixN6_2 : ixN 6 (2 : Int) = some 2 := by decide
theorem ixN6_3 : ixN 6 (3 : Int) = some 3 := by decide
theorem ixN6_4 : ixN 6 (4 : Int) = some 4 := by decide
theorem ixN6_5 : ixN 6 (5 : Int) = some 5 := by decide
end PD

set_option maxRecDepth 100000
set_option maxHeartbeats 4000000
set_option autoImplicit false
namespace PD
open PySem PySem.Spec L2
/-! ### loops, comprehensions: how they are reckoned -/
theorem lcLoop_fm {vs : List Nat} {G : Gt} {tt : M Bool} {te : M D} {ρ : DE} (p : D → Bool) (f : D → D) : ∀ (xs acc : List D), acc.length + xs.length ≤ sizeLine →
    (∀ x ∈ xs, ∃ ρ1 ρ2, G x ρ = some ρ1 ∧ tt ρ1 = .ok (p x) ρ2 ∧ (p x = true → ∃ ρ3, te ρ2 = .ok (f x) ρ3 ∧ wipeD ρ3 vs = ρ) ∧ (p x = false → wipeD ρ2 vs = ρ)) →
    lcLoop vs G tt te xs acc ρ = .ok (acc ++ (xs.filter p).map f) ρ
  | [], acc, _, _ => by simp [lcLoop]
  | x :: r, acc, hl, h => by
    obtain ⟨ρ1, ρ2, h1, h2, h3, h4⟩ := h x List.mem_cons_self
    have ih := fun acc hl => lcLoop_fm (vs := vs) (G := G) (tt := tt) (te := te) (ρ := ρ) p f r acc hl fun y hy => h y (List.mem_cons_of_mem _ hy)
    unfold lcLoop
    rw [h1]
    simp only
    rw [h2]
    simp only
    rw [List.length_cons] at hl
    cases hp : p x with
    | true =>
      obtain ⟨ρ3, h5, h6⟩ := h3 hp
      simp only [if_true]
      rw [h5]
      simp only
      rw [if_pos (by omega), h6, ih _ (by rw [List.length_append, List.length_singleton]; omega), List.filter_cons_of_pos hp, List.map_cons, List.append_assoc]
      rfl
    | false =>
      simp only [Bool.false_eq_true, if_false]
      rw [h4 hp, ih _ (by omega), List.filter_cons_of_neg (by rw [hp]; exact Bool.false_ne_true)]
theorem lcLoop_filter {vs : List Nat} {G : Gt} {tt : M Bool} {te : M D} {ρ : DE} (p : D → Bool) (xs : List D) (hl : xs.length ≤ sizeLine)
    (h : ∀ x ∈ xs, ∃ ρ1 ρ2, G x ρ = some ρ1 ∧ tt ρ1 = .ok (p x) ρ2 ∧ (p x = true → ∃ ρ3, te ρ2 = .ok x ρ3 ∧ wipeD ρ3 vs = ρ) ∧ (p x = false → wipeD ρ2 vs = ρ)) :
    lcLoop vs G tt te xs [] ρ = .ok (xs.filter p) ρ := by
  rw [lcLoop_fm p (fun x => x) xs [] (by simpa using hl) h, List.nil_append, List.map_id']
/-- nothing passes the test -/
theorem lcLoop_none {vs : List Nat} {G : Gt} {tt : M Bool} {te : M D} {ρ : DE} : ∀ (xs acc : List D), (∀ x ∈ xs, ∃ ρ1 ρ2, G x ρ = some ρ1 ∧ tt ρ1 = .ok false ρ2 ∧ wipeD ρ2 vs = ρ) → lcLoop vs G tt te xs acc ρ = .ok acc ρ
  | [], acc, _ => rfl
  | x :: r, acc, h => by
    obtain ⟨ρ1, ρ2, h1, h2, h3⟩ := h x List.mem_cons_self
    unfold lcLoop
    rw [h1]
    simp only
    rw [h2]
    simp only [Bool.false_eq_true, if_false]
    rw [h3, lcLoop_none r acc fun y hy => h y (List.mem_cons_of_mem _ hy)]
theorem lcLoop_map {vs : List Nat} {G : Gt} {tt : M Bool} {te : M D} {ρ : DE} (f : D → D) (xs : List D) (hl : xs.length ≤ sizeLine)
    (h : ∀ x ∈ xs, ∃ ρ1 ρ2 ρ3, G x ρ = some ρ1 ∧ tt ρ1 = .ok true ρ2 ∧ te ρ2 = .ok (f x) ρ3 ∧ wipeD ρ3 vs = ρ) : lcLoop vs G tt te xs [] ρ = .ok (xs.map f) ρ := by
  have e := lcLoop_fm (vs := vs) (G := G) (tt := tt) (te := te) (ρ := ρ) (fun _ => true) f xs [] (by simpa using hl) fun x hx => by
    obtain ⟨ρ1, ρ2, ρ3, h1, h2, h3, h4⟩ := h x hx
    exact ⟨ρ1, ρ2, h1, h2, fun _ => ⟨ρ3, h3, h4⟩, fun e => by cases e⟩
  rw [e, List.nil_append, List.filter_eq_self.mpr (fun _ _ => rfl)]
/-- with draws within: something comes, and what holds of the slots holds -/
theorem lcLoop_any {vs : List Nat} {G : Gt} {tt : M Bool} {te : M D} (I : DE → Prop) (P : D → Prop) : ∀ (xs acc : List D) (ρ : DE), I ρ → acc.length + xs.length ≤ sizeLine →
    (∀ x ∈ xs, ∀ ρ, I ρ → ∃ ρ1 ρ2 y ρ3, G x ρ = some ρ1 ∧ tt ρ1 = .ok true ρ2 ∧ te ρ2 = .ok y ρ3 ∧ P y ∧ I (wipeD ρ3 vs)) →
    ∃ ys ρ', lcLoop vs G tt te xs acc ρ = .ok (acc ++ ys) ρ' ∧ I ρ' ∧ (∀ y ∈ ys, P y) ∧ ys.length = xs.length
  | [], acc, ρ, hI, _, _ => ⟨[], ρ, by simp [lcLoop], hI, fun _ h => by simp at h, rfl⟩
  | x :: r, acc, ρ, hI, hl, h => by
    obtain ⟨ρ1, ρ2, y, ρ3, h1, h2, h3, h4, h5⟩ := h x List.mem_cons_self ρ hI
    rw [List.length_cons] at hl
    obtain ⟨ys, ρ', e1, e2, e3, e4⟩ := lcLoop_any I P r (acc ++ [y]) _ h5 (by rw [List.length_append, List.length_singleton]; omega) fun z hz => h z (List.mem_cons_of_mem _ hz)
    refine ⟨y :: ys, ρ', ?_, e2, ?_, by rw [List.length_cons, List.length_cons, e4]⟩
    · unfold lcLoop
      rw [h1]
      simp only
      rw [h2]
      simp only [if_true]
      rw [h3]
      simp only
      rw [if_pos (by omega), e1, List.append_assoc]
      rfl
    · intro z hz
      rcases List.mem_cons.mp hz with e | hz
      · rw [e]; exact h4
      · exact e3 z hz
theorem forD_inv {G : Gt} {g : MS} (I : DE → Prop) : ∀ (xs : List D) (ρ : DE), I ρ → (∀ x ∈ xs, ∀ ρ, I ρ → ∃ ρ1, G x ρ = some ρ1 ∧ ∃ ρ2, (g ρ1 = .nx ρ2 ∨ g ρ1 = .ct ρ2) ∧ I ρ2) → ∃ ρ', forD G g xs ρ = .nx ρ' ∧ I ρ'
  | [], ρ, h, _ => ⟨ρ, rfl, h⟩
  | x :: r, ρ, h, hs => by
    obtain ⟨ρ1, h1, ρ2, h2, h3⟩ := hs x List.mem_cons_self ρ h
    obtain ⟨ρ', e1, e2⟩ := forD_inv I r ρ2 h3 fun y hy => hs y (List.mem_cons_of_mem _ hy)
    refine ⟨ρ', ?_, e2⟩
    unfold forD
    rw [h1]
    simp only
    rcases h2 with h2 | h2 <;> rw [h2] <;> exact e1
/-- what a turn may come to: I holds on, or Q of what the loop ends with -/
def StepR (I : DE → Prop) (Q : Fl → Prop) (r : Fl) : Prop := match r with
  | .nx ρ => I ρ
  | .ct ρ => I ρ
  | .bk ρ => Q (.nx ρ)
  | .rt x ρ => Q (.rt x ρ)
  | .rl x ρ => Q (.rl x ρ)
  | .ex e ρ => Q (.ex e ρ)
  | .bad => False
theorem step_nx {I : DE → Prop} {Q : Fl → Prop} {ρ : DE} : StepR I Q (.nx ρ) = I ρ := rfl
theorem step_ct {I : DE → Prop} {Q : Fl → Prop} {ρ : DE} : StepR I Q (.ct ρ) = I ρ := rfl
theorem step_bk {I : DE → Prop} {Q : Fl → Prop} {ρ : DE} : StepR I Q (.bk ρ) = Q (.nx ρ) := rfl
theorem step_rt {I : DE → Prop} {Q : Fl → Prop} {ρ : DE} {x : D} : StepR I Q (.rt x ρ) = Q (.rt x ρ) := rfl
theorem step_rl {I : DE → Prop} {Q : Fl → Prop} {ρ : DE} {x : List D} : StepR I Q (.rl x ρ) = Q (.rl x ρ) := rfl
theorem step_ite {I : DE → Prop} {Q : Fl → Prop} {c : Prop} [Decidable c] {a b : Fl} : StepR I Q (if c then a else b) = if c then StepR I Q a else StepR I Q b := by split <;> rfl
theorem forD_wpN {G : Gt} {g : MS} (I : Nat → DE → Prop) (Q : Fl → Prop) : ∀ (xs : List D) (n : Nat) (ρ : DE), I n ρ → (∀ i x ρ, xs[i]? = some x → I (n + i) ρ → ∃ ρ1, G x ρ = some ρ1 ∧ StepR (I (n + i + 1)) Q (g ρ1)) → (∀ ρ, I (n + xs.length) ρ → Q (.nx ρ)) → Q (forD G g xs ρ)
  | [], n, ρ, h, _, he => he ρ h
  | x :: r, n, ρ, h, hs, he => by
    obtain ⟨ρ1, h1, h2⟩ := hs 0 x ρ rfl h
    have ih := fun ρ2 (h3 : I (n + 1) ρ2) => forD_wpN I Q r (n + 1) ρ2 h3 (fun i y ρ hy hI => by
      have := hs (i + 1) y ρ (by simpa using hy) (by rw [show n + (i + 1) = n + 1 + i by omega]; exact hI)
      rw [show n + (i + 1) = n + 1 + i by omega] at this
      exact this) (fun ρ hI => he ρ (by rw [List.length_cons, show n + (r.length + 1) = n + 1 + r.length by omega]; exact hI))
    unfold forD
    rw [h1]
    simp only
    unfold StepR at h2
    split at h2
    · rename_i e; rw [e]; exact ih _ h2
    · rename_i e; rw [e]; exact ih _ h2
    · rename_i e; rw [e]; exact h2
    · rename_i e; rw [e]; exact h2
    · rename_i e; rw [e]; exact h2
    · rename_i e; rw [e]; exact h2
    · exact h2.elim
theorem forD_wp {G : Gt} {g : MS} (I : Nat → DE → Prop) (Q : Fl → Prop) (xs : List D) (ρ : DE) (h0 : I 0 ρ) (hs : ∀ i x ρ, xs[i]? = some x → I i ρ → ∃ ρ1, G x ρ = some ρ1 ∧ StepR (I (i + 1)) Q (g ρ1)) (he : ∀ ρ, I xs.length ρ → Q (.nx ρ)) : Q (forD G g xs ρ) :=
  forD_wpN I Q xs 0 ρ h0 (fun i x ρ hx hI => by rw [Nat.zero_add] at hI ⊢; exact hs i x ρ hx hI) (fun ρ h => he ρ (by rw [Nat.zero_add] at h; exact h))
theorem forD_invN {G : Gt} {g : MS} (I : Nat → DE → Prop) (xs : List D) (ρ : DE) (h0 : I 0 ρ) (hs : ∀ i x ρ, xs[i]? = some x → I i ρ → ∃ ρ1, G x ρ = some ρ1 ∧ StepR (I (i + 1)) (fun _ => False) (g ρ1)) : ∃ ρ', forD G g xs ρ = .nx ρ' ∧ I xs.length ρ' :=
  forD_wp I (fun r => ∃ ρ', r = .nx ρ' ∧ I xs.length ρ') xs ρ h0 (fun i x ρ hx hI => by
    obtain ⟨ρ1, h1, h2⟩ := hs i x ρ hx hI
    refine ⟨ρ1, h1, ?_⟩
    unfold StepR at h2 ⊢
    split at h2 <;> first | exact (show False from h2).elim | exact h2) fun ρ h => ⟨ρ, rfl, h⟩
theorem get_rangeD {lo : Int} {n i : Nat} {x : D} (h : (rangeD lo n)[i]? = some x) : x = .int (lo + i) ∧ i < n := by
  unfold rangeD at h
  rw [List.getElem?_map] at h
  by_cases hi : i < n
  · rw [List.getElem?_range hi] at h
    cases h
    exact ⟨rfl, hi⟩
  · rw [List.getElem?_eq_none (by rw [List.length_range]; omega)] at h
    cases h
theorem mem_rangeD {lo : Int} {n : Nat} {x : D} (h : x ∈ rangeD lo n) : ∃ i : Int, x = .int i ∧ lo ≤ i ∧ i < lo + n := by
  unfold rangeD at h
  obtain ⟨i, hi, rfl⟩ := List.mem_map.mp h
  have := List.mem_range.mp hi
  exact ⟨_, rfl, by omega, by omega⟩
theorem rangeD_length {lo : Int} {n : Nat} : (rangeD lo n).length = n := by
  unfold rangeD
  rw [List.length_map, List.length_range]
theorem range1_ok {j : Int} (h : j < 2 ^ 62 := by omega) (h2 : -(2 ^ 62) ≤ j := by omega) : range1D [.int j] = some (rangeD 0 j.toNat) := by
  show (if rngOk j = true then _ else _) = _
  rw [if_pos (by unfold rngOk; rw [decide_eq_true h, decide_eq_true h2]; rfl)]
theorem range2_ok {i j : Int} (h1 : i < 2 ^ 62 := by omega) (h2 : -(2 ^ 62) ≤ i := by omega) (h3 : j < 2 ^ 62 := by omega) (h4 : -(2 ^ 62) ≤ j := by omega) : range2D [.int i, .int j] = some (rangeD i (j - i).toNat) := by
  show (if (rngOk i && rngOk j) = true then _ else _) = _
  rw [if_pos (by unfold rngOk; rw [decide_eq_true h1, decide_eq_true h2, decide_eq_true h3, decide_eq_true h4]; rfl)]
/-- a loop over data, by its turns: F the state behind so many -/
theorem forD_fold {G : Gt} {g : MS} {σ : Type} (st : σ → DE) (f : σ → D → σ) (ok : σ → D → Prop) : ∀ (xs : List D) (a : σ), (∀ (a : σ) (x : D), x ∈ xs → ok a x → ∃ ρ1, G x (st a) = some ρ1 ∧ (g ρ1 = .nx (st (f a x)) ∨ g ρ1 = .ct (st (f a x)))) →
    (∀ (i : Nat) (x : D), xs[i]? = some x → ok ((xs.take i).foldl f a) x) → forD G g xs (st a) = .nx (st (xs.foldl f a))
  | [], a, _, _ => rfl
  | x :: r, a, hs, ho => by
    obtain ⟨ρ1, h1, h2⟩ := hs a x List.mem_cons_self (ho 0 x rfl)
    have ih := forD_fold st f ok r (f a x) (fun b y hy => hs b y (List.mem_cons_of_mem _ hy)) fun i y hy => ho (i + 1) y (by simpa using hy)
    unfold forD
    rw [h1]
    simp only
    rcases h2 with h2 | h2 <;> rw [h2] <;> exact ih
theorem while_done {p : M Bool} {g : MS} {ρ ρ1 : DE} (h : p ρ = .ok false ρ1) : S.while_ p g ρ = .nx ρ1 := by
  have e : whileN p g 1 ρ = .nx ρ1 := by
    unfold whileN
    rw [h]
    rfl
  rw [while_eq (n := 1) (by rw [e]; rfl), e]
theorem while_go {p : M Bool} {g : MS} {ρ ρ1 ρ2 : DE} (h : p ρ = .ok true ρ1) (hg : g ρ1 = .nx ρ2 ∨ g ρ1 = .ct ρ2) (hb : (S.while_ p g ρ2).isBad = false) : S.while_ p g ρ = S.while_ p g ρ2 := by
  have hx : ∃ n, (whileN p g n ρ2).isBad = false := by
    unfold S.while_ at hb
    split at hb
    · assumption
    · cases hb
  obtain ⟨n, hn⟩ := hx
  have e : whileN p g (n + 1) ρ = whileN p g n ρ2 := by
    rw [whileN, h]
    simp only [if_true]
    rcases hg with hg | hg <;> rw [hg]
  rw [while_eq hn, while_eq (n := n + 1) (by rw [e]; exact hn), e]
/-- a while by what holds and a number that falls -/
theorem while_inv {p : M Bool} {g : MS} (I : Nat → DE → Prop) (Q : DE → Prop) : ∀ (n : Nat) (ρ : DE), I n ρ → (∀ n ρ, I n ρ → (∃ ρ1, p ρ = .ok false ρ1 ∧ Q ρ1) ∨ ∃ ρ1 ρ2 m, p ρ = .ok true ρ1 ∧ (g ρ1 = .nx ρ2 ∨ g ρ1 = .ct ρ2) ∧ m < n ∧ I m ρ2) → ∃ ρ', S.while_ p g ρ = .nx ρ' ∧ Q ρ' := fun n => by
  induction n using Nat.strongRecOn with
  | _ n ih =>
    intro ρ h hs
    rcases hs n ρ h with ⟨ρ1, h1, h2⟩ | ⟨ρ1, ρ2, m, h1, h2, h3, h4⟩
    · exact ⟨ρ1, while_done h1, h2⟩
    · obtain ⟨ρ', e1, e2⟩ := ih m h3 ρ2 h4 hs
      exact ⟨ρ', by rw [while_go h1 h2 (by rw [e1]; rfl), e1], e2⟩
/-! ### slices -/
theorem sIx_neg (n d k : Nat) (hk : 0 < k) : HT.sIx n d (some (-(k : Int))) = n - k := by
  have e := HT.clip_eq (-(k : Int)) n d
  rw [if_pos (by omega)] at e
  omega
theorem cut_neg {xs : List D} {i : Int} {k : Nat} (e : i = -(k : Int)) (hk : 0 < k) : cutD xs (some i) none = xs.drop (xs.length - k) := by
  unfold cutD
  rw [e, sIx_neg _ _ _ hk, HT.sIx_none, List.take_of_length_le (by rw [List.length_drop]; omega)]
theorem cut_from {xs : List D} {i : Int} {k : Nat} (e : i = (k : Int)) : cutD xs (some i) none = xs.drop k := by
  unfold cutD
  rw [e, HT.sIx_nat, HT.sIx_none, List.take_of_length_le (by rw [List.length_drop]; omega)]
  by_cases h : k ≤ xs.length
  · rw [Nat.min_eq_left h]
  · rw [Nat.min_eq_right (by omega), List.drop_eq_nil_of_le (Nat.le_refl _), List.drop_eq_nil_of_le (by omega)]
theorem cut_to {xs : List D} {i : Int} {k : Nat} (e : i = (k : Int)) : cutD xs none (some i) = xs.take k := by
  unfold cutD
  rw [e, HT.sIx_nat, HT.sIx_none, List.drop_zero, Nat.sub_zero]
  by_cases h : k ≤ xs.length
  · rw [Nat.min_eq_left h]
  · rw [Nat.min_eq_right (by omega), List.take_of_length_le (by omega), List.take_of_length_le (by omega)]
theorem cut_ft {xs : List D} {i j : Int} {a b : Nat} (e : i = (a : Int)) (e' : j = (b : Int)) : cutD xs (some i) (some j) = (xs.drop a).take (b - a) := by
  unfold cutD
  rw [e, e', HT.sIx_nat, HT.sIx_nat]
  by_cases h : a ≤ xs.length
  · rw [Nat.min_eq_left h]
    by_cases hb : b ≤ xs.length
    · rw [Nat.min_eq_left hb]
    · rw [Nat.min_eq_right (Nat.le_of_not_le hb), List.take_of_length_le (by rw [List.length_drop]; exact Nat.le_refl _), List.take_of_length_le (by rw [List.length_drop]; omega)]
  · rw [Nat.min_eq_right (Nat.le_of_not_le h), List.drop_eq_nil_of_le (Nat.le_refl _), List.drop_eq_nil_of_le (Nat.le_of_not_le h)]
    simp
theorem slice_t {xs : List D} {lo hi : Option Int} : sliceD (.tuple xs) lo hi = some (.tuple (cutD xs lo hi)) := rfl
/-! ### truth values -/
theorem boolsOf_map : ∀ h : List Bool, boolsOf (h.map PyData.bool) = some h
  | [] => rfl
  | b :: h => by
    rw [List.map_cons]
    show (boolsOf (h.map PyData.bool)).map (b :: ·) = _
    rw [boolsOf_map h]
    rfl
theorem all_t (h : List Bool) : allD [.tuple (h.map .bool)] = some (.bool (h.all id)) := by
  show (boolsOf (h.map .bool)).map _ = _
  rw [boolsOf_map]
  rfl
theorem all_l (h : List Bool) : allD [.list (h.map .bool)] = some (.bool (h.all id)) := by
  show (boolsOf (h.map .bool)).map _ = _
  rw [boolsOf_map]
  rfl
theorem any_l (h : List Bool) : anyD [.list (h.map .bool)] = some (.bool (h.any id)) := by
  show (boolsOf (h.map .bool)).map _ = _
  rw [boolsOf_map]
  rfl
theorem all_lm {α : Type} (f : α → Bool) (xs : List α) : allD [.list (xs.map fun x => .bool (f x))] = some (.bool (xs.all f)) := by
  have e : (xs.map fun x => PyData.bool (f x)) = (xs.map f).map .bool := by rw [List.map_map]; rfl
  rw [e, all_l, List.all_map]
  rfl
theorem all_tm {α : Type} (f : α → Bool) (xs : List α) : allD [.tuple (xs.map fun x => .bool (f x))] = some (.bool (xs.all f)) := by
  have e : (xs.map fun x => PyData.bool (f x)) = (xs.map f).map .bool := by rw [List.map_map]; rfl
  rw [e, all_t, List.all_map]
  rfl
theorem any_lm {α : Type} (f : α → Bool) (xs : List α) : anyD [.list (xs.map fun x => .bool (f x))] = some (.bool (xs.any f)) := by
  have e : (xs.map fun x => PyData.bool (f x)) = (xs.map f).map .bool := by rw [List.map_map]; rfl
  rw [e, any_l, List.any_map]
  rfl
theorem sz (n : Nat) (h : n ≤ 16777216 := by decide) : (n ≤ sizeLine) = True := by
  rw [sizeLine_eq]
  exact eq_true h
theorem sz0 : (0 ≤ sizeLine) = True := sz 0
theorem sz1 : (1 ≤ sizeLine) = True := sz 1
theorem sz2 : (2 ≤ sizeLine) = True := sz 2
theorem sz3 : (3 ≤ sizeLine) = True := sz 3
theorem sz4 : (4 ≤ sizeLine) = True := sz 4
theorem sz5 : (5 ≤ sizeLine) = True := sz 5
theorem sz6 : (6 ≤ sizeLine) = True := sz 6
theorem sz7 : (7 ≤ sizeLine) = True := sz 7
theorem sz8 : (8 ≤ sizeLine) = True := sz 8
theorem sz9 : (9 ≤ sizeLine) = True := sz 9
theorem sz10 : (10 ≤ sizeLine) = True := sz 10
theorem sz11 : (11 ≤ sizeLine) = True := sz 11
theorem sz12 : (12 ≤ sizeLine) = True := sz 12
theorem sz13 : (13 ≤ sizeLine) = True := sz 13
theorem sz14 : (14 ≤ sizeLine) = True := sz 14
theorem sz15 : (15 ≤ sizeLine) = True := sz 15
theorem sz16 : (16 ≤ sizeLine) = True := sz 16
theorem sz17 : (17 ≤ sizeLine) = True := sz 17
theorem sz18 : (18 ≤ sizeLine) = True := sz 18
theorem sz19 : (19 ≤ sizeLine) = True := sz 19
theorem sz20 : (20 ≤ sizeLine) = True := sz 20
theorem sz21 : (21 ≤ sizeLine) = True := sz 21
theorem sz22 : (22 ≤ sizeLine) = True := sz 22
theorem sz23 : (23 ≤ sizeLine) = True := sz 23
theorem sz24 : (24 ≤ sizeLine) = True := sz 24
theorem sz25 : (25 ≤ sizeLine) = True := sz 25
theorem sz26 : (26 ≤ sizeLine) = True := sz 26
theorem sz27 : (27 ≤ sizeLine) = True := sz 27
theorem sz28 : (28 ≤ sizeLine) = True := sz 28
theorem sz29 : (29 ≤ sizeLine) = True := sz 29
theorem sz30 : (30 ≤ sizeLine) = True := sz 30
theorem sz31 : (31 ≤ sizeLine) = True := sz 31
theorem sz32 : (32 ≤ sizeLine) = True := sz 32
theorem sz33 : (33 ≤ sizeLine) = True := sz 33
theorem sz34 : (34 ≤ sizeLine) = True := sz 34
theorem sz35 : (35 ≤ sizeLine) = True := sz 35
theorem sz36 : (36 ≤ sizeLine) = True := sz 36
theorem sz37 : (37 ≤ sizeLine) = True := sz 37
theorem sz38 : (38 ≤ sizeLine) = True := sz 38
theorem sz39 : (39 ≤ sizeLine) = True := sz 39
theorem sz40 : (40 ≤ sizeLine) = True := sz 40
theorem atI_in {xs : List D} {i : Int} (h0 : 0 ≤ i) (h1 : i < (xs.length : Int)) : ∃ y, y ∈ xs ∧ atI xs i = some y := by
  obtain ⟨k, hk⟩ := Int.eq_ofNat_of_zero_le h0
  have hk2 : k < xs.length := by omega
  exact ⟨xs[k], List.getElem_mem hk2, by rw [hk]; exact atI_nat (List.getElem?_eq_getElem hk2)⟩
theorem eq_nil_nil : eqD (.list []) (.list []) = some true := by decide +kernel
/-! ### the claim's own head: what a list of ints is -/
theorem dp_ints {K : PySem.W.Frag} {H : Hp} : ∀ ns : List Int, DpAll K H (ns.map V.int) (ns.map PyData.int)
  | [] => .nil
  | n :: ns => .cons (.int n) (dp_ints ns)
theorem law_sp {K : PySem.W.Frag} {H : Hp} {a : Addr} {ns : List Int} {F : List LV → FR} {E : XK} (hS : SqL K H a (ns.map V.int)) (h : F [.d (.list (ns.map .int))] = .ret (.bool true) none) : spF K none F [.ref a] H (fun v _ => v = .bl true) E := by
  refine ⟨H, [.d (.list (ns.map .int))], Evl.Ex.refl _, ⟨rfl, fun i lv hi => ?_⟩, ?_⟩
  · cases i with
    | zero => cases hi; exact ⟨_, rfl, .lst hS (dp_ints ns)⟩
    | succ i => simp at hi
  · rw [h]
    exact fun v H' Hf' _ _ _ _ _ d => d.bool_of
end PD

set_option maxRecDepth 100000
set_option maxHeartbeats 4000000
set_option autoImplicit false
namespace PD
open PySem PySem.Spec L2
/-! ### equality of data -/
/-- what == may be asked of: no dict within, so deep -/
def Sh (n : Nat) (x : D) : Prop := x.canLay0 = true ∧ x.depth ≤ n
theorem Sh.up {n m : Nat} {x : D} (h : Sh n x) (e : n ≤ m) : Sh m x := ⟨h.1, Nat.le_trans h.2 e⟩
theorem Sh.shaped {n : Nat} {x : D} (h : Sh n x) (e : n ≤ 64) : SeqAt.shaped x = true := by
  unfold SeqAt.shaped
  rw [h.1, decide_eq_true (Nat.le_trans h.2 e)]
  rfl
theorem eqv_ii (i j : Int) : PyData.eqv (.int i) (.int j) = decide (i = j) := by simp only [PyData.eqv]; rw [Bool.eq_iff_iff, decide_eq_true_eq, beq_iff_eq]
theorem eqv_bb (i j : Bool) : PyData.eqv (.bool i) (.bool j) = decide (i = j) := by simp only [PyData.eqv]; rw [Bool.eq_iff_iff, decide_eq_true_eq, beq_iff_eq]
theorem eqv_ss (i j : Str) : PyData.eqv (.str i) (.str j) = decide (i = j) := by simp only [PyData.eqv]; rw [Bool.eq_iff_iff, decide_eq_true_eq, beq_iff_eq]
theorem eqD_eqv {x y : D} (hx : SeqAt.shaped x = true) (hy : SeqAt.shaped y = true) : eqD x y = some (PyData.eqv x y) := by
  unfold eqD
  split <;> first | (simp only [PyData.eqv]; done) | (rw [eqv_bb]; done) | (rw [eqv_ii]; done) | (rw [eqv_ss]; done) | (rw [if_pos (And.intro hx hy)])
theorem eqD_sh {n m : Nat} {x y : D} (hx : Sh n x) (hy : Sh m y) (h1 : n ≤ 64) (h2 : m ≤ 64) : eqD x y = some (PyData.eqv x y) := eqD_eqv (hx.shaped h1) (hy.shaped h2)
theorem sh_int (i : Int) : Sh 0 (.int i) := ⟨by simp only [PyData.canLay0], by simp only [PyData.depth]; exact Nat.le_refl _⟩
theorem sh_bool (i : Bool) : Sh 0 (.bool i) := ⟨by simp only [PyData.canLay0], by simp only [PyData.depth]; exact Nat.le_refl _⟩
theorem sh_none : Sh 0 .none := ⟨by simp only [PyData.canLay0], by simp only [PyData.depth]; exact Nat.le_refl _⟩
theorem sh_str {x : Str} (h : PyData.strOk x = true) : Sh 0 (.str x) := ⟨by simp only [PyData.canLay0]; exact h, by simp only [PyData.depth]; exact Nat.le_refl _⟩
theorem lay_all : ∀ {xs : List D}, (∀ x ∈ xs, x.canLay0 = true) → PyData.canLayAll0 xs = true
  | [], _ => by simp only [PyData.canLayAll0]
  | x :: xs, h => by
    simp only [PyData.canLayAll0]
    rw [h x List.mem_cons_self, lay_all fun y hy => h y (List.mem_cons_of_mem _ hy)]
    rfl
theorem depth_all {n : Nat} : ∀ {xs : List D}, (∀ x ∈ xs, x.depth ≤ n) → PyData.depthAll xs ≤ n
  | [], _ => by simp only [PyData.depthAll]; exact Nat.zero_le _
  | x :: xs, h => by
    simp only [PyData.depthAll]
    have h1 := h x List.mem_cons_self
    have h2 := depth_all (n := n) (xs := xs) fun y hy => h y (List.mem_cons_of_mem _ hy)
    omega
theorem sh_tup {n : Nat} {xs : List D} (h : ∀ x ∈ xs, Sh n x) : Sh (n + 1) (.tuple xs) := by
  refine ⟨by simp only [PyData.canLay0]; exact lay_all fun x hx => (h x hx).1, ?_⟩
  simp only [PyData.depth]
  have := depth_all fun x hx => (h x hx).2
  omega
theorem sh_lst {n : Nat} {xs : List D} (h : ∀ x ∈ xs, Sh n x) : Sh (n + 1) (.list xs) := by
  refine ⟨by simp only [PyData.canLay0]; exact lay_all fun x hx => (h x hx).1, ?_⟩
  simp only [PyData.depth]
  have := depth_all fun x hx => (h x hx).2
  omega
theorem eqv_tt (xs ys : List D) : PyData.eqv (.tuple xs) (.tuple ys) = PyData.eqvAll xs ys := by simp only [PyData.eqv]
theorem eqv_ll (xs ys : List D) : PyData.eqv (.list xs) (.list ys) = PyData.eqvAll xs ys := by simp only [PyData.eqv]
theorem eqvAll_cc (x y : D) (xs ys : List D) : PyData.eqvAll (x :: xs) (y :: ys) = (PyData.eqv x y && PyData.eqvAll xs ys) := by simp only [PyData.eqvAll]
theorem eqvAll_nn : PyData.eqvAll [] [] = true := by simp only [PyData.eqvAll]
theorem eqvAll_nc (x : D) (xs : List D) : PyData.eqvAll [] (x :: xs) = false := by simp only [PyData.eqvAll]
theorem eqvAll_cn (x : D) (xs : List D) : PyData.eqvAll (x :: xs) [] = false := by simp only [PyData.eqvAll]
theorem eqvAll_map {α : Type} [DecidableEq α] {f : α → D} (h : ∀ a b, PyData.eqv (f a) (f b) = decide (a = b)) : ∀ xs ys : List α, PyData.eqvAll (xs.map f) (ys.map f) = decide (xs = ys)
  | [], [] => eqvAll_nn
  | [], y :: ys => eqvAll_nc _ _
  | x :: xs, [] => eqvAll_cn _ _
  | x :: xs, y :: ys => by
    rw [List.map_cons, List.map_cons, eqvAll_cc, h, eqvAll_map h xs ys, ← Bool.decide_and]
    exact decide_eq_decide.mpr ⟨fun e => by rw [e.1, e.2], fun e => by cases e; exact ⟨rfl, rfl⟩⟩
theorem lay_mem : ∀ {xs : List D}, PyData.canLayAll0 xs = true → ∀ x ∈ xs, x.canLay0 = true
  | [], _, _, h => by simp at h
  | x :: xs, h, y, hy => by
    simp only [PyData.canLayAll0, Bool.and_eq_true] at h
    rcases List.mem_cons.mp hy with e | e
    · rw [e]; exact h.1
    · exact lay_mem h.2 y e
theorem depth_mem : ∀ {xs : List D}, ∀ x ∈ xs, x.depth ≤ PyData.depthAll xs
  | [], _, h => by simp at h
  | x :: xs, y, hy => by
    simp only [PyData.depthAll]
    rcases List.mem_cons.mp hy with e | e
    · rw [e]; exact Nat.le_max_left _ _
    · exact Nat.le_trans (depth_mem y e) (Nat.le_max_right _ _)
theorem Sh.mem_t {n : Nat} {xs : List D} (h : Sh (n + 1) (.tuple xs)) : ∀ x ∈ xs, Sh n x := fun x hx => by
  have h1 := h.1
  have h2 := h.2
  simp only [PyData.canLay0] at h1
  simp only [PyData.depth] at h2
  exact ⟨lay_mem h1 x hx, by have := depth_mem x hx; omega⟩
theorem Sh.mem_l {n : Nat} {xs : List D} (h : Sh (n + 1) (.list xs)) : ∀ x ∈ xs, Sh n x := fun x hx => by
  have h1 := h.1
  have h2 := h.2
  simp only [PyData.canLay0] at h1
  simp only [PyData.depth] at h2
  exact ⟨lay_mem h1 x hx, by have := depth_mem x hx; omega⟩
theorem Sh.not_dict {n : Nat} {kvs : List (D × D)} (h : Sh n (.dict kvs)) : False := by
  have := h.1
  simp only [PyData.canLay0, Bool.false_eq_true] at this
theorem Sh.zero_t {xs : List D} (h : Sh 0 (.tuple xs)) : False := by
  have := h.2
  simp only [PyData.depth] at this
  omega
theorem Sh.zero_l {xs : List D} (h : Sh 0 (.list xs)) : False := by
  have := h.2
  simp only [PyData.depth] at this
  omega
mutual
theorem eqv_self : ∀ x : D, x.canLay0 = true → PyData.eqv x x = true
  | .none, _ => by simp only [PyData.eqv]
  | .bool b, _ => by rw [eqv_bb]; exact decide_eq_true rfl
  | .int b, _ => by rw [eqv_ii]; exact decide_eq_true rfl
  | .str b, _ => by rw [eqv_ss]; exact decide_eq_true rfl
  | .list xs, h => by rw [eqv_ll]; exact eqvAll_self xs (by simpa only [PyData.canLay0] using h)
  | .tuple xs, h => by rw [eqv_tt]; exact eqvAll_self xs (by simpa only [PyData.canLay0] using h)
  | .dict xs, h => by simp only [PyData.canLay0, Bool.false_eq_true] at h
theorem eqvAll_self : ∀ xs : List D, PyData.canLayAll0 xs = true → PyData.eqvAll xs xs = true
  | [], _ => eqvAll_nn
  | x :: xs, h => by
    simp only [PyData.canLayAll0, Bool.and_eq_true] at h
    rw [eqvAll_cc, eqv_self x h.1, eqvAll_self xs h.2]
    rfl
end
theorem eqD_self {n : Nat} {x : D} (h : Sh n x) (hn : n ≤ 64) : eqD x x = some true := by
  rw [eqD_sh h h hn hn, eqv_self x h.1]
theorem bools_of : ∀ {xs : List D}, (∀ y ∈ xs, ∃ b, y = PyData.bool b) → ∃ h : List Bool, xs = h.map .bool
  | [], _ => ⟨[], rfl⟩
  | x :: xs, h => by
    obtain ⟨b, rfl⟩ := h x List.mem_cons_self
    obtain ⟨bs, rfl⟩ := bools_of fun y hy => h y (List.mem_cons_of_mem _ hy)
    exact ⟨b :: bs, rfl⟩
theorem ints_of : ∀ {xs : List D}, (∀ y ∈ xs, ∃ b, y = PyData.int b) → ∃ h : List Int, xs = h.map .int
  | [], _ => ⟨[], rfl⟩
  | x :: xs, h => by
    obtain ⟨b, rfl⟩ := h x List.mem_cons_self
    obtain ⟨bs, rfl⟩ := ints_of fun y hy => h y (List.mem_cons_of_mem _ hy)
    exact ⟨b :: bs, rfl⟩
theorem zipL_self (xs : List D) : zipL xs xs = xs.map fun x => .tuple [x, x] := by
  unfold zipL
  induction xs with
  | nil => rfl
  | cons x xs ih => rw [List.zip_cons_cons, List.map_cons, List.map_cons, ih]
theorem sh_cons {n : Nat} {x : D} {xs : List D} (h : Sh n x) (h2 : ∀ y ∈ xs, Sh n y) : ∀ y ∈ x :: xs, Sh n y := fun y hy => by
  rcases List.mem_cons.mp hy with e | e
  · rw [e]; exact h
  · exact h2 y e
theorem sh_nil {n : Nat} : ∀ y ∈ ([] : List D), Sh n y := fun y hy => by simp at hy
/-! ### in, not in -/
theorem flatAll_ints : ∀ ns : List Int, flatAll (ns.map .int) = some (ns.map V.int)
  | [] => rfl
  | n :: ns => by
    show ((flatAll (ns.map .int)).map fun vs => V.int n :: vs) = _
    rw [flatAll_ints ns]
    rfl
theorem inSeq_ints (i : Int) (ns : List Int) : inSeq (.int i) (ns.map .int) = some (ns.any fun j => decide (i = j)) := by
  unfold inSeq
  rw [flatAll_ints]
  show (if flatV (V.int i) = true ∧ (ns.map V.int).all flatV = true then some (inV (V.int i) (ns.map V.int)) else none) = _
  rw [if_pos ⟨rfl, by rw [List.all_map]; exact List.all_eq_true.mpr fun _ _ => rfl⟩]
  unfold inV
  rw [List.any_map]
  congr 2
  funext j
  show eqV (.int j) (.int i) = _
  rw [Bool.eq_iff_iff, decide_eq_true_eq]
  show ((j == i) = true) ↔ i = j
  rw [beq_iff_eq]
  exact eq_comm
theorem inDD_il (i : Int) (ns : List Int) : inDD (.int i) (.list (ns.map .int)) = some (.bool (ns.any fun j => decide (i = j))) := congrArg (Option.map PyData.bool) (inSeq_ints i ns)
theorem inDD_it (i : Int) (ns : List Int) : inDD (.int i) (.tuple (ns.map .int)) = some (.bool (ns.any fun j => decide (i = j))) := congrArg (Option.map PyData.bool) (inSeq_ints i ns)
theorem notInDD_il (i : Int) (ns : List Int) : notInDD (.int i) (.list (ns.map .int)) = some (.bool !(ns.any fun j => decide (i = j))) := congrArg (Option.map fun b => PyData.bool !b) (inSeq_ints i ns)
theorem notInDD_it (i : Int) (ns : List Int) : notInDD (.int i) (.tuple (ns.map .int)) = some (.bool !(ns.any fun j => decide (i = j))) := congrArg (Option.map fun b => PyData.bool !b) (inSeq_ints i ns)
theorem inDD_i1 (i a : Int) : inDD (.int i) (.list [.int a]) = some (.bool (decide (i = a))) := by have := inDD_il i [a]; simp only [List.map_cons, List.map_nil, List.any_cons, List.any_nil, Bool.or_false] at this; exact this
theorem inDD_i2 (i a b : Int) : inDD (.int i) (.list [.int a, .int b]) = some (.bool (decide (i = a) || decide (i = b))) := by have := inDD_il i [a, b]; simp only [List.map_cons, List.map_nil, List.any_cons, List.any_nil, Bool.or_false] at this; exact this
theorem inDD_i3 (i a b c : Int) : inDD (.int i) (.list [.int a, .int b, .int c]) = some (.bool (decide (i = a) || (decide (i = b) || decide (i = c)))) := by have := inDD_il i [a, b, c]; simp only [List.map_cons, List.map_nil, List.any_cons, List.any_nil, Bool.or_false] at this; exact this
theorem flatAll_bools : ∀ ns : List Bool, flatAll (ns.map .bool) = some (ns.map V.bl)
  | [] => rfl
  | n :: ns => by
    show ((flatAll (ns.map .bool)).map fun vs => V.bl n :: vs) = _
    rw [flatAll_bools ns]
    rfl
theorem inSeq_bools (i : Bool) (ns : List Bool) : inSeq (.bool i) (ns.map .bool) = some (ns.any fun j => decide (i = j)) := by
  unfold inSeq
  rw [flatAll_bools]
  show (if flatV (V.bl i) = true ∧ (ns.map V.bl).all flatV = true then some (inV (V.bl i) (ns.map V.bl)) else none) = _
  rw [if_pos ⟨rfl, by rw [List.all_map]; exact List.all_eq_true.mpr fun _ _ => rfl⟩]
  unfold inV
  rw [List.any_map]
  congr 2
  funext j
  rw [Bool.eq_iff_iff, decide_eq_true_eq]
  show ((j == i) = true) ↔ i = j
  rw [beq_iff_eq]
  exact eq_comm
theorem inDD_bt (i : Bool) (ns : List Bool) : inDD (.bool i) (.tuple (ns.map .bool)) = some (.bool (ns.any fun j => decide (i = j))) := congrArg (Option.map PyData.bool) (inSeq_bools i ns)
theorem notInDD_bt (i : Bool) (ns : List Bool) : notInDD (.bool i) (.tuple (ns.map .bool)) = some (.bool !(ns.any fun j => decide (i = j))) := congrArg (Option.map fun b => PyData.bool !b) (inSeq_bools i ns)
/-- == with the empty list, the empty tuple -/
theorem eqD_lnil {n : Nat} {xs : List D} (h : Sh n (.list xs)) (hn : n ≤ 64) : eqD (.list xs) (.list []) = some xs.isEmpty := by
  rw [eqD_sh h (sh_lst (n := 0) (xs := []) sh_nil) hn (by decide), eqv_ll]
  cases xs with
  | nil => rw [eqvAll_nn]; rfl
  | cons x xs => rw [eqvAll_cn]; rfl
theorem eqD_tnil {n : Nat} {xs : List D} (h : Sh n (.tuple xs)) (hn : n ≤ 64) : eqD (.tuple xs) (.tuple []) = some xs.isEmpty := by
  rw [eqD_sh h (sh_tup (n := 0) (xs := []) sh_nil) hn (by decide), eqv_tt]
  cases xs with
  | nil => rw [eqvAll_nn]; rfl
  | cons x xs => rw [eqvAll_cn]; rfl
theorem eqv_xt {x : D} (h : ∀ xs, x ≠ .tuple xs) (ys : List D) : PyData.eqv x (.tuple ys) = false := by
  cases x <;> first | exact absurd rfl (h _) | simp only [PyData.eqv]
/-- data that == takes apart as Lean does -/
class Dat (α : Type) [DecidableEq α] where
  en : α → D
  eqv : ∀ a b, PyData.eqv (en a) (en b) = decide (a = b)
  dep : Nat
  sh : ∀ a, Sh dep (en a)
instance : Dat Int := ⟨.int, eqv_ii, 0, sh_int⟩
instance : Dat Bool := ⟨.bool, eqv_bb, 0, sh_bool⟩
section
variable {α β γ δ : Type} [DecidableEq α] [DecidableEq β] [DecidableEq γ] [DecidableEq δ] [Dat α] [Dat β] [Dat γ] [Dat δ]
/-- a list of them, as a tuple -/
instance : Dat (List α) := ⟨fun xs => .tuple (xs.map Dat.en), fun a b => by rw [eqv_tt]; exact eqvAll_map Dat.eqv a b, Dat.dep α + 1, fun a => sh_tup fun x hx => by
  obtain ⟨y, _, rfl⟩ := List.mem_map.mp hx
  exact Dat.sh y⟩
instance : Dat (α × β) := ⟨fun p => .tuple [Dat.en p.1, Dat.en p.2], fun a b => by
  rw [eqv_tt, eqvAll_cc, eqvAll_cc, eqvAll_nn, Dat.eqv, Dat.eqv, Bool.and_true, ← Bool.decide_and]
  exact decide_eq_decide.mpr Prod.ext_iff.symm, max (Dat.dep α) (Dat.dep β) + 1, fun a => sh_tup fun x hx => by
    simp only [List.mem_cons, List.not_mem_nil, or_false] at hx
    rcases hx with rfl | rfl
    · exact (Dat.sh _).up (Nat.le_max_left _ _)
    · exact (Dat.sh _).up (Nat.le_max_right _ _)⟩
theorem eqD_en (a b : α) (h : Dat.dep α ≤ 64) : eqD (Dat.en a) (Dat.en b) = some (decide (a = b)) := by
  rw [eqD_sh (Dat.sh a) (Dat.sh b) h h, Dat.eqv]
theorem eqD_enL (a b : List α) (h : Dat.dep α + 1 ≤ 64) : eqD (.list (a.map Dat.en)) (.list (b.map Dat.en)) = some (decide (a = b)) := by
  have s : ∀ c : List α, Sh (Dat.dep α + 1) (.list (c.map Dat.en)) := fun c => sh_lst fun x hx => by
    obtain ⟨y, _, rfl⟩ := List.mem_map.mp hx
    exact Dat.sh y
  rw [eqD_sh (s a) (s b) h h, eqv_ll, eqvAll_map Dat.eqv]
end
end PD

set_option maxRecDepth 100000
set_option maxHeartbeats 4000000
set_option autoImplicit false
namespace PD
open PySem PySem.Spec L2
/-! ### constants of the text, as the top has left them -/
def Cst (K : PySem.W.Frag) (u : Value) (d : D) : Prop := ∃ v, RelV v u ∧ ∀ H, Dp K H v d
def CstAll (K : PySem.W.Frag) (us : List Value) (ds : List D) : Prop := ∃ vs, Vals vs us ∧ ∀ H, DpAll K H vs ds
theorem cst_str {K : PySem.W.Frag} {x : Str} {t : Tok} : Cst K (.str x t) (.str x) := ⟨.str x, ⟨t, rfl⟩, fun _ => .str x⟩
theorem cst_int {K : PySem.W.Frag} {x : Int} {t : Tok} : Cst K (.int x t) (.int x) := ⟨.int x, ⟨t, rfl⟩, fun _ => .int x⟩
theorem cst_bool {K : PySem.W.Frag} {x : Bool} : Cst K (.bool x) (.bool x) := ⟨.bl x, rfl, fun _ => .bl x⟩
theorem cst_nil {K : PySem.W.Frag} : CstAll K [] [] := ⟨[], .nil, fun _ => .nil⟩
theorem cst_cons {K : PySem.W.Frag} {u : Value} {d : D} {us : List Value} {ds : List D} (h : Cst K u d) (h2 : CstAll K us ds) : CstAll K (u :: us) (d :: ds) := by
  obtain ⟨v, r, e⟩ := h
  obtain ⟨vs, rs, es⟩ := h2
  exact ⟨v :: vs, .cons r rs, fun H => .cons (e H) (es H)⟩
theorem cst_tup {K : PySem.W.Frag} {a : Addr} {dx : Option Addr} {its : Array Value} {n : Nat} {sl : Array (Option Value)} {ds : List D} (h : K.lookup a = some ⟨.type "tuple", dx, .seq its n, sl⟩) (hn : its.size ≤ sizeLine) (hd : CstAll K its.toList ds) : Cst K (.ref a) (.tuple ds) := by
  obtain ⟨vs, rs, es⟩ := hd
  exact ⟨.ref a, rfl, fun H => .tup (.inr ⟨_, its, n, h, rfl, rfl, hn, rs⟩) (es H)⟩
theorem log2_bits {n : Int} (h : Builtin.Int.intBits n ≤ 1048576) : n.natAbs.log2 ≤ 1048576 := by
  unfold Builtin.Int.intBits at h
  split at h
  · rename_i e
    have : n = 0 := by simpa using e
    subst this
    decide
  · omega
theorem binds_mk {K : PySem.W.Frag} {x qual : Str} {st : Stmt} {f : Addr} {oc : Value} {od an : Option Addr} {osl : Array (Option Value)} {kV doc pm cdv ct : Value} (ps : List Str)
    (l : K.lookup f = some ⟨oc, od, .func (PySem.W.fnOf x qual (defArgs st) (defBody st) (defScope st) .none kV doc pm an cdv ct), osl⟩) (c : PySem.W.codeIn K cdv qual = true) (k : PySem.W.keepIn K (.ref f) = true)
    (h : ∀ (kV doc pm : Value) (an : Option Addr) (cdv ct : Value) (us : List Value), us.length = ps.length → bindArgs (PySem.W.fnOf x qual (defArgs st) (defBody st) (defScope st) .none kV doc pm an cdv ct) ⟨us, []⟩ = pure (ps.zip us)) :
    Binds K (PySem.W.fnOf x qual (defArgs st) (defBody st) (defScope st) .none kV doc pm an cdv ct) ps [] := (fun_mk l c k).binds h
end PD

set_option maxRecDepth 100000
set_option maxHeartbeats 4000000
set_option autoImplicit false
namespace PD
/-! ### searches: what is reached, the greatest value of an edge -/
section
variable {σ : Type} (next : σ → List σ) (s0 : σ)
inductive Reach : σ → Prop
  | start : Reach s0
  | step {x y : σ} : Reach x → y ∈ next x → Reach y
/-- m is the greatest of the values at the reached states (and 0) -/
structure Top (vals : σ → List Int) (m : Int) : Prop where
  ge : ∀ x, Reach next s0 x → ∀ v ∈ vals x, v ≤ m
  nn : 0 ≤ m
  at_ : m = 0 ∨ ∃ x, Reach next s0 x ∧ m ∈ vals x
end
theorem Top.eq {σ τ : Type} {n1 : σ → List σ} {s1 : σ} {v1 : σ → List Int} {n2 : τ → List τ} {s2 : τ} {v2 : τ → List Int} {a b : Int} (h1 : Top n1 s1 v1 a) (h2 : Top n2 s2 v2 b)
    (f : ∀ x, Reach n1 s1 x → ∀ v ∈ v1 x, v ≤ 0 ∨ ∃ y, Reach n2 s2 y ∧ v ∈ v2 y) (g : ∀ y, Reach n2 s2 y → ∀ v ∈ v2 y, v ≤ 0 ∨ ∃ x, Reach n1 s1 x ∧ v ∈ v1 x) : a = b := by
  have p : a ≤ b := by
    rcases h1.at_ with e | ⟨x, r, hv⟩
    · rw [e]; exact h2.nn
    · rcases f x r a hv with h | ⟨y, ry, hy⟩
      · have := h2.nn; omega
      · exact h2.ge y ry a hy
  have q : b ≤ a := by
    rcases h2.at_ with e | ⟨x, r, hv⟩
    · rw [e]; exact h1.nn
    · rcases g x r b hv with h | ⟨y, ry, hy⟩
      · have := h1.nn; omega
      · exact h1.ge y ry b hy
  omega
/-- numbers below n, no two alike: at most n -/
theorem nodup_lt : ∀ (n : Nat) (l : List Nat), l.Nodup → (∀ x ∈ l, x < n) → l.length ≤ n
  | 0, [], _, _ => Nat.le_refl _
  | 0, x :: l, _, h => absurd (h x List.mem_cons_self) (Nat.not_lt_zero _)
  | n + 1, l, hn, h => by
    have h1 := nodup_lt n (l.filter fun x => decide (x ≠ n)) (hn.filter _) fun x hx => by
      have := List.mem_filter.mp hx
      have h2 := h x this.1
      have h3 := of_decide_eq_true this.2
      omega
    have h2 : l.length ≤ (l.filter fun x => decide (x ≠ n)).length + 1 := by
      clear h1 h
      induction l with
      | nil => exact Nat.zero_le _
      | cons a l ih =>
        rw [List.nodup_cons] at hn
        by_cases e : a = n
        · subst e
          have e2 : (l.filter fun x => decide (x ≠ a)) = l := List.filter_eq_self.mpr (fun x hx => decide_eq_true (p := x ≠ a) (fun (e : x = a) => hn.1 (by rw [← e]; exact hx)))
          rw [List.filter_cons_of_neg (by simp), List.length_cons, e2]
          exact Nat.le_refl _
        · rw [List.filter_cons_of_pos (by simpa using e), List.length_cons, List.length_cons]
          have := ih hn.2
          omega
    omega
theorem nodup_codes {σ : Type} {code : σ → Nat} {n : Nat} {l : List σ} (hn : l.Nodup) (hi : ∀ x ∈ l, ∀ y ∈ l, code x = code y → x = y) (h : ∀ x ∈ l, code x < n) : l.length ≤ n := by
  have e : (l.map code).length = l.length := List.length_map ..
  rw [← e]
  refine nodup_lt n _ ?_ fun y hy => ?_
  · rw [List.nodup_iff_pairwise_ne] at hn ⊢
    rw [List.pairwise_map]
    exact hn.imp_of_mem fun {a b} ha hb hne e => hne (hi a ha b hb e)
  · obtain ⟨x, hx, rfl⟩ := List.mem_map.mp hy
    exact h x hx
/-! ### a stack, marked at the push -/
section
variable {σ : Type} [DecidableEq σ] (outs : σ → List (σ × List Int)) (s0 : σ)
def nextO (x : σ) : List σ := (outs x).map (·.1)
def valsO (x : σ) : List Int := ((outs x).map (·.2)).flatten
def maxL (m : Int) (vs : List Int) : Int := vs.foldl (fun a b => if b > a then b else a) m
def pushA (a : List σ × List σ × Int) (o : σ × List Int) : List σ × List σ × Int := if o.1 ∈ a.1 then (a.1, a.2.1, maxL a.2.2 o.2) else (a.1 ++ [o.1], a.2.1 ++ [o.1], maxL a.2.2 o.2)
theorem maxL_le : ∀ (vs : List Int) (m : Int), m ≤ maxL m vs ∧ (∀ v ∈ vs, v ≤ maxL m vs) ∧ (maxL m vs = m ∨ maxL m vs ∈ vs)
  | [], m => ⟨Int.le_refl _, fun _ h => by simp at h, .inl rfl⟩
  | v :: vs, m => by
    obtain ⟨h1, h2, h3⟩ := maxL_le vs (if v > m then v else m)
    have e : maxL m (v :: vs) = maxL (if v > m then v else m) vs := rfl
    rw [e]
    have e1 : m ≤ (if v > m then v else m) := by split <;> omega
    have e2 : v ≤ (if v > m then v else m) := by split <;> omega
    refine ⟨Int.le_trans e1 h1, fun w hw => ?_, ?_⟩
    · rcases List.mem_cons.mp hw with e3 | hw
      · rw [e3]; exact Int.le_trans e2 h1
      · exact h2 w hw
    · rcases h3 with h3 | h3
      · rw [h3]
        split
        · exact .inr List.mem_cons_self
        · exact .inl rfl
      · exact .inr (List.mem_cons_of_mem _ h3)
structure InvA (met wait : List σ) (m : Int) : Prop where
  nd : met.Nodup
  nw : wait.Nodup
  sub : ∀ x ∈ wait, x ∈ met
  st : s0 ∈ met
  rch : ∀ x ∈ met, Reach (nextO outs) s0 x
  cl : ∀ x ∈ met, x ∉ wait → (∀ y ∈ nextO outs x, y ∈ met) ∧ ∀ v ∈ valsO outs x, v ≤ m
  nn : 0 ≤ m
  at_ : m = 0 ∨ ∃ x, Reach (nextO outs) s0 x ∧ m ∈ valsO outs x
theorem InvA.start : InvA outs s0 [s0] [s0] 0 := ⟨by simp, by simp, fun _ h => h, List.mem_singleton.mpr rfl, fun x h => by rw [List.mem_singleton.mp h]; exact .start, fun x h h2 => absurd h h2, Int.le_refl _, .inl rfl⟩
theorem InvA.top {met : List σ} {m : Int} (h : InvA outs s0 met [] m) : Top (nextO outs) s0 (valsO outs) m := by
  have all : ∀ x, Reach (nextO outs) s0 x → x ∈ met := fun x r => by
    induction r with
    | start => exact h.st
    | step _ hy ih => exact (h.cl _ ih (by simp)).1 _ hy
  exact ⟨fun x r v hv => (h.cl x (all x r) (by simp)).2 v hv, h.nn, h.at_⟩
/-- within a turn: x is popped, the outs of x so far are told -/
structure MidA (met0 w0 : List σ) (m0 : Int) (x : σ) (told : List (σ × List Int)) (met wait : List σ) (m : Int) : Prop where
  nd : met.Nodup
  nw : wait.Nodup
  sub : ∀ z ∈ wait, z ∈ met
  inc : ∀ z ∈ met0, z ∈ met
  rch : ∀ z ∈ met, Reach (nextO outs) s0 z
  cl : ∀ z ∈ met, z ∉ wait → z = x ∨ ((∀ y ∈ nextO outs z, y ∈ met) ∧ ∀ v ∈ valsO outs z, v ≤ m)
  xw : x ∉ wait
  tl : ∀ o ∈ told, o.1 ∈ met ∧ ∀ v ∈ o.2, v ≤ m
  nn : 0 ≤ m
  at_ : m = 0 ∨ ∃ x, Reach (nextO outs) s0 x ∧ m ∈ valsO outs x
  len : met.length + w0.length = met0.length + wait.length
theorem MidA.push {met0 w0 : List σ} {m0 : Int} {x : σ} {told : List (σ × List Int)} {met wait : List σ} {m : Int} (h : MidA outs s0 met0 w0 m0 x told met wait m) (hx : x ∈ met0) {o : σ × List Int} (ho : o ∈ outs x) :
    MidA outs s0 met0 w0 m0 x (told ++ [o]) (pushA (met, wait, m) o).1 (pushA (met, wait, m) o).2.1 (pushA (met, wait, m) o).2.2 := by
  obtain ⟨l1, l2, l3⟩ := maxL_le o.2 m
  have hr : Reach (nextO outs) s0 o.1 := .step (h.rch x (h.inc x hx)) (List.mem_map.mpr ⟨o, ho, rfl⟩)
  have at' : maxL m o.2 = 0 ∨ ∃ x, Reach (nextO outs) s0 x ∧ maxL m o.2 ∈ valsO outs x := by
    rcases l3 with e | e
    · rw [e]; exact h.at_
    · exact .inr ⟨x, h.rch x (h.inc x hx), List.mem_flatten.mpr ⟨o.2, List.mem_map.mpr ⟨o, ho, rfl⟩, e⟩⟩
  unfold pushA
  by_cases hm : o.1 ∈ met
  · simp only [hm, if_true]
    refine ⟨h.nd, h.nw, h.sub, h.inc, h.rch, fun z hz hw => ?_, h.xw, fun p hp => ?_, Int.le_trans h.nn l1, at', h.len⟩
    · rcases h.cl z hz hw with e | ⟨c1, c2⟩
      · exact .inl e
      · exact .inr ⟨c1, fun v hv => Int.le_trans (c2 v hv) l1⟩
    · rcases List.mem_append.mp hp with hp | hp
      · exact ⟨(h.tl p hp).1, fun v hv => Int.le_trans ((h.tl p hp).2 v hv) l1⟩
      · rw [List.mem_singleton] at hp
        subst hp
        exact ⟨hm, l2⟩
  · simp only [hm, if_false]
    have hxo : x ≠ o.1 := fun e => hm (e ▸ h.inc x hx)
    have now : o.1 ∉ wait := fun e => hm (h.sub _ e)
    refine ⟨?_, ?_, fun z hz => ?_, fun z hz => List.mem_append.mpr (.inl (h.inc z hz)), fun z hz => ?_, fun z hz hw => ?_, fun e => ?_, fun p hp => ?_, Int.le_trans h.nn l1, at', ?_⟩
    · rw [List.nodup_append]
      exact ⟨h.nd, by simp, fun a ha b hb e => hm (by rw [List.mem_singleton.mp hb] at e; rw [← e]; exact ha)⟩
    · rw [List.nodup_append]
      exact ⟨h.nw, by simp, fun a ha b hb e => now (by rw [List.mem_singleton.mp hb] at e; rw [← e]; exact ha)⟩
    · rcases List.mem_append.mp hz with hz | hz
      · exact List.mem_append.mpr (.inl (h.sub z hz))
      · exact List.mem_append.mpr (.inr hz)
    · rcases List.mem_append.mp hz with hz | hz
      · exact h.rch z hz
      · rw [List.mem_singleton.mp hz]; exact hr
    · rcases List.mem_append.mp hz with hz | hz
      · rcases h.cl z hz (fun e => hw (List.mem_append.mpr (.inl e))) with e | ⟨c1, c2⟩
        · exact .inl e
        · exact .inr ⟨fun y hy => List.mem_append.mpr (.inl (c1 y hy)), fun v hv => Int.le_trans (c2 v hv) l1⟩
      · exact absurd (List.mem_append.mpr (.inr hz)) hw
    · rcases List.mem_append.mp e with e | e
      · exact h.xw e
      · exact hxo (List.mem_singleton.mp e)
    · rcases List.mem_append.mp hp with hp | hp
      · exact ⟨List.mem_append.mpr (.inl (h.tl p hp).1), fun v hv => Int.le_trans ((h.tl p hp).2 v hv) l1⟩
      · rw [List.mem_singleton] at hp
        subst hp
        exact ⟨List.mem_append.mpr (.inr (List.mem_singleton.mpr rfl)), l2⟩
    · have := h.len
      rw [List.length_append, List.length_append, List.length_singleton]
      omega
theorem MidA.done {met0 w0 : List σ} {m0 : Int} {x : σ} {met wait : List σ} {m : Int} (h : MidA outs s0 met0 w0 m0 x (outs x) met wait m) (hs : s0 ∈ met0) : InvA outs s0 met wait m :=
  ⟨h.nd, h.nw, h.sub, h.inc _ hs, h.rch, fun z hz hw => by
    rcases h.cl z hz hw with e | c
    · subst e
      refine ⟨fun y hy => ?_, fun v hv => ?_⟩
      · obtain ⟨o, ho, rfl⟩ := List.mem_map.mp hy
        exact (h.tl o ho).1
      · obtain ⟨l, hl, hv⟩ := List.mem_flatten.mp hv
        obtain ⟨o, ho, rfl⟩ := List.mem_map.mp hl
        exact (h.tl o ho).2 v hv
    · exact c, h.nn, h.at_⟩
theorem InvA.pop {met w : List σ} {x : σ} {m : Int} (h : InvA outs s0 met (w ++ [x]) m) : MidA outs s0 met w m x [] met w m ∧ x ∈ met := by
  have hn := h.nw
  rw [List.nodup_append] at hn
  have hx : x ∉ w := fun e => hn.2.2 x e x (List.mem_singleton.mpr rfl) rfl
  refine ⟨⟨h.nd, hn.1, fun z hz => h.sub z (List.mem_append.mpr (.inl hz)), fun z hz => hz, h.rch, fun z hz hw => ?_, hx, fun o ho => by simp at ho, h.nn, h.at_, rfl⟩, h.sub x (List.mem_append.mpr (.inr (List.mem_singleton.mpr rfl)))⟩
  by_cases e : z = x
  · exact .inl e
  · exact .inr (h.cl z hz fun q => (List.mem_append.mp q).elim hw fun q => e (List.mem_singleton.mp q))
/-! ### a stack, marked at the pop -/
structure InvB (met line : List σ) (m : Int) : Prop where
  nd : met.Nodup
  st : s0 ∈ met ∨ s0 ∈ line
  rm : ∀ x ∈ met, Reach (nextO outs) s0 x
  rl : ∀ x ∈ line, Reach (nextO outs) s0 x
  cl : ∀ x ∈ met, (∀ y ∈ nextO outs x, y ∈ met ∨ y ∈ line) ∧ ∀ v ∈ valsO outs x, v ≤ m
  nn : 0 ≤ m
  at_ : m = 0 ∨ ∃ x, Reach (nextO outs) s0 x ∧ m ∈ valsO outs x
theorem InvB.start : InvB outs s0 [] [s0] 0 := ⟨List.nodup_nil, .inr (List.mem_singleton.mpr rfl), fun _ h => by simp at h, fun x h => by rw [List.mem_singleton.mp h]; exact .start, fun _ h => by simp at h, Int.le_refl _, .inl rfl⟩
theorem InvB.top {met : List σ} {m : Int} (h : InvB outs s0 met [] m) : Top (nextO outs) s0 (valsO outs) m := by
  have all : ∀ x, Reach (nextO outs) s0 x → x ∈ met := fun x r => by
    induction r with
    | start => exact h.st.elim id (fun e => by simp at e)
    | step _ hy ih => exact ((h.cl _ ih).1 _ hy).elim id (fun e => by simp at e)
  exact ⟨fun x r v hv => (h.cl x (all x r)).2 v hv, h.nn, h.at_⟩
theorem InvB.skip {met w : List σ} {x : σ} {m : Int} (h : InvB outs s0 met (w ++ [x]) m) (hx : x ∈ met) : InvB outs s0 met w m := by
  have out : ∀ y, y ∈ w ++ [x] → y ∈ met ∨ y ∈ w := fun y hy => by
    rcases List.mem_append.mp hy with hy | hy
    · exact .inr hy
    · rw [List.mem_singleton.mp hy]; exact .inl hx
  exact ⟨h.nd, h.st.elim .inl (out _), h.rm, fun y hy => h.rl y (List.mem_append.mpr (.inl hy)), fun z hz => ⟨fun y hy => ((h.cl z hz).1 y hy).elim .inl (out y), (h.cl z hz).2⟩, h.nn, h.at_⟩
theorem InvB.take {met w : List σ} {x : σ} {m m' : Int} (h : InvB outs s0 met (w ++ [x]) m) (hx : x ∉ met) (h1 : m ≤ m') (h2 : ∀ v ∈ valsO outs x, v ≤ m') (h3 : m' = m ∨ m' ∈ valsO outs x) : InvB outs s0 (met ++ [x]) (w ++ nextO outs x) m' := by
  have rx : Reach (nextO outs) s0 x := h.rl x (List.mem_append.mpr (.inr (List.mem_singleton.mpr rfl)))
  have out : ∀ y, y ∈ w ++ [x] → y ∈ met ++ [x] ∨ y ∈ w ++ nextO outs x := fun y hy => by
    rcases List.mem_append.mp hy with hy | hy
    · exact .inr (List.mem_append.mpr (.inl hy))
    · exact .inl (List.mem_append.mpr (.inr hy))
  refine ⟨?_, h.st.elim (fun e => .inl (List.mem_append.mpr (.inl e))) (out _), fun z hz => ?_, fun z hz => ?_, fun z hz => ?_, Int.le_trans h.nn h1, ?_⟩
  · rw [List.nodup_append]
    exact ⟨h.nd, by simp, fun a ha b hb e => hx (by rw [List.mem_singleton.mp hb] at e; rw [← e]; exact ha)⟩
  · rcases List.mem_append.mp hz with hz | hz
    · exact h.rm z hz
    · rw [List.mem_singleton.mp hz]; exact rx
  · rcases List.mem_append.mp hz with hz | hz
    · exact h.rl z (List.mem_append.mpr (.inl hz))
    · exact .step rx hz
  · rcases List.mem_append.mp hz with hz | hz
    · exact ⟨fun y hy => ((h.cl z hz).1 y hy).elim (fun e => .inl (List.mem_append.mpr (.inl e))) (out y), fun v hv => Int.le_trans ((h.cl z hz).2 v hv) h1⟩
    · rw [List.mem_singleton.mp hz]
      exact ⟨fun y hy => .inr (List.mem_append.mpr (.inr hy)), h2⟩
  · rcases h3 with e | e
    · rw [e]; exact h.at_
    · exact .inr ⟨x, rx, e⟩
end
/-! ### dicts whose keys are states -/
section
variable {σ : Type} [DecidableEq σ] {en : σ → D}
theorem getK_map {va : σ → D} (hi : ∀ s t, nk (en s) = nk (en t) → s = t) (x : σ) : ∀ l : List σ, getK (l.map fun s => (en s, va s)) (en x) = if x ∈ l then some (va x) else none
  | [] => rfl
  | s :: l => by
    show (if nk (en s) = nk (en x) then some (va s) else getK (l.map fun s => (en s, va s)) (en x)) = _
    by_cases e : s = x
    · subst e
      rw [if_pos rfl, if_pos List.mem_cons_self]
    · rw [if_neg (fun h => e (hi _ _ h)), getK_map hi x l]
      by_cases h : x ∈ l
      · rw [if_pos h, if_pos (List.mem_cons_of_mem _ h)]
      · rw [if_neg h, if_neg (fun q => (List.mem_cons.mp q).elim (fun q => e q.symm) h)]
theorem putKD_new {va : σ → D} (hi : ∀ s t, nk (en s) = nk (en t) → s = t) {x : σ} {l : List σ} (hx : x ∉ l) (d : D) : putKD (l.map fun s => (en s, va s)) (en x) d = (l.map fun s => (en s, va s)) ++ [(en x, d)] := by
  unfold putKD
  rw [getK_map hi, if_neg hx]
  rfl
theorem okKey_map {va : σ → D} (ht : ∀ s, tupK (en s) = true) (x : σ) (l : List σ) : okKey (l.map fun s => (en s, va s)) (en x) = true := by
  have e : ((l.map fun s => (en s, va s)).all fun p => tupK p.1) = true := by
    rw [List.all_map]
    exact List.all_eq_true.mpr fun s _ => ht s
  unfold okKey
  rw [ht x, e, Bool.true_and, Bool.or_true]
theorem inO_map {va : σ → D} (hi : ∀ s t, nk (en s) = nk (en t) → s = t) (ht : ∀ s, tupK (en s) = true) (neg : Bool) (x : σ) (l : List σ) :
    inO neg (some (l.map fun s => (en s, va s))) (en x) = some (.bool (if neg then decide (x ∉ l) else decide (x ∈ l))) := by
  unfold inO
  simp only [Option.bind_some, okKey_map ht, if_true, getK_map hi]
  by_cases h : x ∈ l <;> cases neg <;> simp [h]
theorem setKO_map {va : σ → D} (hi : ∀ s t, nk (en s) = nk (en t) → s = t) (ht : ∀ s, tupK (en s) = true) {x : σ} {l : List σ} (hx : x ∉ l) (hl : l.length < PySem.sizeLine) :
    setKO (some (l.map fun s => (en s, va s))) (en x) (va x) = some ((l ++ [x]).map fun s => (en s, va s)) := by
  unfold setKO
  simp only [Option.bind_some, okKey_map ht, List.length_map, hl, and_self, if_true]
  rw [putKD_new hi hx, List.map_append]
  rfl
end
end PD

set_option maxRecDepth 100000
set_option maxHeartbeats 4000000
set_option autoImplicit false
namespace PD
/-! ### a queue, marked at the push: the runs of a machine, one behind another -/
section
variable {σ : Type} [DecidableEq σ]
abbrev Run (σ : Type) : Type := σ × List Bool
def extR (succ : σ → List (Bool × σ)) (x : Run σ) : List (Run σ) := (succ x.1).map fun p => (p.2, x.2 ++ [p.1])
def runs (succ : σ → List (Bool × σ)) (s0 : σ) : Nat → List (Run σ)
  | 0 => [(s0, [])]
  | k + 1 => match (runs succ s0 k)[k]? with
    | some x => runs succ s0 k ++ extR succ x
    | none => runs succ s0 k
def nthR (succ : σ → List (Bool × σ)) (s0 : σ) (k : Nat) : Option (Run σ) := (runs succ s0 k)[k]?
def pushR (Q : List (Run σ)) (e : Run σ) : List (Run σ) := if e.1 ∈ Q.map (·.1) then Q else Q ++ [e]
def ddR (xs : List (Run σ)) : List (Run σ) := xs.foldl pushR []
/-- what the first accepted run tells -/
def Bfs (succ : σ → List (Bool × σ)) (s0 : σ) (acc : σ → Bool) (res : Option (List Bool)) : Prop :=
  (∃ k x, nthR succ s0 k = some x ∧ acc x.1 = true ∧ res = some x.2 ∧ ∀ j, j < k → ∀ y, nthR succ s0 j = some y → acc y.1 = false) ∨
  (res = none ∧ ∀ k x, nthR succ s0 k = some x → acc x.1 = false)
inductive Rn (succ : σ → List (Bool × σ)) (s0 : σ) : σ → List Bool → Prop
  | start : Rn succ s0 s0 []
  | step {x y : σ} {b : Bool} {w : List Bool} : Rn succ s0 x w → (b, y) ∈ succ x → Rn succ s0 y (w ++ [b])
end
section
variable {σ : Type} [DecidableEq σ] {succ : σ → List (Bool × σ)} {s0 : σ}
theorem runs_prefix (k : Nat) : ∃ t, runs succ s0 (k + 1) = runs succ s0 k ++ t := by
  rw [runs.eq_2]
  split
  · exact ⟨_, rfl⟩
  · exact ⟨[], by simp⟩
theorem runs_prefix' (k m : Nat) : ∃ t, runs succ s0 (k + m) = runs succ s0 k ++ t := by
  induction m with
  | zero => exact ⟨[], by simp⟩
  | succ m ih =>
    obtain ⟨t, e⟩ := ih
    obtain ⟨u, e2⟩ := runs_prefix (succ := succ) (s0 := s0) (k + m)
    exact ⟨t ++ u, by rw [show k + (m + 1) = k + m + 1 by omega, e2, e, List.append_assoc]⟩
theorem runs_get {k m j : Nat} {x : Run σ} (h : k ≤ m) (hx : (runs succ s0 k)[j]? = some x) : (runs succ s0 m)[j]? = some x := by
  obtain ⟨t, e⟩ := runs_prefix' (succ := succ) (s0 := s0) k (m - k)
  rw [show k + (m - k) = m by omega] at e
  rw [e, List.getElem?_append_left (List.getElem?_eq_some_iff.mp hx).1]
  exact hx
theorem runs_succ {k : Nat} {x : Run σ} (h : nthR succ s0 k = some x) : runs succ s0 (k + 1) = runs succ s0 k ++ extR succ x := by
  have h : (runs succ s0 k)[k]? = some x := h
  rw [runs, h]
/-- what is told of a run that stands among the runs -/
theorem runs_rn : ∀ (k : Nat) (x : Run σ), x ∈ runs succ s0 k → Rn succ s0 x.1 x.2
  | 0, x, h => by
    rw [runs, List.mem_singleton] at h
    subst h
    exact .start
  | k + 1, x, h => by
    rw [runs] at h
    split at h
    · rename_i y hy
      rcases List.mem_append.mp h with h | h
      · exact runs_rn k x h
      · unfold extR at h
        obtain ⟨p, hp, rfl⟩ := List.mem_map.mp h
        exact .step (runs_rn k y (List.mem_of_getElem? hy)) hp
    · exact runs_rn k x h
/-- if a run stands at j then up to there every step found one -/
theorem nth_below {j : Nat} : ∀ {k : Nat} {x : Run σ}, (runs succ s0 k)[j]? = some x → nthR succ s0 j = some x
  | k, x, h => by
    by_cases hk : k ≤ j
    · exact runs_get hk h
    · have hj : j ≤ k := by omega
      -- the run at j of a later stage: the stage j has it already
      obtain ⟨t, e⟩ := runs_prefix' (succ := succ) (s0 := s0) j (k - j)
      rw [show j + (k - j) = k by omega] at e
      by_cases hl : j < (runs succ s0 j).length
      · rw [e, List.getElem?_append_left hl] at h
        exact h
      · -- the runs have ended
        exfalso
        have st : ∀ m, runs succ s0 (j + m) = runs succ s0 j := fun m => by
          induction m with
          | zero => rfl
          | succ m ih =>
            have q : (runs succ s0 (j + m))[j + m]? = none := by rw [ih]; exact List.getElem?_eq_none (by omega)
            have e2 : runs succ s0 (j + m + 1) = runs succ s0 (j + m) := by rw [runs, q]
            rw [show j + (m + 1) = j + m + 1 by omega, e2, ih]
        have := st (k - j)
        rw [show j + (k - j) = k by omega] at this
        rw [this, List.getElem?_eq_none (by omega)] at h
        cases h
theorem nth_of_mem {k : Nat} {x : Run σ} (h : x ∈ runs succ s0 k) : ∃ j, nthR succ s0 j = some x := by
  obtain ⟨j, hj⟩ := List.getElem?_of_mem h
  exact ⟨j, nth_below hj⟩
theorem nth_len {k : Nat} {x : Run σ} (h : nthR succ s0 k = some x) : k < (runs succ s0 k).length := (List.getElem?_eq_some_iff.mp h).1
/-- every run comes -/
theorem rn_nth {x : σ} {w : List Bool} (h : Rn succ s0 x w) : ∃ j, nthR succ s0 j = some (x, w) := by
  induction h with
  | start => exact ⟨0, rfl⟩
  | @step x y b w _ hy ih =>
    obtain ⟨j, hj⟩ := ih
    refine nth_of_mem (k := j + 1) ?_
    rw [runs_succ hj]
    exact List.mem_append.mpr (.inr (List.mem_map.mpr ⟨(b, y), hy, rfl⟩))
/-! the queue -/
theorem nodup_ne {α : Type} {l : List α} (h : l.Nodup) {i j : Nat} (hij : i < j) {x y : α} (hx : l[i]? = some x) (hy : l[j]? = some y) : x ≠ y := by
  rw [List.nodup_iff_pairwise_ne, List.pairwise_iff_getElem] at h
  obtain ⟨h1, e1⟩ := List.getElem?_eq_some_iff.mp hx
  obtain ⟨h2, e2⟩ := List.getElem?_eq_some_iff.mp hy
  rw [← e1, ← e2]
  exact h i j h1 h2 hij
theorem push_mem {Q : List (Run σ)} {e : Run σ} : e.1 ∈ (pushR Q e).map (·.1) := by
  unfold pushR
  split
  · assumption
  · rw [List.map_append]; exact List.mem_append.mpr (.inr (by simp))
theorem push_prefix (Q : List (Run σ)) (e : Run σ) : ∃ t, pushR Q e = Q ++ t := by
  unfold pushR
  split
  · exact ⟨[], by simp⟩
  · exact ⟨_, rfl⟩
theorem pushes_prefix : ∀ (es Q : List (Run σ)), ∃ t, es.foldl pushR Q = Q ++ t
  | [], Q => ⟨[], by simp⟩
  | e :: es, Q => by
    obtain ⟨t, h⟩ := push_prefix Q e
    obtain ⟨u, h2⟩ := pushes_prefix es (pushR Q e)
    exact ⟨t ++ u, by rw [List.foldl_cons, h2, h, List.append_assoc]⟩
theorem pushes_all : ∀ (es Q : List (Run σ)), ∀ e ∈ es, e.1 ∈ (es.foldl pushR Q).map (·.1)
  | [], Q, e, h => by simp at h
  | a :: es, Q, e, h => by
    rw [List.foldl_cons]
    rcases List.mem_cons.mp h with h | h
    · subst h
      obtain ⟨t, h2⟩ := pushes_prefix es (pushR Q e)
      rw [h2, List.map_append]
      exact List.mem_append.mpr (.inl push_mem)
    · exact pushes_all es _ e h
theorem pushes_none : ∀ (es Q : List (Run σ)), (∀ e ∈ es, e.1 ∈ Q.map (·.1)) → es.foldl pushR Q = Q
  | [], Q, _ => rfl
  | e :: es, Q, h => by
    have e1 : pushR Q e = Q := by unfold pushR; rw [if_pos (h e List.mem_cons_self)]
    rw [List.foldl_cons, e1]
    exact pushes_none es Q fun x hx => h x (List.mem_cons_of_mem _ hx)
theorem pushes_sub : ∀ (es Q : List (Run σ)), ∀ x ∈ es.foldl pushR Q, x ∈ Q ∨ x ∈ es
  | [], Q, x, h => .inl h
  | e :: es, Q, x, h => by
    rw [List.foldl_cons] at h
    rcases pushes_sub es _ x h with h | h
    · unfold pushR at h
      split at h
      · exact .inl h
      · rcases List.mem_append.mp h with h | h
        · exact .inl h
        · rw [List.mem_singleton] at h; exact .inr (List.mem_cons.mpr (.inl h))
    · exact .inr (List.mem_cons_of_mem _ h)
theorem pushes_nodup : ∀ (es Q : List (Run σ)), (Q.map (·.1)).Nodup → ((es.foldl pushR Q).map (·.1)).Nodup
  | [], Q, h => h
  | e :: es, Q, h => by
    rw [List.foldl_cons]
    refine pushes_nodup es _ ?_
    unfold pushR
    split
    · exact h
    · rename_i hn
      rw [List.map_append, List.nodup_append]
      exact ⟨h, by simp, fun a ha b hb e => hn (by rw [List.map_cons, List.map_nil, List.mem_singleton] at hb; rw [← hb, ← e]; exact ha)⟩
theorem dd_append (xs ys : List (Run σ)) : ddR (xs ++ ys) = ys.foldl pushR (ddR xs) := by unfold ddR; rw [List.foldl_append]
theorem dd_keys (xs : List (Run σ)) : ∀ x ∈ xs, x.1 ∈ (ddR xs).map (·.1) := pushes_all xs []
theorem dd_sub (xs : List (Run σ)) : ∀ x ∈ ddR xs, x ∈ xs := fun x h => (pushes_sub xs [] x h).elim (fun h => by simp at h) id
variable (succ s0) in
/-- the queue Q, of which so many have been followed -/
structure InvQ (acc : σ → Bool) (Q : List (Run σ)) (at' : Nat) (k : Nat) : Prop where
  q : Q = ddR (runs succ s0 k)
  t : ddR ((runs succ s0 k).take k) = Q.take at'
  le : at' ≤ Q.length
  cl : ∀ z ∈ Q.take at', ∀ p ∈ succ z.1, p.2 ∈ Q.map (·.1)
  no : ∀ j, j < k → ∀ y, nthR succ s0 j = some y → acc y.1 = false
  kl : k ≤ (runs succ s0 k).length
variable {acc : σ → Bool} {Q : List (Run σ)} {at' k : Nat}
theorem InvQ.start : InvQ succ s0 acc [(s0, [])] 0 0 := ⟨rfl, rfl, Nat.zero_le _, fun _ h => by simp at h, fun _ h => absurd h (Nat.not_lt_zero _), Nat.zero_le _⟩
theorem InvQ.nodup (h : InvQ succ s0 acc Q at' k) : (Q.map (·.1)).Nodup := by
  rw [h.q]
  exact pushes_nodup _ [] List.nodup_nil
theorem InvQ.rn (h : InvQ succ s0 acc Q at' k) : ∀ x ∈ Q, Rn succ s0 x.1 x.2 := fun x hx => by
  rw [h.q] at hx
  exact runs_rn k x (dd_sub _ x hx)
theorem take_runs (h : InvQ succ s0 acc Q at' k) {y : Run σ} (hy : nthR succ s0 k = some y) : (runs succ s0 (k + 1)).take (k + 1) = (runs succ s0 k).take k ++ [y] := by
  have hl := nth_len hy
  rw [runs_succ hy, List.take_append_of_le_length (by omega), List.take_add_one]
  have hy : (runs succ s0 k)[k]? = some y := hy
  rw [hy]
  rfl
/-- a run whose state was followed before tells nothing new -/
theorem InvQ.skip (h : InvQ succ s0 acc Q at' k) {y : Run σ} (hy : nthR succ s0 k = some y) (hd : y.1 ∈ (Q.take at').map (·.1)) : InvQ succ s0 acc Q at' (k + 1) := by
  obtain ⟨z, hz, e⟩ := List.mem_map.mp hd
  have hn : (extR succ y).foldl pushR Q = Q := pushes_none _ _ fun x hx => by
    unfold extR at hx
    obtain ⟨p, hp, rfl⟩ := List.mem_map.mp hx
    exact h.cl z hz p (by rw [e]; exact hp)
  refine ⟨?_, ?_, h.le, h.cl, fun j hj x hx => ?_, ?_⟩
  · rw [runs_succ hy, dd_append, ← h.q, hn]
  · rw [take_runs h hy, dd_append, h.t]
    exact pushes_none [y] _ fun x hx => by rw [List.mem_singleton.mp hx]; exact hd
  · by_cases e2 : j = k
    · subst e2
      rw [hy] at hx
      cases hx
      rw [← e]
      have hz2 : z ∈ (runs succ s0 j).take j := dd_sub _ z (by rw [h.t]; exact hz)
      obtain ⟨i, hi⟩ := List.getElem?_of_mem hz2
      rw [List.getElem?_take] at hi
      split at hi
      · rename_i hlt
        exact h.no i hlt z (nth_below hi)
      · cases hi
    · exact h.no j (by omega) x hx
  · rw [runs_succ hy, List.length_append]
    have := nth_len hy
    omega
/-- the next run whose state is new is the one at which the queue stands -/
theorem InvQ.norm {x : Run σ} (hx : Q[at']? = some x) : ∀ (n k : Nat), (runs succ s0 k).length ≤ k + n → InvQ succ s0 acc Q at' k → ∃ m, InvQ succ s0 acc Q at' m ∧ nthR succ s0 m = some x := by
  -- some run behind k has a new state; go on to it
  have go : ∀ (n k j : Nat) (y : Run σ), j = k + n → (runs succ s0 k)[j]? = some y → y.1 ∉ (Q.take at').map (·.1) → InvQ succ s0 acc Q at' k → ∃ m, InvQ succ s0 acc Q at' m ∧ nthR succ s0 m = some x := by
    intro n
    induction n with
    | zero =>
      intro k j y e hy hn h
      have e : j = k := by omega
      subst e
      have hy' : nthR succ s0 j = some y := hy
      refine ⟨j, h, ?_⟩
      -- y is the run at at'
      have e1 : ddR ((runs succ s0 j).take (j + 1)) = Q.take at' ++ [y] := by
        have hl := nth_len hy'
        have e2 : (runs succ s0 j).take (j + 1) = (runs succ s0 j).take j ++ [y] := by
          rw [List.take_add_one, hy]
          rfl
        rw [e2, dd_append, h.t]
        show pushR _ y = _
        unfold pushR
        rw [if_neg hn]
      obtain ⟨t, e3⟩ := pushes_prefix ((runs succ s0 j).drop (j + 1)) (Q.take at' ++ [y])
      have e4 : Q = Q.take at' ++ [y] ++ t := by
        rw [← e3, ← e1, ← dd_append, List.take_append_drop]
        exact h.q
      have hl : at' < Q.length := (List.getElem?_eq_some_iff.mp hx).1
      rw [e4, List.append_assoc, List.getElem?_append_right (by rw [List.length_take]; omega), List.length_take, Nat.min_eq_left (by omega), Nat.sub_self] at hx
      rw [hy']
      exact hx
    | succ n ih =>
      intro k j y e hy hn h
      have hl : j < (runs succ s0 k).length := (List.getElem?_eq_some_iff.mp hy).1
      have hz : ∃ z, nthR succ s0 k = some z := ⟨_, List.getElem?_eq_getElem (by omega)⟩
      obtain ⟨z, hz⟩ := hz
      by_cases hd : z.1 ∈ (Q.take at').map (·.1)
      · exact ih (k + 1) j y (by omega) (runs_get (Nat.le_succ k) hy) hn (h.skip hz hd)
      · -- z is new: the same as above
        refine ⟨k, h, ?_⟩
        have hz' : (runs succ s0 k)[k]? = some z := hz
        have e1 : ddR ((runs succ s0 k).take (k + 1)) = Q.take at' ++ [z] := by
          have e2 : (runs succ s0 k).take (k + 1) = (runs succ s0 k).take k ++ [z] := by
            rw [List.take_add_one, hz']
            rfl
          rw [e2, dd_append, h.t]
          show pushR _ z = _
          unfold pushR
          rw [if_neg hd]
        obtain ⟨t, e3⟩ := pushes_prefix ((runs succ s0 k).drop (k + 1)) (Q.take at' ++ [z])
        have e4 : Q = Q.take at' ++ [z] ++ t := by
          rw [← e3, ← e1, ← dd_append, List.take_append_drop]
          exact h.q
        have hl : at' < Q.length := (List.getElem?_eq_some_iff.mp hx).1
        rw [e4, List.append_assoc, List.getElem?_append_right (by rw [List.length_take]; omega), List.length_take, Nat.min_eq_left (by omega), Nat.sub_self] at hx
        rw [hz]
        exact hx
  intro n k _ h
  -- x itself is new, and stands behind k
  have hl : at' < Q.length := (List.getElem?_eq_some_iff.mp hx).1
  have hxm : x ∈ Q := List.mem_of_getElem? hx
  have hnew : x.1 ∉ (Q.take at').map (·.1) := fun hm => by
    have nd := h.nodup
    obtain ⟨z, hz, e⟩ := List.mem_map.mp hm
    obtain ⟨i, hi⟩ := List.getElem?_of_mem hz
    rw [List.getElem?_take] at hi
    split at hi
    · rename_i hlt
      have h1 : (Q.map (·.1))[i]? = some z.1 := by rw [List.getElem?_map, hi]; rfl
      have h2 : (Q.map (·.1))[at']? = some x.1 := by rw [List.getElem?_map, hx]; rfl
      exact nodup_ne nd hlt h1 h2 e
    · cases hi
  rw [h.q] at hxm
  obtain ⟨j, hj⟩ := List.getElem?_of_mem (dd_sub _ x hxm)
  by_cases hkj : k ≤ j
  · exact go (j - k) k j x (by omega) hj hnew h
  · exfalso
    refine hnew ?_
    rw [← h.t]
    exact dd_keys _ x (List.mem_of_getElem? (i := j) (by rw [List.getElem?_take, if_pos (by omega)]; exact hj))
theorem InvQ.norm' (h : InvQ succ s0 acc Q at' k) {x : Run σ} (hx : Q[at']? = some x) : ∃ m, InvQ succ s0 acc Q at' m ∧ nthR succ s0 m = some x := InvQ.norm hx _ k (Nat.le_add_left _ _) h
theorem InvQ.found (h : InvQ succ s0 acc Q at' k) {x : Run σ} (hx : Q[at']? = some x) (ha : acc x.1 = true) : Bfs succ s0 acc (some x.2) := by
  obtain ⟨m, hm, hn⟩ := h.norm' hx
  exact .inl ⟨m, x, hn, ha, rfl, hm.no⟩
theorem InvQ.next (h : InvQ succ s0 acc Q at' k) {x : Run σ} (hx : Q[at']? = some x) (ha : acc x.1 = false) : ∃ m, InvQ succ s0 acc ((extR succ x).foldl pushR Q) (at' + 1) m := by
  obtain ⟨m, hm, hn⟩ := h.norm' hx
  obtain ⟨t, ht⟩ := pushes_prefix (extR succ x) Q
  have hl : at' < Q.length := (List.getElem?_eq_some_iff.mp hx).1
  have htake : (Q ++ t).take (at' + 1) = Q.take at' ++ [x] := by
    rw [List.take_append_of_le_length (by omega), List.take_add_one, hx]
    rfl
  have hnew : x.1 ∉ (Q.take at').map (·.1) := fun hm => by
    have nd := h.nodup
    obtain ⟨z, hz, e⟩ := List.mem_map.mp hm
    obtain ⟨i, hi⟩ := List.getElem?_of_mem hz
    rw [List.getElem?_take] at hi
    split at hi
    · rename_i hlt
      have h1 : (Q.map (·.1))[i]? = some z.1 := by rw [List.getElem?_map, hi]; rfl
      have h2 : (Q.map (·.1))[at']? = some x.1 := by rw [List.getElem?_map, hx]; rfl
      exact nodup_ne nd hlt h1 h2 e
    · cases hi
  refine ⟨m + 1, ?_, ?_, ?_, fun z hz p hp => ?_, fun j hj y hy => ?_, ?_⟩
  · rw [runs_succ hn, dd_append, ← hm.q]
  · rw [take_runs hm hn, dd_append, hm.t, ht, htake]
    show pushR _ x = _
    unfold pushR
    rw [if_neg hnew]
  · rw [ht, List.length_append]; omega
  · rw [ht, htake] at hz
    rcases List.mem_append.mp hz with hz | hz
    · rw [ht, List.map_append]
      exact List.mem_append.mpr (.inl (h.cl z hz p hp))
    · rw [List.mem_singleton.mp hz] at hp
      exact pushes_all (extR succ x) Q (p.2, x.2 ++ [p.1]) (List.mem_map.mpr ⟨p, hp, rfl⟩)
  · by_cases e : j = m
    · subst e
      rw [hn] at hy
      cases hy
      exact ha
    · exact hm.no j (by omega) y hy
  · rw [runs_succ hn, List.length_append]
    have := nth_len hn
    omega
theorem InvQ.over (h : InvQ succ s0 acc Q Q.length k) : Bfs succ s0 acc none := by
  have all : ∀ m, (∃ y, nthR succ s0 m = some y) → m ≥ k → InvQ succ s0 acc Q Q.length (m + 1) := by
    intro m
    induction m with
    | zero =>
      intro ⟨y, hy⟩ hk
      have e : k = 0 := by omega
      subst e
      refine h.skip hy ?_
      rw [List.take_length]
      have := h.q
      rw [this]
      exact dd_keys _ y (List.mem_of_getElem? hy)
    | succ m ih =>
      intro ⟨y, hy⟩ hk
      have hm : InvQ succ s0 acc Q Q.length (m + 1) := by
        by_cases e : k = m + 1
        · rw [← e]; exact h
        · refine ih ?_ (by omega)
          have hl := nth_len hy
          have hz : ∃ z, nthR succ s0 m = some z := by
            cases q : nthR succ s0 m with
            | some z => exact ⟨z, rfl⟩
            | none =>
              exfalso
              have q' : (runs succ s0 m)[m]? = none := q
              have e2 : runs succ s0 (m + 1) = runs succ s0 m := by rw [runs, q']
              rw [e2] at hl
              have := List.getElem?_eq_none_iff.mp q'
              omega
          exact hz
      refine hm.skip hy ?_
      rw [List.take_length]
      rw [hm.q]
      exact dd_keys _ y (List.mem_of_getElem? hy)
  refine .inr ⟨rfl, fun m x hx => ?_⟩
  by_cases hk : m < k
  · exact h.no m hk x hx
  · exact (all m ⟨x, hx⟩ (by omega)).no m (by omega) x hx
end
/-! two machines, step by step alike -/
inductive All2 {α β : Type} (R : α → β → Prop) : List α → List β → Prop
  | nil : All2 R [] []
  | cons {a : α} {b : β} {as : List α} {bs : List β} : R a b → All2 R as bs → All2 R (a :: as) (b :: bs)
section
variable {α β : Type} {R : α → β → Prop}
theorem All2.length : ∀ {as : List α} {bs : List β}, All2 R as bs → as.length = bs.length
  | _, _, .nil => rfl
  | _, _, .cons _ h => by rw [List.length_cons, List.length_cons, h.length]
theorem All2.append : ∀ {as cs : List α} {bs ds : List β}, All2 R as bs → All2 R cs ds → All2 R (as ++ cs) (bs ++ ds)
  | _, _, _, _, .nil, h => h
  | _, _, _, _, .cons a t, h => .cons a (t.append h)
theorem All2.get : ∀ {as : List α} {bs : List β} (i : Nat), All2 R as bs → (as[i]? = none ∧ bs[i]? = none) ∨ ∃ a b, as[i]? = some a ∧ bs[i]? = some b ∧ R a b
  | _, _, _, .nil => .inl ⟨by simp, by simp⟩
  | _, _, 0, .cons h _ => .inr ⟨_, _, rfl, rfl, h⟩
  | _, _, i + 1, .cons _ t => by
    rcases t.get i with ⟨h1, h2⟩ | ⟨a, b, h1, h2, h3⟩
    · exact .inl ⟨by simpa using h1, by simpa using h2⟩
    · exact .inr ⟨a, b, by simpa using h1, by simpa using h2, h3⟩
theorem All2.mapR {γ δ : Type} {S : γ → δ → Prop} {f : α → γ} {g : β → δ} (w : ∀ a b, R a b → S (f a) (g b)) : ∀ {as : List α} {bs : List β}, All2 R as bs → All2 S (as.map f) (bs.map g)
  | _, _, .nil => .nil
  | _, _, .cons h t => .cons (w _ _ h) (t.mapR w)
end
section
variable {σ τ : Type} [DecidableEq σ] [DecidableEq τ] {s1 : σ → List (Bool × σ)} {s2 : τ → List (Bool × τ)} {x0 : σ} {y0 : τ} {a1 : σ → Bool} {a2 : τ → Bool}
theorem runs_rel (R : σ → τ → Prop) (h0 : R x0 y0) (hs : ∀ x y, R x y → All2 (fun p q => p.1 = q.1 ∧ R p.2 q.2) (s1 x) (s2 y)) : ∀ k, All2 (fun p q => R p.1 q.1 ∧ p.2 = q.2) (runs s1 x0 k) (runs s2 y0 k)
  | 0 => .cons ⟨h0, rfl⟩ .nil
  | k + 1 => by
    have ih := runs_rel R h0 hs k
    rw [runs, runs]
    rcases ih.get k with ⟨h1, h2⟩ | ⟨a, b, h1, h2, h3, h4⟩
    · rw [h1, h2]; exact ih
    · rw [h1, h2]
      refine ih.append ?_
      unfold extR
      exact (hs _ _ h3).mapR fun p q h => ⟨h.2, by rw [h.1, h4]⟩
theorem Bfs.eq (R : σ → τ → Prop) (h0 : R x0 y0) (hs : ∀ x y, R x y → All2 (fun p q => p.1 = q.1 ∧ R p.2 q.2) (s1 x) (s2 y)) (ha : ∀ x y, R x y → a1 x = a2 y)
    {r1 r2 : Option (List Bool)} (h1 : Bfs s1 x0 a1 r1) (h2 : Bfs s2 y0 a2 r2) : r1 = r2 := by
  have rel := fun k => (runs_rel R h0 hs k).get k
  have l2r : ∀ {k x}, nthR s1 x0 k = some x → ∃ y, nthR s2 y0 k = some y ∧ R x.1 y.1 ∧ x.2 = y.2 := fun {k x} h => by
    rcases rel k with ⟨e1, _⟩ | ⟨a, b, e1, e2, e3⟩
    · have h : (runs s1 x0 k)[k]? = some x := h
      rw [e1] at h; cases h
    · have h : (runs s1 x0 k)[k]? = some x := h
      rw [e1] at h; cases h
      exact ⟨b, e2, e3⟩
  have r2l : ∀ {k y}, nthR s2 y0 k = some y → ∃ x, nthR s1 x0 k = some x ∧ R x.1 y.1 ∧ x.2 = y.2 := fun {k y} h => by
    rcases rel k with ⟨_, e1⟩ | ⟨a, b, e1, e2, e3⟩
    · have h : (runs s2 y0 k)[k]? = some y := h
      rw [e1] at h; cases h
    · have h : (runs s2 y0 k)[k]? = some y := h
      rw [e2] at h; cases h
      exact ⟨a, e1, e3⟩
  rcases h1 with ⟨k, x, n1, c1, rfl, f1⟩ | ⟨rfl, f1⟩
  · obtain ⟨y, m1, m2, m3⟩ := l2r n1
    have hy : a2 y.1 = true := by rw [← ha _ _ m2]; exact c1
    rcases h2 with ⟨j, z, n2, c2, rfl, f2⟩ | ⟨rfl, f2⟩
    · obtain ⟨u, o1, o2, o3⟩ := r2l n2
      have hu : a1 u.1 = true := by rw [ha _ _ o2]; exact c2
      have e : j = k := by
        rcases Nat.lt_trichotomy j k with q | q | q
        · rw [f1 j q u o1] at hu; cases hu
        · exact q
        · rw [f2 k q y m1] at hy; cases hy
      subst e
      rw [m1] at n2
      cases n2
      rw [m3]
    · rw [f2 k y m1] at hy; cases hy
  · rcases h2 with ⟨j, z, n2, c2, rfl, f2⟩ | ⟨rfl, f2⟩
    · obtain ⟨u, o1, o2, o3⟩ := r2l n2
      rw [← ha _ _ o2, f1 j u o1] at c2; cases c2
    · rfl
end
end PD

set_option maxRecDepth 100000
set_option maxHeartbeats 4000000
set_option autoImplicit false
namespace PD
open PySem PySem.Spec L2
/-! ### branches that meet again -/
section
variable {α β : Type} {c : Prop} [Decidable c]
theorem m_ok {a b : α} {ρ ρ' : DE} : (if c then R.ok a ρ else R.ok b ρ') = R.ok (if c then a else b) (if c then ρ else ρ') := by split <;> rfl
theorem m_nx {ρ ρ' : DE} : (if c then Fl.nx ρ else Fl.nx ρ') = Fl.nx (if c then ρ else ρ') := by split <;> rfl
theorem m_rt {x y : D} {ρ ρ' : DE} : (if c then Fl.rt x ρ else Fl.rt y ρ') = Fl.rt (if c then x else y) (if c then ρ else ρ') := by split <;> rfl
theorem m_cons {a b : Option LV} {l m : List (Option LV)} : (if c then a :: l else b :: m) = (if c then a else b) :: (if c then l else m) := by split <;> rfl
theorem m_some {a b : α} : (if c then some a else some b) = some (if c then a else b) := by split <;> rfl
theorem m_d {x y : D} : (if c then LV.d x else LV.d y) = LV.d (if c then x else y) := by split <;> rfl
theorem m_own {x y : List D} : (if c then LV.own x else LV.own y) = LV.own (if c then x else y) := by split <;> rfl
theorem m_dct {x y : List (D × D)} : (if c then LV.dct x else LV.dct y) = LV.dct (if c then x else y) := by split <;> rfl
theorem m_int {x y : Int} : (if c then PyData.int x else PyData.int y) = PyData.int (if c then x else y) := by split <;> rfl
theorem m_bool {x y : Bool} : (if c then PyData.bool x else PyData.bool y) = PyData.bool (if c then x else y) := by split <;> rfl
theorem m_list {x y : List D} : (if c then PyData.list x else PyData.list y) = PyData.list (if c then x else y) := by split <;> rfl
theorem m_ret {x y : D} {o : Option (List D)} : (if c then FR.ret x o else FR.ret y o) = FR.ret (if c then x else y) o := by split <;> rfl
theorem s_rtl {x : D} {ρ : DE} {b : Fl} {k : MS} : seqR (if c then Fl.rt x ρ else b) k = if c then Fl.rt x ρ else seqR b k := by split <;> rfl
theorem s_rtr {x : D} {ρ : DE} {b : Fl} {k : MS} : seqR (if c then b else Fl.rt x ρ) k = if c then seqR b k else Fl.rt x ρ := by split <;> rfl
theorem s_rll {x : List D} {ρ : DE} {b : Fl} {k : MS} : seqR (if c then Fl.rl x ρ else b) k = if c then Fl.rl x ρ else seqR b k := by split <;> rfl
theorem s_rlr {x : List D} {ρ : DE} {b : Fl} {k : MS} : seqR (if c then b else Fl.rl x ρ) k = if c then seqR b k else Fl.rl x ρ := by split <;> rfl
theorem s_bkl {ρ : DE} {b : Fl} {k : MS} : seqR (if c then Fl.bk ρ else b) k = if c then Fl.bk ρ else seqR b k := by split <;> rfl
theorem s_bkr {ρ : DE} {b : Fl} {k : MS} : seqR (if c then b else Fl.bk ρ) k = if c then seqR b k else Fl.bk ρ := by split <;> rfl
theorem s_ctl {ρ : DE} {b : Fl} {k : MS} : seqR (if c then Fl.ct ρ else b) k = if c then Fl.ct ρ else seqR b k := by split <;> rfl
theorem s_ctr {ρ : DE} {b : Fl} {k : MS} : seqR (if c then b else Fl.ct ρ) k = if c then seqR b k else Fl.ct ρ := by split <;> rfl
theorem s_exl {e : EV} {ρ : DE} {b : Fl} {k : MS} : seqR (if c then Fl.ex e ρ else b) k = if c then Fl.ex e ρ else seqR b k := by split <;> rfl
theorem s_exr {e : EV} {ρ : DE} {b : Fl} {k : MS} : seqR (if c then b else Fl.ex e ρ) k = if c then seqR b k else Fl.ex e ρ := by split <;> rfl
theorem b_exl {e : EV} {ρ : DE} {b : R α} {k : α → M β} : bindR (if c then R.ex e ρ else b) k = if c then R.ex e ρ else bindR b k := by split <;> rfl
theorem b_exr {e : EV} {ρ : DE} {b : R α} {k : α → M β} : bindR (if c then b else R.ex e ρ) k = if c then bindR b k else R.ex e ρ := by split <;> rfl
theorem o_exl {e : EV} {ρ : DE} {b : R α} {k : α → MS} : ofR (if c then R.ex e ρ else b) k = if c then Fl.ex e ρ else ofR b k := by split <;> rfl
theorem o_exr {e : EV} {ρ : DE} {b : R α} {k : α → MS} : ofR (if c then b else R.ex e ρ) k = if c then ofR b k else Fl.ex e ρ := by split <;> rfl
/-- a truth value by a test -/
theorem m_tt (b : Bool) : (if b = true then true else false) = b := by cases b <;> rfl
theorem m_ft (b : Bool) : (if b = true then false else true) = !b := by cases b <;> rfl
theorem m_dt : (if c then true else false) = decide c := by by_cases h : c <;> simp [h]
theorem m_df : (if c then false else true) = !decide c := by by_cases h : c <;> simp [h]
theorem m_dtx (x : Bool) : (if c then true else x) = (decide c || x) := by by_cases h : c <;> simp [h]
theorem m_dfx (x : Bool) : (if c then false else x) = (!decide c && x) := by by_cases h : c <;> simp [h]
theorem m_xdt (x : Bool) : (if c then x else true) = (!decide c || x) := by by_cases h : c <;> simp [h]
theorem m_xdf (x : Bool) : (if c then x else false) = (decide c && x) := by by_cases h : c <;> simp [h]
end
end PD

set_option maxRecDepth 100000
set_option maxHeartbeats 4000000
set_option autoImplicit false
namespace PD
open PySem PySem.Spec L2
/-! ### dicts whose keys are states: a row is put, whether it was there or not -/
section
variable {σ : Type} [DecidableEq σ] {en : σ → D}
def putM (l : List σ) (x : σ) : List σ := if x ∈ l then l else l ++ [x]
theorem putKD_some {kvs : List (D × D)} {k v : D} (h : (getK kvs k).isSome = true) : putKD kvs k v = kvs.map fun p => if nk p.1 = nk k then (p.1, v) else p := by
  unfold putKD
  rw [if_pos h]
theorem setKO_put {va : σ → D} (hi : ∀ s t, nk (en s) = nk (en t) → s = t) (ht : ∀ s, tupK (en s) = true) {x : σ} {l : List σ} (hl : l.length < PySem.sizeLine) :
    setKO (some (l.map fun s => (en s, va s))) (en x) (va x) = some ((putM l x).map fun s => (en s, va s)) := by
  by_cases hx : x ∈ l
  · unfold setKO putM
    simp only [Option.bind_some, okKey_map ht, List.length_map, hl, and_self, if_true, hx]
    rw [putKD_some (by rw [getK_map hi, if_pos hx]; rfl), List.map_map]
    congr 1
    refine List.map_congr_left fun s _ => ?_
    show (if nk (en s) = nk (en x) then (en s, va x) else (en s, va s)) = _
    split
    · rename_i e; rw [hi _ _ e]
    · rfl
  · rw [setKO_map hi ht hx hl]
    unfold putM
    rw [if_neg hx]
end
theorem m_map {α : Type} {c : Prop} [Decidable c] {a b : List α} {f : α → D} : (if c then a.map f else b.map f) = (if c then a else b).map f := by split <;> rfl
theorem m_map2 {α : Type} {c : Prop} [Decidable c] {a b : List α} {f : α → D × D} : (if c then a.map f else b.map f) = (if c then a else b).map f := by split <;> rfl
theorem map_snoc {α β : Type} (f : α → β) (l : List α) (x : α) : l.map f ++ [f x] = (l ++ [x]).map f := by rw [List.map_append]; rfl
theorem maxL_nil (m : Int) : maxL m [] = m := rfl
theorem maxL_cons (m v : Int) (vs : List Int) : maxL m (v :: vs) = maxL (if v > m then v else m) vs := rfl
end PD

set_option maxRecDepth 100000
set_option maxHeartbeats 4000000
set_option autoImplicit false
namespace PD
open PySem PySem.Spec L2
/-! ### values told by data: what == and a dict make of them -/
structure Enc {α : Type} [DecidableEq α] (en : α → D) (n : Nat) : Prop where
  eqv : ∀ a b, PyData.eqv (en a) (en b) = decide (a = b)
  sh : ∀ a, Sh n (en a)
  nk : ∀ a b, PD.nk (en a) = PD.nk (en b) → a = b
  key : ∀ a, ∃ k, PD.nk (en a) = some k ∧ k.depth ≤ n
theorem Enc.up {α : Type} [DecidableEq α] {en : α → D} {n m : Nat} (h : Enc en n) (e : n ≤ m) : Enc en m := ⟨h.eqv, fun a => (h.sh a).up e, h.nk, fun a => let ⟨k, h1, h2⟩ := h.key a; ⟨k, h1, Nat.le_trans h2 e⟩⟩
theorem Enc.int : Enc PyData.int 0 := ⟨eqv_ii, sh_int, fun a b e => by simp only [PD.nk, Option.some.injEq, NestedKey.num.injEq] at e; exact e, fun a => ⟨.num a, rfl, by simp only [NestedKey.depth]; exact Nat.le_refl _⟩⟩
theorem Enc.bool : Enc PyData.bool 0 := ⟨eqv_bb, sh_bool, fun a b e => by
  simp only [PD.nk, Option.some.injEq, NestedKey.num.injEq] at e
  cases a <;> cases b <;> first | rfl | simp at e, fun a => ⟨_, rfl, by simp only [NestedKey.depth]; exact Nat.le_refl _⟩⟩
theorem keyAll {α : Type} [DecidableEq α] {en : α → D} {n : Nat} (h : Enc en n) : ∀ xs : List α, ∃ ks, nkAll (xs.map en) = some ks ∧ NestedKey.depthAll ks ≤ n
  | [] => ⟨[], rfl, by simp only [NestedKey.depthAll]; exact Nat.zero_le _⟩
  | x :: xs => by
    obtain ⟨k, h1, h2⟩ := h.key x
    obtain ⟨ks, h3, h4⟩ := keyAll h xs
    refine ⟨k :: ks, ?_, ?_⟩
    · rw [List.map_cons]; simp only [nkAll, h1, h3, Option.bind_some, Option.map_some]
    · simp only [NestedKey.depthAll]; omega
theorem nkAll_inj {α : Type} [DecidableEq α] {en : α → D} {n : Nat} (h : Enc en n) : ∀ xs ys : List α, nkAll (xs.map en) = nkAll (ys.map en) → xs = ys
  | [], [], _ => rfl
  | [], y :: ys, e => by
    obtain ⟨k, h1, _⟩ := h.key y
    obtain ⟨ks, h3, _⟩ := keyAll h ys
    rw [List.map_cons, List.map_nil] at e
    simp only [nkAll, h1, h3, Option.bind_some, Option.map_some, Option.some.injEq, List.nil_eq, reduceCtorEq] at e
  | x :: xs, [], e => by
    obtain ⟨k, h1, _⟩ := h.key x
    obtain ⟨ks, h3, _⟩ := keyAll h xs
    rw [List.map_cons, List.map_nil] at e
    simp only [nkAll, h1, h3, Option.bind_some, Option.map_some, Option.some.injEq, reduceCtorEq] at e
  | x :: xs, y :: ys, e => by
    obtain ⟨k, h1, _⟩ := h.key x
    obtain ⟨ks, h3, _⟩ := keyAll h xs
    obtain ⟨k', h1', _⟩ := h.key y
    obtain ⟨ks', h3', _⟩ := keyAll h ys
    rw [List.map_cons, List.map_cons] at e
    simp only [nkAll, h1, h3, h1', h3', Option.bind_some, Option.map_some, Option.some.injEq, List.cons.injEq] at e
    rw [h.nk x y (by rw [h1, h1', e.1]), nkAll_inj h xs ys (by rw [h3, h3', e.2])]
theorem Enc.list {α : Type} [DecidableEq α] {en : α → D} {n : Nat} (h : Enc en n) : Enc (fun xs : List α => PyData.tuple (xs.map en)) (n + 1) := by
  refine ⟨fun a b => by rw [eqv_tt]; exact eqvAll_map h.eqv a b, fun a => sh_tup fun x hx => ?_, fun a b e => ?_, fun a => ?_⟩
  · obtain ⟨y, _, rfl⟩ := List.mem_map.mp hx
    exact h.sh y
  · obtain ⟨ks, h3, _⟩ := keyAll h a
    obtain ⟨ks', h3', _⟩ := keyAll h b
    simp only [PD.nk, h3, h3', Option.map_some, Option.some.injEq, NestedKey.tup.injEq] at e
    exact nkAll_inj h a b (by rw [h3, h3', e])
  · obtain ⟨ks, h3, h4⟩ := keyAll h a
    exact ⟨.tup ks, by simp only [PD.nk, h3, Option.map_some], by simp only [NestedKey.depth]; omega⟩
/-! tuples of several: by their parts -/
/-- a row of data, by parts -/
structure EncR {α : Type} [DecidableEq α] (en : α → List D) (n : Nat) : Prop where
  eqv : ∀ a b, PyData.eqvAll (en a) (en b) = decide (a = b)
  sh : ∀ a, ∀ x ∈ en a, Sh n x
  nk : ∀ a b, nkAll (en a) = nkAll (en b) → a = b
  key : ∀ a, ∃ k, nkAll (en a) = some k ∧ NestedKey.depthAll k ≤ n
theorem EncR.one {α : Type} [DecidableEq α] {en : α → D} {n : Nat} (h : Enc en n) : EncR (fun a => [en a]) n := by
  refine ⟨fun a b => by rw [eqvAll_cc, eqvAll_nn, h.eqv, Bool.and_true], fun a x hx => by rw [List.mem_singleton.mp hx]; exact h.sh a, fun a b e => ?_, fun a => ?_⟩
  · exact List.cons.inj (nkAll_inj h [a] [b] e) |>.1
  · obtain ⟨ks, h1, h2⟩ := keyAll h [a]
    exact ⟨ks, h1, h2⟩
theorem EncR.cons {α β : Type} [DecidableEq α] [DecidableEq β] {en : α → D} {em : β → List D} {n : Nat} (h : Enc en n) (g : EncR em n) : EncR (fun p : α × β => en p.1 :: em p.2) n := by
  refine ⟨fun a b => ?_, fun a x hx => ?_, fun a b e => ?_, fun a => ?_⟩
  · rw [eqvAll_cc, h.eqv, g.eqv, ← Bool.decide_and]
    exact decide_eq_decide.mpr Prod.ext_iff.symm
  · rcases List.mem_cons.mp hx with e | hx
    · rw [e]; exact h.sh _
    · exact g.sh _ x hx
  · obtain ⟨k, h1, _⟩ := h.key a.1
    obtain ⟨ks, h3, _⟩ := g.key a.2
    obtain ⟨k', h1', _⟩ := h.key b.1
    obtain ⟨ks', h3', _⟩ := g.key b.2
    simp only [nkAll, h1, h3, h1', h3', Option.bind_some, Option.map_some, Option.some.injEq, List.cons.injEq] at e
    exact Prod.ext (h.nk _ _ (by rw [h1, h1', e.1])) (g.nk _ _ (by rw [h3, h3', e.2]))
  · obtain ⟨k, h1, h2⟩ := h.key a.1
    obtain ⟨ks, h3, h4⟩ := g.key a.2
    exact ⟨k :: ks, by simp only [nkAll, h1, h3, Option.bind_some, Option.map_some], by simp only [NestedKey.depthAll]; omega⟩
theorem EncR.tup {α : Type} [DecidableEq α] {en : α → List D} {n : Nat} (h : EncR en n) : Enc (fun a => PyData.tuple (en a)) (n + 1) := by
  refine ⟨fun a b => by rw [eqv_tt]; exact h.eqv a b, fun a => sh_tup (h.sh a), fun a b e => ?_, fun a => ?_⟩
  · obtain ⟨ks, h3, _⟩ := h.key a
    obtain ⟨ks', h3', _⟩ := h.key b
    simp only [PD.nk, h3, h3', Option.map_some, Option.some.injEq, NestedKey.tup.injEq] at e
    exact h.nk a b (by rw [h3, h3', e])
  · obtain ⟨ks, h3, h4⟩ := h.key a
    exact ⟨.tup ks, by simp only [PD.nk, h3, Option.map_some], by simp only [NestedKey.depth]; omega⟩
/-- a tuple may be a key -/
theorem EncR.tupK {α : Type} [DecidableEq α] {en : α → List D} {n : Nat} (h : EncR en n) (hn : n + 1 ≤ 8) (a : α) : PD.tupK (.tuple (en a)) = true := by
  have e : PD.tupK (.tuple (en a)) = (match PD.nk (.tuple (en a)) with | some k => decide (k.depth ≤ 8) | none => false) := rfl
  obtain ⟨k, h1, h2⟩ := h.tup.key a
  rw [e, h1]
  exact decide_eq_true (by omega)
/-! ### few: numbers for things -/
structure Few {α : Type} (P : α → Prop) (c : α → Nat) (n : Nat) : Prop where
  lt : ∀ a, P a → c a < n
  inj : ∀ a b, P a → P b → c a = c b → a = b
theorem Few.prod {α β : Type} {P : α → Prop} {Q : β → Prop} {c : α → Nat} {d : β → Nat} {n m : Nat} (h : Few P c n) (g : Few Q d m) : Few (fun p : α × β => P p.1 ∧ Q p.2) (fun p => c p.1 * m + d p.2) (n * m) := by
  refine ⟨fun a ha => ?_, fun a b ha hb e => ?_⟩
  · have h1 := h.lt _ ha.1
    have h2 := g.lt _ ha.2
    calc c a.1 * m + d a.2 < c a.1 * m + m := Nat.add_lt_add_left h2 _
      _ = (c a.1 + 1) * m := (Nat.succ_mul _ _).symm
      _ ≤ n * m := Nat.mul_le_mul_right m h1
  · have h1 := g.lt _ ha.2
    have h2 := g.lt _ hb.2
    have hm : 0 < m := Nat.lt_of_le_of_lt (Nat.zero_le _) h1
    have e : c a.1 * m + d a.2 = c b.1 * m + d b.2 := e
    have e1 : c a.1 = c b.1 := by
      have : (c a.1 * m + d a.2) / m = (c b.1 * m + d b.2) / m := by rw [e]
      rw [Nat.mul_comm, Nat.mul_add_div hm, Nat.div_eq_of_lt h1, Nat.mul_comm (c b.1), Nat.mul_add_div hm, Nat.div_eq_of_lt h2] at this
      omega
    have e2 : d a.2 = d b.2 := by rw [e1] at e; omega
    exact Prod.ext (h.inj _ _ ha.1 hb.1 e1) (g.inj _ _ ha.2 hb.2 e2)
theorem Few.bool : Few (fun _ : Bool => True) (fun b => if b then 1 else 0) 2 := ⟨fun a _ => by cases a <;> decide, fun a b _ _ e => by cases a <;> cases b <;> first | rfl | simp at e⟩
theorem Few.int (n : Nat) : Few (fun i : Int => 0 ≤ i ∧ i < n) Int.toNat n := ⟨fun a h => by omega, fun a b h g e => by omega⟩
theorem Few.imp {α : Type} {P Q : α → Prop} {c : α → Nat} {n : Nat} (h : Few P c n) (w : ∀ a, Q a → P a) : Few Q c n := ⟨fun a q => h.lt a (w a q), fun a b p q => h.inj a b (w a p) (w b q)⟩
def bitsC : List Bool → Nat
  | [] => 1
  | b :: h => (if b then 1 else 0) + 2 * bitsC h
theorem bitsC_pos : ∀ h, 0 < bitsC h
  | [] => Nat.one_pos
  | b :: h => by have := bitsC_pos h; unfold bitsC; omega
theorem bitsC_inj : ∀ g h : List Bool, bitsC g = bitsC h → g = h
  | [], [], _ => rfl
  | [], b :: h, e => by have := bitsC_pos h; unfold bitsC at e; omega
  | b :: h, [], e => by have := bitsC_pos h; unfold bitsC at e; omega
  | a :: g, b :: h, e => by
    unfold bitsC at e
    have e1 : a = b := by cases a <;> cases b <;> simp at e <;> first | rfl | omega
    have e2 : bitsC g = bitsC h := by rw [e1] at e; omega
    rw [e1, bitsC_inj g h e2]
theorem bitsC_lt : ∀ (h : List Bool), bitsC h < 2 ^ (h.length + 1)
  | [] => by decide
  | b :: h => by
    have := bitsC_lt h
    unfold bitsC
    rw [List.length_cons, Nat.pow_succ]
    split <;> omega
theorem Few.bools (n : Nat) : Few (fun h : List Bool => h.length ≤ n) bitsC (2 ^ (n + 1)) := ⟨fun a h => Nat.lt_of_lt_of_le (bitsC_lt a) (Nat.pow_le_pow_right (by decide) (by omega)), fun a b _ _ e => bitsC_inj a b e⟩
theorem Few.len {α : Type} {P : α → Prop} {c : α → Nat} {n : Nat} (h : Few P c n) {l : List α} (hn : l.Nodup) (hp : ∀ x ∈ l, P x) : l.length ≤ n := nodup_codes hn (fun x hx y hy e => h.inj x y (hp x hx) (hp y hy) e) fun x hx => h.lt x (hp x hx)
end PD

set_option maxRecDepth 100000
set_option maxHeartbeats 4000000
set_option autoImplicit false
namespace PD
open PySem PySem.Spec L2
/-! ### whiles that search -/
section
variable {σ : Type} [DecidableEq σ] {outs : σ → List (σ × List Int)} {s0 : σ}
theorem MidA.fold {met0 w0 : List σ} {m0 : Int} {x : σ} (hx : x ∈ met0) : ∀ (os : List (σ × List Int)) (told : List (σ × List Int)) (a : List σ × List σ × Int), MidA outs s0 met0 w0 m0 x told a.1 a.2.1 a.2.2 → (∀ o ∈ os, o ∈ outs x) →
    MidA outs s0 met0 w0 m0 x (told ++ os) (os.foldl pushA a).1 (os.foldl pushA a).2.1 (os.foldl pushA a).2.2
  | [], told, a, h, _ => by rw [List.append_nil]; exact h
  | o :: os, told, a, h, ho => by
    have := MidA.fold hx os (told ++ [o]) (pushA a o) (h.push outs s0 hx (ho o List.mem_cons_self)) fun p hp => ho p (List.mem_cons_of_mem _ hp)
    rw [List.append_assoc] at this
    exact this
theorem InvA.turn {met w : List σ} {x : σ} {m : Int} (h : InvA outs s0 met (w ++ [x]) m) :
    InvA outs s0 ((outs x).foldl pushA (met, w, m)).1 ((outs x).foldl pushA (met, w, m)).2.1 ((outs x).foldl pushA (met, w, m)).2.2 ∧
    ((outs x).foldl pushA (met, w, m)).1.length + w.length = met.length + ((outs x).foldl pushA (met, w, m)).2.1.length ∧ met.length ≤ ((outs x).foldl pushA (met, w, m)).1.length := by
  obtain ⟨h1, h2⟩ := h.pop
  have h3 := MidA.fold (a := (met, w, m)) h2 (outs x) [] h1 fun o ho => ho
  rw [List.nil_append] at h3
  refine ⟨h3.done outs s0 h.st, h3.len, ?_⟩
  have : ∀ (os : List (σ × List Int)) (a : List σ × List σ × Int), a.1.length ≤ (os.foldl pushA a).1.length := fun os => by
    induction os with
    | nil => exact fun a => Nat.le_refl _
    | cons o os ih =>
      intro a
      refine Nat.le_trans ?_ (ih (pushA a o))
      unfold pushA
      split
      · exact Nat.le_refl _
      · rw [List.length_append]; omega
  exact this (outs x) (met, w, m)
theorem pushA_len (os : List (σ × List Int)) : ∀ (a : List σ × List σ × Int), (os.foldl pushA a).1.length ≤ a.1.length + os.length ∧ (os.foldl pushA a).2.1.length ≤ a.2.1.length + os.length := by
  induction os with
  | nil => exact fun a => ⟨Nat.le_refl _, Nat.le_refl _⟩
  | cons o os ih =>
    intro a
    obtain ⟨h1, h2⟩ := ih (pushA a o)
    rw [List.foldl_cons, List.length_cons]
    have : (pushA a o).1.length ≤ a.1.length + 1 ∧ (pushA a o).2.1.length ≤ a.2.1.length + 1 := by
      unfold pushA
      split
      · exact ⟨by dsimp only; omega, by dsimp only; omega⟩
      · exact ⟨by rw [List.length_append]; exact Nat.le_refl _, by rw [List.length_append]; exact Nat.le_refl _⟩
    omega
/-- a while that pops, and marks at the push -/
theorem dfsA {p : M Bool} {g : MS} (env : List σ → List σ → Int → DE → Prop) (N : Nat) (hN : ∀ met wait m, InvA outs s0 met wait m → met.length ≤ N)
    (hp : ∀ met wait m ρ, env met wait m ρ → p ρ = .ok (decide (wait ≠ [])) ρ)
    (hg : ∀ met w x m ρ, InvA outs s0 met (w ++ [x]) m → env met (w ++ [x]) m ρ → ∃ ρ', g ρ = .nx ρ' ∧ env ((outs x).foldl pushA (met, w, m)).1 ((outs x).foldl pushA (met, w, m)).2.1 ((outs x).foldl pushA (met, w, m)).2.2 ρ') {ρ : DE}
    (h0 : env [s0] [s0] 0 ρ) : ∃ ρ' met m, S.while_ p g ρ = .nx ρ' ∧ env met [] m ρ' ∧ Top (nextO outs) s0 (valsO outs) m := by
  obtain ⟨ρ', e, met, m, h1, h2⟩ := while_inv (p := p) (g := g) (fun n ρ => ∃ met wait m, env met wait m ρ ∧ InvA outs s0 met wait m ∧ n = 2 * (N - met.length) + wait.length)
    (fun ρ => ∃ met m, env met [] m ρ ∧ Top (nextO outs) s0 (valsO outs) m) _ ρ ⟨_, _, _, h0, InvA.start outs s0, rfl⟩ fun n ρ ⟨met, wait, m, h1, h2, h3⟩ => by
      have hp' := hp met wait m ρ h1
      by_cases hw : wait = []
      · subst hw
        exact .inl ⟨ρ, by rw [hp']; rfl, met, m, h1, h2.top⟩
      · have e : wait = wait.dropLast ++ [wait.getLast hw] := (List.dropLast_concat_getLast hw).symm
        generalize wait.dropLast = w at e
        generalize wait.getLast hw = x at e
        subst e
        obtain ⟨ρ', g1, g2⟩ := hg met w x m ρ h2 h1
        obtain ⟨t1, t2, t3⟩ := h2.turn
        refine .inr ⟨ρ, ρ', _, by rw [hp', decide_eq_true hw], .inl g1, ?_, _, _, _, g2, t1, rfl⟩
        have := hN _ _ _ t1
        rw [h3, List.length_append, List.length_singleton]
        omega
  exact ⟨ρ', met, m, e, h1, h2⟩
/-- a while that pops, and marks at the pop; two values are watched -/
theorem dfsB {o1 o2 : σ → List (σ × List Int)} (hn : ∀ x, nextO o1 x = nextO o2 x) {p : M Bool} {g : MS} (env : List σ → List σ → Int → Int → DE → Prop) (N : Nat) (hN : ∀ met line m, InvB o1 s0 met line m → met.length ≤ N) (h2 : ∀ x, (o1 x).length ≤ 2)
    (hp : ∀ met line m k ρ, env met line m k ρ → p ρ = .ok (decide (line ≠ [])) ρ)
    (hs : ∀ met l x m k ρ, InvB o1 s0 met (l ++ [x]) m → env met (l ++ [x]) m k ρ → x ∈ met → ∃ ρ', g ρ = .nx ρ' ∧ env met l m k ρ')
    (hg : ∀ met l x m k ρ, InvB o1 s0 met (l ++ [x]) m → l.length ≤ 2 * N → env met (l ++ [x]) m k ρ → x ∉ met → ∃ ρ', g ρ = .nx ρ' ∧ env (met ++ [x]) (l ++ nextO o1 x) (maxL m (valsO o1 x)) (maxL k (valsO o2 x)) ρ') {ρ : DE}
    (h0 : env [] [s0] 0 0 ρ) : ∃ ρ' met m k, S.while_ p g ρ = .nx ρ' ∧ env met [] m k ρ' ∧ Top (nextO o1) s0 (valsO o1) m ∧ Top (nextO o2) s0 (valsO o2) k := by
  have mx : ∀ (m : Int) (vs : List Int), m ≤ maxL m vs ∧ (∀ v ∈ vs, v ≤ maxL m vs) ∧ (maxL m vs = m ∨ maxL m vs ∈ vs) := fun m vs => maxL_le vs m
  obtain ⟨ρ', e, met, m, k, h1, h2, h3⟩ := while_inv (p := p) (g := g) (fun n ρ => ∃ met line m k, env met line m k ρ ∧ InvB o1 s0 met line m ∧ InvB o2 s0 met line k ∧ line.length ≤ met.length + 1 ∧ n = 3 * (N - met.length) + line.length)
    (fun ρ => ∃ met m k, env met [] m k ρ ∧ Top (nextO o1) s0 (valsO o1) m ∧ Top (nextO o2) s0 (valsO o2) k) _ ρ ⟨_, _, _, _, h0, InvB.start o1 s0, InvB.start o2 s0, Nat.le_refl _, rfl⟩ fun n ρ ⟨met, line, m, k, h1, i1, i2, hl, h3⟩ => by
      have hp' := hp met line m k ρ h1
      by_cases hw : line = []
      · subst hw
        exact .inl ⟨ρ, by rw [hp']; rfl, met, m, k, h1, i1.top, i2.top⟩
      · have e : line = line.dropLast ++ [line.getLast hw] := (List.dropLast_concat_getLast hw).symm
        generalize line.dropLast = l at e
        generalize line.getLast hw = x at e
        subst e
        rw [List.length_append, List.length_singleton] at hl
        by_cases hx : x ∈ met
        · obtain ⟨ρ', g1, g2⟩ := hs met l x m k ρ i1 h1 hx
          refine .inr ⟨ρ, ρ', _, by rw [hp', decide_eq_true hw], .inl g1, ?_, _, _, _, _, g2, i1.skip _ _ hx, i2.skip _ _ hx, by omega, rfl⟩
          rw [h3, List.length_append, List.length_singleton]
          omega
        · have i1' := i1.take o1 s0 hx (mx m _).1 (mx m _).2.1 (mx m _).2.2
          have i2' := i2.take o2 s0 hx (mx k _).1 (mx k _).2.1 (mx k _).2.2
          rw [← hn] at i2'
          have hm := hN _ _ _ i1'
          rw [List.length_append, List.length_singleton] at hm
          obtain ⟨ρ', g1, g2⟩ := hg met l x m k ρ i1 (by omega) h1 hx
          have hl2 : (nextO o1 x).length ≤ 2 := by unfold nextO; rw [List.length_map]; exact h2 x
          refine .inr ⟨ρ, ρ', _, by rw [hp', decide_eq_true hw], .inl g1, ?_, _, _, _, _, g2, i1', i2', ?_, rfl⟩
          · simp only [h3, List.length_append, List.length_singleton]
            omega
          · simp only [List.length_append, List.length_singleton]
            omega
  exact ⟨ρ', met, m, k, e, h1, h2, h3⟩
/-- what is reached on one side is reached on the other -/
theorem Reach.sim {τ : Type} {n1 : σ → List σ} {n2 : τ → List τ} {x0 : σ} {y0 : τ} (R : σ → τ → Prop) (h0 : R x0 y0) (hs : ∀ x y, R x y → ∀ x' ∈ n1 x, ∃ y' ∈ n2 y, R x' y') {x : σ} (h : Reach n1 x0 x) : ∃ y, Reach n2 y0 y ∧ R x y := by
  induction h with
  | start => exact ⟨y0, .start, h0⟩
  | step _ hx ih =>
    obtain ⟨y, h1, h2⟩ := ih
    obtain ⟨y', h3, h4⟩ := hs _ y h2 _ hx
    exact ⟨y', .step h1 h3, h4⟩
end
end PD

set_option maxRecDepth 100000
set_option maxHeartbeats 4000000
set_option autoImplicit false
namespace PD
open PySem PySem.Spec L2
/-! ### whiles that may return -/
theorem while_rt {p : M Bool} {g : MS} {ρ ρ1 ρ2 : DE} {x : D} (h : p ρ = .ok true ρ1) (hg : g ρ1 = .rt x ρ2) : S.while_ p g ρ = .rt x ρ2 := by
  have e : whileN p g 1 ρ = .rt x ρ2 := by
    unfold whileN
    rw [h]
    simp only [if_true]
    rw [hg]
  rw [while_eq (n := 1) (by rw [e]; rfl), e]
/-- a while by what holds and a number that falls; a turn may return -/
theorem while_wp {p : M Bool} {g : MS} (I : Nat → DE → Prop) (Q : Fl → Prop) : ∀ (n : Nat) (ρ : DE), I n ρ → (∀ n ρ, I n ρ → (∃ ρ1, p ρ = .ok false ρ1 ∧ Q (.nx ρ1)) ∨ (∃ ρ1 x ρ2, p ρ = .ok true ρ1 ∧ g ρ1 = .rt x ρ2 ∧ Q (.rt x ρ2)) ∨ ∃ ρ1 ρ2 m, p ρ = .ok true ρ1 ∧ (g ρ1 = .nx ρ2 ∨ g ρ1 = .ct ρ2) ∧ m < n ∧ I m ρ2) →
    Q (S.while_ p g ρ) ∧ (S.while_ p g ρ).isBad = false := by
  intro n
  induction n using Nat.strongRecOn with
  | _ n ih =>
    intro ρ h hs
    rcases hs n ρ h with ⟨ρ1, h1, h2⟩ | ⟨ρ1, x, ρ2, h1, h2, h3⟩ | ⟨ρ1, ρ2, m, h1, h2, h3, h4⟩
    · rw [while_done h1]; exact ⟨h2, rfl⟩
    · rw [while_rt h1 h2]; exact ⟨h3, rfl⟩
    · obtain ⟨e1, e2⟩ := ih m h3 ρ2 h4 hs
      rw [while_go h1 h2 e2]; exact ⟨e1, e2⟩
theorem forD_nil {G : Gt} {g : MS} {ρ : DE} : forD G g [] ρ = .nx ρ := rfl
theorem forD_nx {G : Gt} {g : MS} {x : D} {xs : List D} {ρ ρ1 ρ2 : DE} (h1 : G x ρ = some ρ1) (h2 : g ρ1 = .nx ρ2) : forD G g (x :: xs) ρ = forD G g xs ρ2 := by
  rw [forD, h1]
  simp only
  rw [h2]
/-! ### dicts from states to what was found -/
section
variable {σ : Type} [DecidableEq σ] {en : σ → D} {va : List Bool → D}
def rowsR (en : σ → D) (va : List Bool → D) (Q : List (Run σ)) : List (D × D) := Q.map fun z => (en z.1, va z.2)
def putRn (Q : List (Run σ)) (e : Run σ) : List (Run σ) := if e.1 ∈ Q.map (·.1) then Q.map (fun z => if z.1 = e.1 then (z.1, e.2) else z) else Q ++ [e]
theorem getK_none (hi : ∀ s t, nk (en s) = nk (en t) → s = t) (x : σ) : ∀ Q : List (Run σ), (getK (rowsR en va Q) (en x)).isSome = decide (x ∈ Q.map (·.1))
  | [] => rfl
  | z :: Q => by
    show (if nk (en z.1) = nk (en x) then some (va z.2) else getK (rowsR en va Q) (en x)).isSome = _
    by_cases e : z.1 = x
    · rw [if_pos (by rw [e]), decide_eq_true (by rw [List.map_cons, e]; exact List.mem_cons_self)]
      rfl
    · rw [if_neg (fun h => e (hi _ _ h)), getK_none hi x Q]
      exact decide_eq_decide.mpr ⟨fun h => by rw [List.map_cons]; exact List.mem_cons_of_mem _ h, fun h => by
        rw [List.map_cons] at h
        exact (List.mem_cons.mp h).elim (fun q => absurd q.symm e) id⟩
theorem getK_run (hi : ∀ s t, nk (en s) = nk (en t) → s = t) : ∀ (Q : List (Run σ)), (Q.map (·.1)).Nodup → ∀ x ∈ Q, getK (rowsR en va Q) (en x.1) = some (va x.2)
  | [], _, x, h => by simp at h
  | z :: Q, hn, x, h => by
    rw [List.map_cons, List.nodup_cons] at hn
    show (if nk (en z.1) = nk (en x.1) then some (va z.2) else getK (rowsR en va Q) (en x.1)) = _
    rcases List.mem_cons.mp h with e | h
    · rw [e, if_pos rfl]
    · have ne : z.1 ≠ x.1 := fun e => hn.1 (by rw [e]; exact List.mem_map.mpr ⟨x, h, rfl⟩)
      rw [if_neg (fun q => ne (hi _ _ q)), getK_run hi Q hn.2 x h]
theorem okKey_run (ht : ∀ s, tupK (en s) = true) (x : σ) (Q : List (Run σ)) : okKey (rowsR en va Q) (en x) = true := by
  have e : ((rowsR en va Q).all fun p => tupK p.1) = true := by
    unfold rowsR
    rw [List.all_map]
    exact List.all_eq_true.mpr fun s _ => ht s.1
  unfold okKey
  rw [ht x, e, Bool.true_and, Bool.or_true]
theorem inO_run (hi : ∀ s t, nk (en s) = nk (en t) → s = t) (ht : ∀ s, tupK (en s) = true) (neg : Bool) (x : σ) (Q : List (Run σ)) :
    inO neg (some (rowsR en va Q)) (en x) = some (.bool (if neg then decide (x ∉ Q.map (·.1)) else decide (x ∈ Q.map (·.1)))) := by
  unfold inO
  simp only [Option.bind_some, okKey_run ht, if_true, getK_none hi]
  by_cases h : x ∈ Q.map (·.1) <;> cases neg <;> simp [h]
theorem subKO_run (hi : ∀ s t, nk (en s) = nk (en t) → s = t) (ht : ∀ s, tupK (en s) = true) {Q : List (Run σ)} (hn : (Q.map (·.1)).Nodup) {x : Run σ} (hx : x ∈ Q) : subKO (some (rowsR en va Q)) (en x.1) = some (va x.2) := by
  unfold subKO
  simp only [Option.bind_some, okKey_run ht, if_true, getK_run hi Q hn x hx]
theorem setKO_run (hi : ∀ s t, nk (en s) = nk (en t) → s = t) (ht : ∀ s, tupK (en s) = true) {Q : List (Run σ)} (hl : Q.length < PySem.sizeLine) (x : σ) (w : List Bool) :
    setKO (some (rowsR en va Q)) (en x) (va w) = some (rowsR en va (putRn Q (x, w))) := by
  have hl2 : (rowsR en va Q).length < sizeLine := by unfold rowsR; rw [List.length_map]; exact hl
  unfold setKO
  simp only [Option.bind_some, okKey_run ht, hl2, and_self, if_true]
  congr 1
  unfold putKD putRn
  rw [getK_none hi]
  by_cases h : x ∈ Q.map (·.1)
  · simp only [h, decide_true, if_true]
    unfold rowsR
    rw [List.map_map, List.map_map]
    refine List.map_congr_left fun z _ => ?_
    show (if nk (en z.1) = nk (en x) then (en z.1, va w) else (en z.1, va z.2)) = (en (if z.1 = x then (z.1, w) else z).1, va (if z.1 = x then (z.1, w) else z).2)
    by_cases e : z.1 = x
    · rw [if_pos (by rw [e]), if_pos e]
    · rw [if_neg (fun q => e (hi _ _ q)), if_neg e]
  · simp only [h, decide_false, Bool.false_eq_true, if_false]
    unfold rowsR
    rw [List.map_append]
    rfl
theorem push_put (Q : List (Run σ)) (e : Run σ) {i : Decidable (¬ e.1 ∈ Q.map (·.1))} : @ite _ (¬ e.1 ∈ Q.map (·.1)) i (putRn Q e) Q = pushR Q e := by
  unfold putRn pushR
  by_cases h : e.1 ∈ Q.map (·.1)
  · rw [if_neg (fun q => q h), if_pos h]
  · rw [if_pos h, if_neg h, if_neg h]
theorem m_rows {c : Prop} [Decidable c] {a b : List (Run σ)} : (if c then rowsR en va a else rowsR en va b) = rowsR en va (if c then a else b) := by split <;> rfl
/-- the states in waiting -/
def waitR (en : σ → D) (Q : List (Run σ)) : List D := Q.map fun z => en z.1
theorem wait_push (Q : List (Run σ)) (e : Run σ) {i : Decidable (¬ e.1 ∈ Q.map (·.1))} : @ite _ (¬ e.1 ∈ Q.map (·.1)) i (waitR en Q ++ [en e.1]) (waitR en Q) = waitR en (pushR Q e) := by
  unfold pushR waitR
  by_cases h : e.1 ∈ Q.map (·.1)
  · rw [if_neg (fun q => q h), if_pos h]
  · rw [if_pos h, if_neg h, List.map_append]; rfl
theorem waitR_len (Q : List (Run σ)) : (waitR en Q).length = Q.length := by unfold waitR; rw [List.length_map]
theorem waitR_at {Q : List (Run σ)} {i : Nat} {x : Run σ} (h : Q[i]? = some x) : atI (waitR en Q) (i : Nat) = some (en x.1) := atI_nat (by unfold waitR; rw [List.getElem?_map, h]; rfl)
theorem push_len (Q : List (Run σ)) (e : Run σ) : (pushR Q e).length ≤ Q.length + 1 := by
  unfold pushR
  split
  · omega
  · rw [List.length_append]; exact Nat.le_refl _
theorem pushes_len : ∀ (es Q : List (Run σ)), (es.foldl pushR Q).length ≤ Q.length + es.length
  | [], Q => Nat.le_refl _
  | e :: es, Q => by
    have h1 := pushes_len es (pushR Q e)
    have h2 := push_len Q e
    rw [List.foldl_cons, List.length_cons]
    omega
/-- words are no longer than where they stand -/
def Short (Q : List (Run σ)) : Prop := ∀ (i : Nat) (x : Run σ), Q[i]? = some x → x.2.length ≤ i
theorem Short.push {Q : List (Run σ)} (h : Short Q) {e : Run σ} (he : e.2.length ≤ Q.length) : Short (pushR Q e) := fun i x hx => by
  unfold pushR at hx
  split at hx
  · exact h i x hx
  · rw [List.getElem?_append] at hx
    split at hx
    · exact h i x hx
    · rename_i hl
      have hi : i - Q.length = 0 := by
        by_cases e2 : i - Q.length = 0
        · exact e2
        · rw [List.getElem?_eq_none (by rw [List.length_singleton]; omega)] at hx; cases hx
      rw [hi] at hx
      cases hx
      omega
theorem Short.pushes : ∀ (es : List (Run σ)) {Q : List (Run σ)} {n : Nat}, Short Q → n ≤ Q.length → (∀ e ∈ es, e.2.length ≤ n) → Short (es.foldl pushR Q)
  | [], _, _, h, _, _ => h
  | e :: es, Q, n, h, hn, he => by
    obtain ⟨t, ht⟩ := push_prefix Q e
    exact Short.pushes es (h.push (Nat.le_trans (he e List.mem_cons_self) hn)) (by rw [ht, List.length_append]; omega) fun x hx => he x (List.mem_cons_of_mem _ hx)
variable {succ : σ → List (Bool × σ)} {s0 : σ} {acc : σ → Bool}
/-- a while that follows a queue, marked at the push -/
theorem bfsW {p : M Bool} {g : MS} (env : List (Run σ) → Nat → DE → Prop) (N : Nat) (hN : ∀ Q : List (Run σ), (Q.map (·.1)).Nodup → (∀ x ∈ Q, Rn succ s0 x.1 x.2) → Q.length ≤ N)
    (hp : ∀ Q i ρ, env Q i ρ → i ≤ Q.length → p ρ = .ok (decide ((i : Int) < (Q.length : Int))) ρ)
    (hg : ∀ Q (i : Nat) x ρ, Q[i]? = some x → (Q.map (·.1)).Nodup → (∀ x ∈ Q, Rn succ s0 x.1 x.2) → x.2.length ≤ N → Q.length ≤ N → env Q i ρ →
      if acc x.1 = true then ∃ ρ', g ρ = .rt (va x.2) ρ' else ∃ ρ', g ρ = .nx ρ' ∧ env ((extR succ x).foldl pushR Q) (i + 1) ρ') {ρ : DE} (h0 : env [(s0, [])] 0 ρ) :
    ∃ res, Bfs succ s0 acc res ∧ ((res = none ∧ ∃ ρ' Q i, S.while_ p g ρ = .nx ρ' ∧ env Q i ρ') ∨ ∃ w ρ', res = some w ∧ S.while_ p g ρ = .rt (va w) ρ') := by
  refine (while_wp (p := p) (g := g) (fun n ρ => ∃ Q i k, env Q i ρ ∧ InvQ succ s0 acc Q i k ∧ Short Q ∧ n = N - i)
    (fun fl => ∃ res, Bfs succ s0 acc res ∧ ((res = none ∧ ∃ ρ' Q i, fl = .nx ρ' ∧ env Q i ρ') ∨ ∃ w ρ', res = some w ∧ fl = .rt (va w) ρ')) _ ρ ⟨_, _, _, h0, InvQ.start, ?_, rfl⟩ fun n ρ ⟨Q, i, k, h1, h2, h3, h4⟩ => ?_).1
  · intro i x hx
    cases i with
    | zero => cases hx; exact Nat.le_refl _
    | succ i => simp at hx
  · have hp' := hp Q i ρ h1 h2.le
    have hnd := h2.nodup
    have hrn := h2.rn
    have hQ := hN Q hnd hrn
    by_cases hi : i < Q.length
    · obtain ⟨x, hx⟩ : ∃ x, Q[i]? = some x := ⟨_, List.getElem?_eq_getElem hi⟩
      have hw := h3 i x hx
      have ht := hg Q i x ρ hx hnd hrn (by omega) hQ h1
      rw [decide_eq_true (by omega : (i : Int) < (Q.length : Int))] at hp'
      by_cases ha : acc x.1 = true
      · rw [if_pos ha] at ht
        obtain ⟨ρ', hr⟩ := ht
        exact .inr (.inl ⟨ρ, _, ρ', hp', hr, some x.2, h2.found hx ha, .inr ⟨x.2, ρ', rfl, rfl⟩⟩)
      · rw [if_neg ha] at ht
        obtain ⟨ρ', hr, he⟩ := ht
        obtain ⟨m, hm⟩ := h2.next hx (by cases h : acc x.1 <;> first | rfl | exact absurd h ha)
        refine .inr (.inr ⟨ρ, ρ', _, hp', .inl hr, ?_, _, _, m, he, hm, ?_, rfl⟩)
        · omega
        · refine Short.pushes _ h3 (n := i + 1) hi fun e he => ?_
          unfold extR at he
          obtain ⟨q, _, rfl⟩ := List.mem_map.mp he
          rw [List.length_append, List.length_singleton]
          omega
    · have e : i = Q.length := Nat.le_antisymm h2.le (by omega)
      rw [decide_eq_false (by omega)] at hp'
      refine .inl ⟨ρ, hp', none, ?_, .inl ⟨rfl, ρ, Q, i, rfl, h1⟩⟩
      rw [e] at h2
      exact h2.over
end
end PD

set_option maxRecDepth 100000
set_option maxHeartbeats 4000000
set_option autoImplicit false
namespace L2
open PySem PySem.Spec PyProof.Rows
/-! ### sets of ints and of texts: made of a list or a tuple, sorted -/
def keyM (e : Int × Value) : Key := match e.2 with
  | .int k _ => .inl k
  | .str x _ => .inr x
  | _ => .inl 0
def GoodM (w : World) (e : Int × Value) : Prop := (∃ k : Key, keyIs k e.2 = true ∧ e.1 = keyH w k) ∧ e.2.scannable = true
def SetM (w : World) (h : Heap) (a : Addr) (S : Key → Bool) (n : Nat) : Prop :=
  ∃ o es ep t, (h.get? a = some o ∧ o.ExactSet ∧ o.data = .set es ep t) ∧ ((∀ e ∈ es.toList, GoodM w e) ∧ (es.toList.map keyM).Nodup ∧ ∀ k, S k = true ↔ k ∈ es.toList.map keyM) ∧
    (es.size < scanBound ∧ t.fits es.size = true ∧ es.size = n) ∧ Ris t.place.toList ∧ (w.params.followText "set-order" = true ∨ t.led = true)
def memK (ks : List Key) (j : Key) : Bool := ks.any fun k => decide (k = j)
theorem memK_iff {ks : List Key} {j : Key} : memK ks j = true ↔ j ∈ ks := by
  unfold memK
  rw [List.any_eq_true]
  exact ⟨fun ⟨k, hk, e⟩ => by rw [← of_decide_eq_true e]; exact hk, fun h => ⟨j, h, decide_eq_true rfl⟩⟩
theorem memK_snoc (ks : List Key) (k j : Key) : memK (ks ++ [k]) j = (memK ks j || decide (j = k)) := by
  unfold memK
  rw [List.any_append]
  congr 1
  show (decide (k = j) || false) = _
  rw [Bool.or_false]
  exact decide_eq_decide.mpr eq_comm
theorem keyM_of {e : Int × Value} {k : Key} (h : keyIs k e.2 = true) : keyM e = k := by
  obtain ⟨u, v⟩ := e
  rcases keyIs_shape h with ⟨i, t, h1, h2⟩ | ⟨x, t, h1, h2⟩
  · have h2 : v = .int i t := h2
    subst h1 h2
    rfl
  · have h2 : v = .str x t := h2
    subst h1 h2
    rfl
theorem keyM_iff {w : World} {e : Int × Value} (g : GoodM w e) (k : Key) : keyIs k e.2 = true ↔ keyM e = k := by
  obtain ⟨⟨k0, h1, _⟩, _⟩ := g
  have h0 := keyM_of h1
  exact ⟨fun h => keyM_of h, fun h => by rw [← h, h0]; exact h1⟩
section
variable {P : Program} {w : World} {h h' : Heap} {a : Addr} {S : Key → Bool} {n : Nat}
theorem SetM.at (R : SetM w h a S n) (k : ∀ o, h.get? a = some o → h'.get? a = some o) : SetM w h' a S n :=
  let ⟨o, es, ep, t, ⟨ho, hx⟩, r⟩ := R
  ⟨o, es, ep, t, ⟨k o ho, hx⟩, r⟩
theorem SetM.same {S' : Key → Bool} (R : SetM w h a S n) (e : ∀ k, S' k = S k) : SetM w h a S' n := (funext e : S' = S) ▸ R
theorem goodM_elems {l : List (Int × Value)} (g : ∀ e ∈ l, GoodM w e) : ElemsOf (mixKind P w) l := fun e he => g e he
theorem goodM_mem {l : List (Int × Value)} (g : ∀ e ∈ l, GoodM w e) (k : Key) : k ∈ l.map keyM ↔ ∃ e ∈ l, keyIs k e.2 = true :=
  List.mem_map.trans ⟨fun ⟨e, he, q⟩ => ⟨e, he, (keyM_iff (g e he) k).mpr q⟩, fun ⟨e, he, q⟩ => ⟨e, he, (keyM_iff (g e he) k).mp q⟩⟩
theorem SetM.setOf (R : SetM w h a S n) : h.SetOf (mixKind P w) a S n := by
  obtain ⟨o, es, ep, t, ⟨ho, hx, hd⟩, ⟨g, nd, hm⟩, ⟨hb, hf, hn⟩, _⟩ := R
  exact ⟨o, es, ep, t, ho, hx, hd, goodM_elems g, fun k => (hm k).trans (goodM_mem g k), hb, hf, hn⟩
end
section
variable {P : Program} {w : World} {A : Around} {E : Value → Shared → Prop} {s : Shared} {a : Addr} {S : Key → Bool} {n : Nat}
theorem addM_tail {g : Bool → Sem Unit} (hg : ∀ (b : Bool) (s₁ : Shared) (Q' : Unit → Shared → Prop), Q' () s₁ → wpAny (model P w) A (g b) Q' E s₁) {ob : Obj} {xs : Array (Int × Value)} {ep : Nat} {tb : SetTable}
    (ho : s.heap.get? a = some ob) (hex : ob.ExactSet) (hd : ob.data = .set xs ep tb) {ys : Array (Int × Value)} {tc : SetTable} {S' : Key → Bool} (gg : ∀ e ∈ ys.toList, GoodM w e) (nn : (ys.toList.map keyM).Nodup)
    (mm : ∀ k, S' k = true ↔ k ∈ ys.toList.map keyM) (hb1 : ys.size < scanBound) (hf2 : tc.fits ys.size = true) (hr : Ris tc.place.toList) (hl : w.params.followText "set-order" = true ∨ tc.led = true) {dm : Bool} {R : Option Bool → Shared → Prop}
    (hR : ∀ h', Heap.SameBut a s.heap h' → SetM w h' a S' ys.size → R (some true) { s with heap := h' }) :
    wpAny (model P w) A (do
        storeSet a ys tc
        if (!dm && tc.tooFull) = true then do
            g (relayAll tc ys (SetTable.grown ys.size)).2.2
            storeSet a (relayAll tc ys (SetTable.grown ys.size)).1 (relayAll tc ys (SetTable.grown ys.size)).2.1
            pure (some true)
          else pure (some true)) R E s := by
  have z1 := store_at (es' := ys) (t' := tc) ho hd
  have z2 := Heap.SameBut.update s.heap a (Obj.putSet ys tc)
  refine wpAny_bind (wpAny_storeSet_of ho hd ?_ (fits_of_scanBound hb1))
  by_cases hc : (!dm && tc.tooFull) = true
  · rw [if_pos hc]
    have p1 := relayAll_perm tc ys (SetTable.grown ys.size)
    have p2 := relayAll_fits tc ys (SetTable.grown ys.size)
    have p3 := relayAll_ris tc ys (SetTable.grown ys.size)
    have p4 := relayAll_led tc ys (SetTable.grown ys.size)
    generalize relayAll tc ys (SetTable.grown ys.size) = Z at p1 p2 p3 p4 ⊢
    obtain ⟨zs, td, ge⟩ := Z
    dsimp only at p1 p2 p3 p4 ⊢
    have sz : zs.size = ys.size := by
      have := p1.length_eq
      rwa [Array.length_toList, Array.length_toList] at this
    have hb2 : zs.size < scanBound := by rw [sz]; exact hb1
    refine wpAny_bind (hg _ _ _ (wpAny_bind (wpAny_storeSet_of z1 rfl ?_ (fits_of_scanBound hb2))))
    refine wpAny_pure (hR _ (z2.trans (Heap.SameBut.update _ a _)) ⟨_, zs, _, td, ⟨store_at (es' := zs) (t' := td) z1 rfl, hex, rfl⟩, ⟨fun e he => gg e (p1.mem_iff.mp he), ?_, ?_⟩, ⟨hb2, p2, sz⟩, p3, hl.imp id fun z => by rw [p4]; exact z⟩)
    · exact (p1.map keyM).nodup_iff.mpr nn
    · exact fun k => (mm k).trans (p1.map keyM).mem_iff.symm
  · rw [if_neg hc]
    exact wpAny_pure (hR _ z2 ⟨_, ys, _, tc, ⟨z1, hex, rfl⟩, ⟨gg, nn, mm⟩, ⟨hb1, hf2, rfl⟩, hr, hl⟩)
theorem addM_hashed {k : Key} {x : Value} {Q : Bool → Shared → Prop} (hkey : keyIs k x = true) (hsc : x.scannable = true) (R : SetM w s.heap a S n) (room : n + 1 < scanBound)
    (hQ : ∀ h', Heap.SameBut a s.heap h' → SetM w h' a (fun j => S j || decide (j = k)) (if S k = true then n else n + 1) → Q (!S k) { s with heap := h' }) : wpAny (model P w) A (setAddHashed a x (keyH w k)) Q E s := by
  obtain ⟨ob, xs, ep, tb, ⟨ho, hex, hd⟩, ⟨g, nd, hm⟩, ⟨hb, hf, hn⟩, hr, hl⟩ := R
  have hel : ElemsOf (mixKind P w) xs.toList := goodM_elems g
  have hk2 : (mixKind P w).is k x = true := hkey
  unfold setAddHashed setAddHashedIn
  refine wpAny_holding (wpAny_bind (wpAny_setState_of ho hd hf ?_))
  dsimp only
  rw [byScan_of hsc hb hel]
  simp only [↓reduceIte]
  unfold setAddByScan
  refine wpAny_bind (wpAny_bind (wpAny_rule (wpAny_bind (wpAny_setScan_of hk2 ho hd hf hel ?_))))
  cases hfi : List.findIdx? (fun e => (mixKind P w).is k e.2) xs.toList with
  | some j =>
    dsimp only
    obtain ⟨hj, pj, _⟩ := List.findIdx?_eq_some_iff_getElem.mp hfi
    have hS : S k = true := (hm k).mpr ((goodM_mem g k).mpr ⟨xs.toList[j], List.getElem_mem hj, pj⟩)
    have q := hQ s.heap (Heap.SameBut.refl a s.heap) ⟨ob, xs, ep, tb, ⟨ho, hex, hd⟩, ⟨g, nd, fun i => ?_⟩, ⟨hb, hf, by rw [if_pos hS]; exact hn⟩, hr, hl⟩
    · rw [hS] at q
      exact wpAny_pure (wpAny_pure q)
    · rw [Bool.or_eq_true, decide_eq_true_eq, ← hm i]
      exact ⟨fun z => z.elim id fun e => by rw [e]; exact hS, .inl⟩
  | none =>
    dsimp only
    have hno : k ∉ xs.toList.map keyM := fun z => by
      obtain ⟨e, he, q⟩ := (goodM_mem g k).mp z
      have c := List.findIdx?_eq_none_iff.mp hfi e he
      have q : (mixKind P w).is k e.2 = true := q
      rw [q] at c
      cases c
    have hS : S k = false := by
      cases q : S k with
      | false => rfl
      | true => exact absurd ((hm k).mp q) hno
    have giving : ∀ (b : Bool) {s₁ : Shared} {Q' : Unit → Shared → Prop}, Q' () s₁ → wpAny (model P w) A (match b with | true => rule "set.scan.the-table-gave-way" | false => pure ()) Q' E s₁ := fun b s₁ Q' q => by
      cases b
      · exact wpAny_pure q
      · exact wpAny_rule q
    have p1 := layNew_perm tb xs (keyH w k) x
    have p2 := layNew_fits tb xs (keyH w k) x
    have p3 := layNew_ris tb xs (keyH w k) x hr
    have p4 := layNew_led tb xs (keyH w k) x
    have eh : (mixKind P w).hash k = keyH w k := rfl
    generalize layNew tb xs (keyH w k) x = Z at p1 p2 p3 p4 ⊢
    obtain ⟨ys, tc, dm, gave⟩ := Z
    dsimp only at p1 p2 p3 p4 ⊢
    rw [Array.toList_push] at p1
    have pc : ys.toList.Perm ((keyH w k, x) :: xs.toList) := p1.trans (List.perm_append_singleton _ _)
    have ek : keyM (keyH w k, x) = k := keyM_of hkey
    have pk : (ys.toList.map keyM).Perm (k :: xs.toList.map keyM) := by
      have := pc.map keyM
      rwa [List.map_cons, ek] at this
    have gg : ∀ e ∈ ys.toList, GoodM w e := fun e he => by
      rcases List.mem_cons.mp (pc.mem_iff.mp he) with z | z
      · rw [z]; exact ⟨⟨k, hkey, rfl⟩, hsc⟩
      · exact g e z
    have nn : (ys.toList.map keyM).Nodup := pk.nodup_iff.mpr (List.nodup_cons.mpr ⟨hno, nd⟩)
    have mm : ∀ i, (S i || decide (i = k)) = true ↔ i ∈ ys.toList.map keyM := fun i => by
      rw [Bool.or_eq_true, decide_eq_true_eq, hm i, pk.mem_iff, List.mem_cons]
      exact Or.comm
    have hsz : ys.size = n + 1 := by
      have := pc.length_eq
      rw [List.length_cons, Array.length_toList, Array.length_toList, hn] at this
      exact this
    have hb1 : ys.size < scanBound := by rw [hsz]; exact room
    have hled : w.params.followText "set-order" = true ∨ tc.led = true := hl.imp id fun z => by rw [p4]; exact z
    have fin : ∀ h', Heap.SameBut a s.heap h' → SetM w h' a (fun j => S j || decide (j = k)) ys.size → Q true { s with heap := h' } := fun h' sb r => by
      have q := hQ h' sb
      rw [hS] at q
      rw [hsz] at r
      exact q r
    refine wpAny_bind (giving _ ?_)
    split
    · refine wpAny_bind ?_
      rw [hashByValue_scannable 8 hsc]
      refine wpAny_pure ?_
      refine addM_tail (fun b s₁ Q' q => giving b q) ho hex hd gg nn mm hb1 ?_ ?_ ?_ fun h' sb r => ?_
      · first | (split <;> first | exact p2 | exact SetTable.fits_plain_off p2) | exact p2
      · first | (split <;> exact p3) | exact p3
      · first | (split <;> exact hled) | exact hled
      · dsimp only; exact wpAny_pure (fin h' sb r)
    · refine wpAny_bind (wpAny_pure ?_)
      simp only [↓reduceIte]
      refine addM_tail (fun b s₁ Q' q => giving b q) ho hex hd gg nn mm hb1 p2 p3 hled fun h' sb r => ?_
      dsimp only; exact wpAny_pure (fin h' sb r)
def emptyM (w : World) : Obj := { cls := .type "set", dict := none, data := .set #[] 0 (.fresh 0 0 (!w.params.followText "set-order")) }
theorem freshM {h : Heap} {ks : List Key} (ho : h.get? a = some (emptyM w)) : SetM w h a (fun j => memK (ks.take 0) j) 0 :=
  ⟨_, #[], 0, _, ⟨ho, ⟨rfl, rfl, rfl⟩, rfl⟩, ⟨fun e he => by simp at he, by simp, fun k => by simp [memK]⟩, ⟨by decide, by rfl, rfl⟩, List.Pairwise.nil, by
    cases w.params.followText "set-order"
    · exact .inr rfl
    · exact .inl rfl⟩
theorem updM {I : Addr} {fp wr : List Addr} {G : Array GenState → Array GenState → Prop} {N : Nat} {Pv : Nat → Value → Prop} {St : Nat → Shared → Prop} {R : Result → Shared → Prop} (W : WalksS P w A.in1 I fp wr G N Pv St) (B : Addr) (hBf : B ∉ fp)
    (ks : List Key) (hN : N = ks.length) (hb : ks.length + 1 < scanBound) (hval : ∀ i v, Pv i v → ∃ k, ks[i]? = some k ∧ keyIs k v = true ∧ v.scannable = true) :
    ∀ (m i : Nat) (s : Shared), N - i = m → i ≤ N → St i s → (∃ c, c ≤ i ∧ SetM w s.heap B (fun j => memK (ks.take i) j) c) →
      (∀ s' c, Moved (B :: wr) G s s' → c ≤ N → SetM w s'.heap B (fun j => memK ks j) c → R (.ok (.ret .none)) s') → codeAny (model P w) A (.builtin "set.update.loop" ⟨[.ref B, .ref I], []⟩) R s := by
  have hBw : B ∉ wr := fun h => hBf (W.sub _ h)
  have up : ∀ b ∈ wr, b ∈ B :: wr := fun b hb => List.mem_cons_of_mem _ hb
  intro m
  induction m with
  | zero =>
    intro i s hm hi hst ⟨c, hc, hS⟩ hR
    have hin : i = N := by omega
    subst hin
    refine codeAny_builtin F.entry_set_update_loop ?_
    rw [Around.under_plainId F.plain_set_update_loop _]
    show wpAny _ A.in1 (pyNext (.ref I) >>= _) _ _ s
    refine wpAny_bind (W.done s _ _ hst fun s' hm => ?_)
    rw [List.take_of_length_le (by omega)] at hS
    exact wpAny_pure (hR s' c (hm.mono up) hc (hS.at fun o e => hm.heap B o hBw e))
  | succ m ih =>
    intro i s hm hi hst ⟨c, hc, hS⟩ hR
    have hlt : i < N := by omega
    refine codeAny_builtin F.entry_set_update_loop ?_
    rw [Around.under_plainId F.plain_set_update_loop _]
    show wpAny _ A.in1 (pyNext (.ref I) >>= _) _ _ s
    refine wpAny_bind (W.item i s _ _ hlt hst fun v s' hP hst' hmv => ?_)
    obtain ⟨k, hk, hv, hsc⟩ := hval i v hP
    have h1 : SetM w s'.heap B (fun j => memK (ks.take i) j) c := hS.at fun o e => hmv.heap B o hBw e
    show wpAny _ A.in1 (holding [v] (setAdd B v) >>= _) _ _ s'
    refine wpAny_bind (wpAny_holding ?_)
    unfold setAdd
    refine wpAny_holding (wpAny_bind ((mixKind P w).pyHash (k := k) hv ?_))
    refine addM_hashed (s := { s' with toks := s'.toks + 1 }) hv hsc h1 (by omega) fun h' sb h2 => ?_
    have h3 : SetM w h' B (fun j => memK (ks.take (i + 1)) j) (if memK (ks.take i) k = true then c else c + 1) := h2.same fun j => by
      rw [List.take_add_one, hk]
      exact memK_snoc _ _ _
    have h4 : (if memK (ks.take i) k = true then c else c + 1) ≤ i + 1 := by split <;> omega
    refine wpAny_pure ⟨plainId_quiet F.plain_set_update_loop _, ih (i + 1) _ (by omega) hlt (W.frame _ s' _ _ hst' (Nat.le_succ _) fun b hb o e => ?_) ⟨_, h4, h3⟩ fun s2 c2 m2 l2 r2 => ?_⟩
    · rw [sb.2 b (fun h : b = B => hBf (by rw [← h]; exact hb))]; exact e
    · refine hR s2 c2 (Moved.trans W.gtrans ((hmv.mono up).then_heap (Nat.le_succ _) fun b o hb e => ?_) m2) l2 r2
      rw [sb.2 b (fun h : b = B => hb (by rw [h]; exact List.mem_cons_self))]; exact e

theorem setM_list {l : Addr} {items : Array Value} (ks : List Key) {Q : Value → Shared → Prop} (hh : A.handled = none) (hl : s.heap.IsList l items) (hN : items.size = ks.length) (hval : ∀ (i : Nat) (v : Value), items[i]? = some v → ∃ k, ks[i]? = some k ∧ keyIs k v = true ∧ v.scannable = true) (hb : ks.length + 1 < scanBound)
    (h : ∀ (h' : Heap) (tk c : Nat), SetM w h' s.heap.objs.size (memK ks) c → c ≤ ks.length → (∀ b o, s.heap.get? b = some o → h'.get? b = some o) → Q (.ref s.heap.objs.size) { s with heap := h', toks := tk }) :
    wpAny (model P w) A (call (.type "set") [.ref l]) Q E s := by
  obtain ⟨c, tl, hmro⟩ := F.called_set.mro
  have hmade := F.called_set.made
  have hsub := F.called_set.sub
  refine wpAny_call (codeAny_of_tree ?_)
  show wpAny _ _ (callAny (.type "set") _) _ _ _
  refine wpAny_pure ⟨Code.quiet_builtin _ (by decide +kernel), codeAny_builtin F.entry_type_call ?_⟩
  rw [Around.under_plain (weight_type_call_type "set" [.ref l] []) rfl]
  have h1 := F.called_set.notType
  have h2 := F.called_set.canCreate
  have hct := F.typeCall_set_1 (.ref l)
  repeat (any_goals (first | assumption | wp_step))
  refine codeAny_mono (code_set_led1 (.ref l) (E := E) (Q₁ := fun obj s₁ => obj = .ref s.heap.objs.size ∧ s₁ = { s with heap := s.heap.push (emptyM w) }) ⟨rfl, rfl⟩) fun r s₁ hr => ?_
  cases r with
  | error e => exact hr
  | ok fl =>
    cases fl <;> first | exact hr.elim | skip
    obtain ⟨rfl, rfl⟩ := hr
    have hS : (s.heap.push (emptyM w)).get? s.heap.objs.size = some (emptyM w) := Heap.get?_push_size _ rfl
    have hT : Shared.TypeIs { s with heap := s.heap.push (emptyM w) } (.ref s.heap.objs.size) "set" := ⟨_, hS, rfl⟩
    have hli := F.called_set.init.lookup
    have hbi := F.called_set.init.bind (.ref s.heap.objs.size)
    repeat (any_goals (first | assumption | wp_step))
    refine codeAny_mono (codeAny_call_builtin (R := wants (fun r s₂ => r = .none ∧ ∃ h' tk c, s₂ = { s with heap := h', toks := tk } ∧ SetM w h' s.heap.objs.size (memK ks) c ∧ c ≤ ks.length ∧
        (∀ b o, s.heap.get? b = some o → h'.get? b = some o)) E) F.called_set.init.plain F.entry_set_init (check_set_init_1 hT ?_)) fun r₂ s₂ hr₂ => ?_
    · obtain ⟨ol, hol, hcl, nl, hdl⟩ := hl
      obtain ⟨ocls, odict, odata, oslots⟩ := ol
      simp only at hcl hdl
      subst hcl; subst hdl
      have hol' : (s.heap.push (emptyM w)).get? l = some { cls := .type "list", dict := odict, data := .seq items nl, slots := oslots } := Heap.get?_push_of_some _ hol
      have hsls := F.sub_list_set
      have hslf := F.sub_list_frozenset
      have hne : (Value.type "list" == Value.type "dict") = false := by decide
      have hl1 : (s.heap.push (emptyM w)).IsList l items := ⟨_, hol', rfl, nl, rfl⟩
      have hlS : l < s.heap.objs.size := Heap.lt_size hol
      have hz1 : (s.heap.push (emptyM w)).objs.size = s.heap.objs.size + 1 := Heap.size_push ..
      unfold Builtin.«set.__init__» noKeywords Builtin.Frozenset.updateFrom
      generalize hPI : pyIter = PI
      wp_walk
      subst hPI
      refine wpAny_pyIter_list hl1 (wpAny_bind (wpAny_runValue ?_))
      have hh3 : A.in1.in1.in1.handled = none := by simp [hh]
      have hneI : l ≠ (s.heap.push (emptyM w)).objs.size := by rw [hz1]; exact Nat.ne_of_lt (Nat.lt_succ_of_lt hlS)
      have hSf : s.heap.objs.size ∉ [(s.heap.push (emptyM w)).objs.size, l] := by
        rw [hz1]
        intro hm
        rcases List.mem_cons.mp hm with z | z
        · exact absurd z (Nat.ne_of_lt (Nat.lt_succ_self _))
        · rw [List.mem_singleton.mp z] at hlS; exact Nat.lt_irrefl _ hlS
      refine updM ((Walks.list hh3 _ l hneI items).toS) s.heap.objs.size hSf ks hN hb hval (items.size - 0) 0 _ (by omega) (Nat.zero_le _) ⟨⟨_, Heap.get?_push_size _ rfl, rfl, rfl⟩, (hl1.push _)⟩ ?hS0 ?hR
      case hS0 => exact ⟨0, Nat.le_refl 0, freshM (Heap.get?_push_of_some _ hS)⟩
      case hR =>
        intro s' c' hm hc' hS'
        obtain ⟨h', g2, d', tk', os'⟩ := s'
        have eg : g2 = s.gens := hm.gens
        have ed : d' = s.drawn := hm.drawn
        have eo : os' = s.os := hm.os
        subst eg; subst ed; subst eo
        show wpAny _ _ _ _ _ _
        refine wpAny_pure ?_
        show wpAny _ _ (ret Value.none) _ _ _
        rw [hN] at hc'
        refine wpAny_pure ⟨rfl, h', tk', c', rfl, hS', hc', fun b o e => ?_⟩
        have hb0 : b < s.heap.objs.size := Heap.lt_size e
        refine hm.heap b o (fun hm2 => ?_) (Heap.get?_push_of_some _ (Heap.get?_push_of_some _ e))
        rcases List.mem_cons.mp hm2 with z | z
        · exact absurd z (Nat.ne_of_lt hb0)
        · have z := List.mem_singleton.mp z
          rw [hz1] at z
          exact absurd z (Nat.ne_of_lt (Nat.lt_succ_of_lt hb0))
    · cases r₂ with
      | error e => exact hr₂
      | ok fl₂ =>
        cases fl₂ <;> first | exact hr₂.elim | skip
        obtain ⟨rfl, h', tk, c', rfl, hS', hc', hk'⟩ := hr₂
        repeat (any_goals (first | assumption | wp_step))
        exact h _ _ _ hS' hc' hk'

theorem setM_tuple {l : Addr} {items : Array Value} (ks : List Key) {Q : Value → Shared → Prop} (hh : A.handled = none) (hl : s.heap.IsTuple l items) (hN : items.size = ks.length) (hval : ∀ (i : Nat) (v : Value), items[i]? = some v → ∃ k, ks[i]? = some k ∧ keyIs k v = true ∧ v.scannable = true) (hb : ks.length + 1 < scanBound)
    (h : ∀ (h' : Heap) (tk c : Nat), SetM w h' s.heap.objs.size (memK ks) c → c ≤ ks.length → (∀ b o, s.heap.get? b = some o → h'.get? b = some o) → Q (.ref s.heap.objs.size) { s with heap := h', toks := tk }) :
    wpAny (model P w) A (call (.type "set") [.ref l]) Q E s := by
  obtain ⟨c, tl, hmro⟩ := F.called_set.mro
  have hmade := F.called_set.made
  have hsub := F.called_set.sub
  refine wpAny_call (codeAny_of_tree ?_)
  show wpAny _ _ (callAny (.type "set") _) _ _ _
  refine wpAny_pure ⟨Code.quiet_builtin _ (by decide +kernel), codeAny_builtin F.entry_type_call ?_⟩
  rw [Around.under_plain (weight_type_call_type "set" [.ref l] []) rfl]
  have h1 := F.called_set.notType
  have h2 := F.called_set.canCreate
  have hct := F.typeCall_set_1 (.ref l)
  repeat (any_goals (first | assumption | wp_step))
  refine codeAny_mono (code_set_led1 (.ref l) (E := E) (Q₁ := fun obj s₁ => obj = .ref s.heap.objs.size ∧ s₁ = { s with heap := s.heap.push (emptyM w) }) ⟨rfl, rfl⟩) fun r s₁ hr => ?_
  cases r with
  | error e => exact hr
  | ok fl =>
    cases fl <;> first | exact hr.elim | skip
    obtain ⟨rfl, rfl⟩ := hr
    have hS : (s.heap.push (emptyM w)).get? s.heap.objs.size = some (emptyM w) := Heap.get?_push_size _ rfl
    have hT : Shared.TypeIs { s with heap := s.heap.push (emptyM w) } (.ref s.heap.objs.size) "set" := ⟨_, hS, rfl⟩
    have hli := F.called_set.init.lookup
    have hbi := F.called_set.init.bind (.ref s.heap.objs.size)
    repeat (any_goals (first | assumption | wp_step))
    refine codeAny_mono (codeAny_call_builtin (R := wants (fun r s₂ => r = .none ∧ ∃ h' tk c, s₂ = { s with heap := h', toks := tk } ∧ SetM w h' s.heap.objs.size (memK ks) c ∧ c ≤ ks.length ∧
        (∀ b o, s.heap.get? b = some o → h'.get? b = some o)) E) F.called_set.init.plain F.entry_set_init (check_set_init_1 hT ?_)) fun r₂ s₂ hr₂ => ?_
    · obtain ⟨ol, hol, hcl, nl, hdl⟩ := hl
      obtain ⟨ocls, odict, odata, oslots⟩ := ol
      simp only at hcl hdl
      subst hcl; subst hdl
      have hol' : (s.heap.push (emptyM w)).get? l = some { cls := .type "tuple", dict := odict, data := .seq items nl, slots := oslots } := Heap.get?_push_of_some _ hol
      have hsls := F.sub_tuple_set
      have hslf := F.sub_tuple_frozenset
      have hne : (Value.type "tuple" == Value.type "dict") = false := by decide
      have hl1 : (s.heap.push (emptyM w)).IsTuple l items := ⟨_, hol', rfl, nl, rfl⟩
      have hlS : l < s.heap.objs.size := Heap.lt_size hol
      have hz1 : (s.heap.push (emptyM w)).objs.size = s.heap.objs.size + 1 := Heap.size_push ..
      unfold Builtin.«set.__init__» noKeywords Builtin.Frozenset.updateFrom
      generalize hPI : pyIter = PI
      wp_walk
      subst hPI
      refine wpAny_pyIter_tuple hl1 (wpAny_bind (wpAny_runValue ?_))
      have hh3 : A.in1.in1.in1.handled = none := by simp [hh]
      have hneI : l ≠ (s.heap.push (emptyM w)).objs.size := by rw [hz1]; exact Nat.ne_of_lt (Nat.lt_succ_of_lt hlS)
      have hSf : s.heap.objs.size ∉ [(s.heap.push (emptyM w)).objs.size, l] := by
        rw [hz1]
        intro hm
        rcases List.mem_cons.mp hm with z | z
        · exact absurd z (Nat.ne_of_lt (Nat.lt_succ_self _))
        · rw [List.mem_singleton.mp z] at hlS; exact Nat.lt_irrefl _ hlS
      refine updM ((Walks.tuple hh3 _ l hneI items).toS) s.heap.objs.size hSf ks hN hb hval (items.size - 0) 0 _ (by omega) (Nat.zero_le _) ⟨⟨_, Heap.get?_push_size _ rfl, rfl, rfl⟩, (hl1.push _)⟩ ?hS0 ?hR
      case hS0 => exact ⟨0, Nat.le_refl 0, freshM (Heap.get?_push_of_some _ hS)⟩
      case hR =>
        intro s' c' hm hc' hS'
        obtain ⟨h', g2, d', tk', os'⟩ := s'
        have eg : g2 = s.gens := hm.gens
        have ed : d' = s.drawn := hm.drawn
        have eo : os' = s.os := hm.os
        subst eg; subst ed; subst eo
        show wpAny _ _ _ _ _ _
        refine wpAny_pure ?_
        show wpAny _ _ (ret Value.none) _ _ _
        rw [hN] at hc'
        refine wpAny_pure ⟨rfl, h', tk', c', rfl, hS', hc', fun b o e => ?_⟩
        have hb0 : b < s.heap.objs.size := Heap.lt_size e
        refine hm.heap b o (fun hm2 => ?_) (Heap.get?_push_of_some _ (Heap.get?_push_of_some _ e))
        rcases List.mem_cons.mp hm2 with z | z
        · exact absurd z (Nat.ne_of_lt hb0)
        · have z := List.mem_singleton.mp z
          rw [hz1] at z
          exact absurd z (Nat.ne_of_lt (Nat.lt_succ_of_lt hb0))
    · cases r₂ with
      | error e => exact hr₂
      | ok fl₂ =>
        cases fl₂ <;> first | exact hr₂.elim | skip
        obtain ⟨rfl, h', tk, c', rfl, hS', hc', hk'⟩ := hr₂
        repeat (any_goals (first | assumption | wp_step))
        exact h _ _ _ hS' hc' hk'

/-- sorted of a set: its members in a list, sorted -/
theorem sortM {n : Nat} {S : Key → Bool} {Q : Value → Shared → Prop} (R : SetM w s.heap a S n) (hh : A.handled = none) (h64 : n < 64) (P' : List Value → List Value → Prop)
    (hsort : ∀ (s1 : Shared) (L : Addr) (vs : List Value) (T : Fin → Shared → Prop), vs.length = n → (∀ v ∈ vs, ∃ k : Key, keyIs k v = true ∧ S k = true) → (∀ k, S k = true → ∃ v ∈ vs, keyIs k v = true) → s1.heap.get? L = some (seqObj "list" vs.toArray 0) →
      (∀ out : Array Value, P' vs out.toList → T (.done (.ret .none)) { s1 with heap := sortedHeap s1.heap L vs out }) → wpAny (model P w) A.in1.in1 (Builtin.«list.sort» ⟨[.ref L], []⟩) T E s1)
    (hQ : ∀ s' p vs (out : Array Value) (c : Nat), (∀ b o, s.heap.get? b = some o → s'.heap.get? b = some o) → s'.gens = s.gens → s'.os = s.os → s.heap.objs.size ≤ p → s'.heap.get? p = some (seqObj "list" out c) → vs.length = n →
      (∀ v ∈ vs, ∃ k : Key, keyIs k v = true ∧ S k = true) → (∀ k, S k = true → ∃ v ∈ vs, keyIs k v = true) → (vs.map fun v => keyM (0, v)).Nodup → P' vs out.toList → Q (.ref p) s') :
    wpAny (model P w) A (call (.builtin "sorted") [.ref a]) Q E s := by
  obtain ⟨o, xs, ep, t, ⟨ho, hex, hd⟩, ⟨g, nd, hm⟩, ⟨hb, hf, hn⟩, hr, hl⟩ := R
  refine Calls.call_function_entry kind_sorted plain_sorted entry_sorted (args_sorted1 _) ?_
  unfold Builtin.«sorted»
  refine wpAny_bind (m := checkCount "sorted" 1 1 _) (wpAny_pure ?_)
  refine wpAny_bind (collect_set (A := A.in1) hh ⟨o, ho, hex.1, hd⟩ hf hb hr hl fun s1 vs k1 hz g1 o1 pm => ?_)
  have hvl : vs.length = n := by rw [pm.length_eq, List.length_map, Array.length_toList]; exact hn
  have m1 : ∀ v ∈ vs, ∃ k : Key, keyIs k v = true ∧ S k = true := fun v hv => by
    obtain ⟨e, he, q⟩ := List.mem_map.mp (pm.mem_iff.mp hv)
    obtain ⟨⟨k, h1, _⟩, _⟩ := g e he
    exact ⟨k, by rw [← q]; exact h1, (hm k).mpr ((goodM_mem g k).mpr ⟨e, he, h1⟩)⟩
  have m2 : ∀ k, S k = true → ∃ v ∈ vs, keyIs k v = true := fun k hk => by
    obtain ⟨e, he, q⟩ := (goodM_mem g k).mp ((hm k).mp hk)
    exact ⟨e.2, pm.mem_iff.mpr (List.mem_map.mpr ⟨e, he, rfl⟩), q⟩
  have m3 : (vs.map fun v => keyM (0, v)).Nodup := by
    refine ((pm.map fun v => keyM (0, v)).nodup_iff).mpr ?_
    rw [List.map_map]
    exact nd
  refine wpAny_bind (wpAny_newList ?_ (by rw [hvl, sizeLine_eq]; omega))
  have hoL : (s1.heap.push (seqObj "list" vs.toArray 0)).get? s1.heap.objs.size = some (seqObj "list" vs.toArray 0) := Heap.get?_push_size _ rfl
  refine wpAny_bind (wpAny_holding (wpAny_call_entry slot_list_sort ⟨_, hoL, rfl⟩ entry_list_sort (hsort _ _ vs _ hvl m1 m2 hoL fun out hp => ⟨_, rfl, ?_⟩) (args_list_sort _)))
  obtain ⟨c, hc⟩ := sortedHeap_at (vs := vs) (out := out) hoL
  refine wpAny_pure ⟨_, rfl, hQ _ s1.heap.objs.size vs out c (fun b u e => ?_) g1 o1 hz hc hvl m1 m2 m3 hp⟩
  have q := k1 b u e
  have hlt := Heap.lt_size q
  show (sortedHeap (s1.heap.push (seqObj "list" vs.toArray 0)) s1.heap.objs.size vs out).get? b = some u
  rw [sortedHeap_old (Nat.ne_of_lt hlt) (by rw [size_push']; exact Nat.lt_succ_of_lt hlt)]
  exact Heap.get?_push_of_some _ q
end
end L2

set_option maxRecDepth 100000
set_option maxHeartbeats 4000000
set_option autoImplicit false
namespace PD
open PySem PySem.Spec L2 PyProof.Rows
open Evl (Ex)
/-! ### ascending lists without doubles -/
section
variable {α : Type} [DecidableEq α]
def insA (lt : α → α → Bool) (x : α) : List α → List α
  | [] => [x]
  | y :: ys => if lt x y = true then x :: y :: ys else if x = y then y :: ys else y :: insA lt x ys
def ascA (lt : α → α → Bool) (xs : List α) : List α := xs.foldr (insA lt) []
structure SLin (lt : α → α → Bool) : Prop where
  irr : ∀ x, lt x x = false
  tr : ∀ x y z, lt x y = true → lt y z = true → lt x z = true
  tot : ∀ x y, lt x y = false → lt y x = false → x = y
variable {lt : α → α → Bool}
theorem mem_insA (x z : α) : ∀ ys : List α, z ∈ insA lt x ys ↔ z = x ∨ z ∈ ys
  | [] => by unfold insA; simp
  | y :: ys => by
    unfold insA
    split
    · simp
    · split
      · rename_i h
        subst h
        simp
      · rw [List.mem_cons, mem_insA x z ys, List.mem_cons]
        constructor
        · rintro (h | h | h)
          · exact .inr (.inl h)
          · exact .inl h
          · exact .inr (.inr h)
        · rintro (h | h | h)
          · exact .inr (.inl h)
          · exact .inl h
          · exact .inr (.inr h)
theorem mem_ascA (z : α) : ∀ xs : List α, z ∈ ascA lt xs ↔ z ∈ xs
  | [] => by simp [ascA]
  | x :: xs => by
    show z ∈ insA lt x (ascA lt xs) ↔ _
    rw [mem_insA, mem_ascA z xs, List.mem_cons]
theorem insA_asc (h : SLin lt) (x : α) : ∀ {ys : List α}, ys.Pairwise (fun a b => lt a b = true) → (insA lt x ys).Pairwise fun a b => lt a b = true
  | [], _ => by unfold insA; simp
  | y :: ys, p => by
    have p0 := List.pairwise_cons.mp p
    unfold insA
    split
    · rename_i hxy
      refine List.pairwise_cons.mpr ⟨fun z hz => ?_, p⟩
      rcases List.mem_cons.mp hz with rfl | hz
      · exact hxy
      · exact h.tr _ _ _ hxy (p0.1 z hz)
    · rename_i hxy
      split
      · exact p
      · rename_i hne
        refine List.pairwise_cons.mpr ⟨fun z hz => ?_, insA_asc h x p0.2⟩
        rcases (mem_insA x z ys).mp hz with rfl | hz
        · cases q : lt y z with
          | true => rfl
          | false => exact absurd (h.tot z y (by simpa using hxy) q) hne
        · exact p0.1 z hz
theorem ascA_asc (h : SLin lt) : ∀ xs : List α, (ascA lt xs).Pairwise fun a b => lt a b = true
  | [] => List.Pairwise.nil
  | x :: xs => insA_asc h x (ascA_asc h xs)
theorem asc_uniq (h : SLin lt) : ∀ {xs ys : List α}, xs.Pairwise (fun a b => lt a b = true) → ys.Pairwise (fun a b => lt a b = true) → (∀ z, z ∈ xs ↔ z ∈ ys) → xs = ys
  | [], [], _, _, _ => rfl
  | [], y :: ys, _, _, e => by have := (e y).mpr List.mem_cons_self; simp at this
  | x :: xs, [], _, _, e => by have := (e x).mp List.mem_cons_self; simp at this
  | x :: xs, y :: ys, p, q, e => by
    have p0 := List.pairwise_cons.mp p
    have q0 := List.pairwise_cons.mp q
    have nn : ∀ a b, lt a b = true → lt b a = true → False := fun a b h1 h2 => by have := h.tr _ _ _ h1 h2; rw [h.irr] at this; cases this
    have hxy : x = y := by
      rcases List.mem_cons.mp ((e x).mp List.mem_cons_self) with r | r
      · exact r
      · rcases List.mem_cons.mp ((e y).mpr List.mem_cons_self) with r2 | r2
        · exact r2.symm
        · exact (nn _ _ (q0.1 x r) (p0.1 y r2)).elim
    subst hxy
    rw [asc_uniq h p0.2 q0.2 fun z => ?_]
    constructor
    · intro hz
      rcases List.mem_cons.mp ((e z).mp (List.mem_cons_of_mem _ hz)) with r | r
      · rw [r] at hz
        have := p0.1 x hz
        rw [h.irr] at this
        cases this
      · exact r
    · intro hz
      rcases List.mem_cons.mp ((e z).mpr (List.mem_cons_of_mem _ hz)) with r | r
      · rw [r] at hz
        have := q0.1 x hz
        rw [h.irr] at this
        cases this
      · exact r
end
def liI (a b : Int) : Bool := decide (a < b)
def liS (a b : Str) : Bool := ltCps a.cps.toList b.cps.toList
theorem slin_I : SLin liI := ⟨fun x => by simp [liI], fun x y z h1 h2 => by simp only [liI, decide_eq_true_eq] at *; omega, fun x y h1 h2 => by simp only [liI, decide_eq_false_iff_not] at *; omega⟩
theorem cps_irr : ∀ a : List Nat, ltCps a a = false
  | [] => rfl
  | a :: r => by
    show (decide (a < a) || (a == a && ltCps r r)) = false
    rw [cps_irr r]
    simp
theorem cps_tr : ∀ a b c : List Nat, ltCps a b = true → ltCps b c = true → ltCps a c = true
  | [], [], _, h, _ => by cases h
  | [], _ :: _, [], _, h => by cases h
  | [], _ :: _, _ :: _, _, _ => rfl
  | _ :: _, [], _, h, _ => by cases h
  | _ :: _, _ :: _, [], _, h => by cases h
  | a :: r, b :: s, c :: t, h1, h2 => by
    have h1 : (decide (a < b) || (a == b && ltCps r s)) = true := h1
    have h2 : (decide (b < c) || (b == c && ltCps s t)) = true := h2
    show (decide (a < c) || (a == c && ltCps r t)) = true
    simp only [Bool.or_eq_true, Bool.and_eq_true, decide_eq_true_eq, beq_iff_eq] at h1 h2 ⊢
    rcases h1 with h1 | ⟨h1, h3⟩
    · rcases h2 with h2 | ⟨h2, h4⟩
      · exact .inl (by omega)
      · exact .inl (by omega)
    · rcases h2 with h2 | ⟨h2, h4⟩
      · exact .inl (by omega)
      · exact .inr ⟨by omega, cps_tr r s t h3 h4⟩
theorem cps_tot : ∀ a b : List Nat, ltCps a b = false → ltCps b a = false → a = b
  | [], [], _, _ => rfl
  | [], _ :: _, h, _ => by cases h
  | _ :: _, [], _, h => by cases h
  | a :: r, b :: s, h1, h2 => by
    have h1 : (decide (a < b) || (a == b && ltCps r s)) = false := h1
    have h2 : (decide (b < a) || (b == a && ltCps s r)) = false := h2
    simp only [Bool.or_eq_false_iff, decide_eq_false_iff_not, Bool.and_eq_false_iff, beq_eq_false_iff_ne] at h1 h2
    have e : a = b := by omega
    subst e
    rw [cps_tot r s (h1.2.resolve_left fun z => z rfl) (h2.2.resolve_left fun z => z rfl)]
theorem slin_S : SLin liS := ⟨fun x => cps_irr _, fun x y z => cps_tr _ _ _, fun x y h1 h2 => Str.ext' (Array.toList_inj.mp (cps_tot _ _ h1 h2))⟩
theorem sortedS_pw : ∀ (p : Str) (xs : List Str), risingS p xs = true → (p :: xs).Nodup → (p :: xs).Pairwise fun a b => liS a b = true
  | p, [], _, _ => by simp
  | p, x :: r, h, nd => by
    have h : (!ltCps x.cps.toList p.cps.toList && risingS x r) = true := h
    rw [Bool.and_eq_true, Bool.not_eq_true'] at h
    have nd0 := List.nodup_cons.mp nd
    have ih := sortedS_pw x r h.2 nd0.2
    have hpx : liS p x = true := by
      cases q : liS p x with
      | true => rfl
      | false => exact absurd (slin_S.tot p x q h.1) fun z => nd0.1 (z ▸ List.mem_cons_self)
    refine List.pairwise_cons.mpr ⟨fun z hz => ?_, ih⟩
    rcases List.mem_cons.mp hz with rfl | hz
    · exact hpx
    · exact slin_S.tr _ _ _ hpx ((List.pairwise_cons.mp ih).1 z hz)
/-! ### set(x), sorted(set) -/
def SetMO (w : World) (a : Addr) (ks : List Key) : HO := .ext fun h => ∃ c, c ≤ ks.length ∧ SetM w h a (memK ks) c
theorem vals_keys : ∀ {ks : List Key} {its : List Value}, Vals (ks.map kV) its → its.length = ks.length ∧ ∀ (i : Nat) (v : Value), its[i]? = some v → ∃ k, ks[i]? = some k ∧ keyIs k v = true ∧ v.scannable = true
  | [], its, h => by
    rw [List.map_nil] at h
    cases h
    exact ⟨rfl, fun i v e => by simp at e⟩
  | k :: ks, its, h => by
    rw [List.map_cons] at h
    cases h with
    | cons h t =>
      obtain ⟨l, f⟩ := vals_keys t
      refine ⟨by rw [List.length_cons, List.length_cons, l], fun i v e => ?_⟩
      cases i with
      | succ i => exact f i v e
      | zero =>
        cases e
        cases k with
        | inl i => obtain ⟨t, rfl⟩ := h; exact ⟨_, rfl, (by simp [keyIs, Value.isInt]), rfl⟩
        | inr x => obtain ⟨t, rfl⟩ := h; exact ⟨_, rfl, (by simp [keyIs, Value.isStrOf]), rfl⟩
def rSetM (X : Cx) : List V → Hp → VK → Prop := fun vs H Q => ∃ (a : Addr) (ks : List Key), vs = [V.ref a] ∧ (SqL X.K H a (ks.map kV) ∨ SqT X.K H a (ks.map kV)) ∧ ks.length + 1 < scanBound ∧
  ∀ p, H p = none → Q (.ref p) (upd H p (SetMO X.w p ks))
section
variable {X : Cx}
theorem cr_setM (hc : X.calm = true) : CallR X (.type "set") (rSetM X) := by
  intro pins s σ H vs us Q I r h
  obtain ⟨a, ks, rfl, hs, hb, q⟩ := h
  rw [Vals.ref1 r]
  have fin : ∀ (h' : Heap) (tk c : Nat), SetM X.w h' s.heap.objs.size (memK ks) c → c ≤ ks.length → (∀ b o, s.heap.get? b = some o → h'.get? b = some o) → EP X pins σ Q (.ref s.heap.objs.size) { s with heap := h', toks := tk } := fun h' tk c hS hc hk => by
    have hn : H s.heap.objs.size = none := I.hok.fresh (Nat.le_refl _)
    refine ⟨.ref _, upd H _ (SetMO X.w _ ks), I.laid (t' := tk) hk (Nat.le_refl _) (show ObjOk X.prog X.w _ _ _ (HO.ext _) from ⟨⟨c, hc, hS⟩, ?_, fun h1 h2 ⟨c, hc, r⟩ k => ⟨c, hc, r.at k⟩⟩), rfl, q _ hn⟩
    obtain ⟨o, es, ep, t, ⟨ho, _⟩, _⟩ := hS
    exact ⟨o, ho⟩
  rcases hs with hs | hs
  · obtain ⟨its, rv, hl, _⟩ := I.list hs
    obtain ⟨z1, z2⟩ := vals_keys rv
    exact setM_list ks (I.ok.hd hc) hl.isList (by rw [List.size_toArray]; exact z1) (fun i v e => z2 i v (by rwa [List.getElem?_toArray] at e)) hb fin
  · obtain ⟨its, rv, hl, _⟩ := I.tuple hs
    obtain ⟨z1, z2⟩ := vals_keys rv
    refine setM_tuple ks (I.ok.hd hc) (show s.heap.IsTuple a its.toArray from let ⟨o, e, hc, n, hd⟩ := hl; ⟨o, e, hc, n, hd⟩) (by rw [List.size_toArray]; exact z1) (fun i v e => z2 i v (by rwa [List.getElem?_toArray] at e)) hb fin
theorem inl_inj {xs ys : List Int} (h : xs.map (Sum.inl : Int → Key) = ys.map Sum.inl) : xs = ys := by
  have := congrArg (List.map fun k : Key => match k with | .inl i => i | .inr _ => (0 : Int)) h
  simpa [List.map_map, Function.comp_def] using this
theorem inr_inj {xs ys : List Str} (h : xs.map (Sum.inr : Str → Key) = ys.map Sum.inr) : xs = ys := by
  have := congrArg (List.map fun k : Key => match k with | .inl _ => (⟨#[]⟩ : Str) | .inr x => x) h
  simpa [List.map_map, Function.comp_def] using this
theorem ints_keys {S : List Int} : ∀ {vs : List Value}, (∀ v ∈ vs, ∃ k : Key, keyIs k v = true ∧ memK (S.map Sum.inl) k = true) → ∃ ns : List Int, IntsAre vs ns ∧ vs.map (fun v => keyM (0, v)) = ns.map Sum.inl ∧ ∀ n ∈ ns, n ∈ S
  | [], _ => ⟨[], .nil, rfl, fun _ h => by simp at h⟩
  | v :: vs, h => by
    obtain ⟨ns, h1, h2, h3⟩ := ints_keys fun v hv => h v (List.mem_cons_of_mem _ hv)
    obtain ⟨k, e1, e2⟩ := h v List.mem_cons_self
    obtain ⟨n, hn, rfl⟩ := List.mem_map.mp (memK_iff.mp e2)
    rcases keyIs_shape e1 with ⟨i, t, z1, rfl⟩ | ⟨x, t, z1, rfl⟩
    · cases z1
      refine ⟨n :: ns, .cons n t h1, by rw [List.map_cons, List.map_cons, h2]; rfl, fun m hm => ?_⟩
      rcases List.mem_cons.mp hm with rfl | hm
      · exact hn
      · exact h3 m hm
    · cases z1
theorem strs_keys {S : List Str} : ∀ {vs : List Value}, (∀ v ∈ vs, ∃ k : Key, keyIs k v = true ∧ memK (S.map Sum.inr) k = true) → ∃ ns : List Str, StrsAre vs ns ∧ vs.map (fun v => keyM (0, v)) = ns.map Sum.inr ∧ ∀ n ∈ ns, n ∈ S
  | [], _ => ⟨[], .nil, rfl, fun _ h => by simp at h⟩
  | v :: vs, h => by
    obtain ⟨ns, h1, h2, h3⟩ := strs_keys fun v hv => h v (List.mem_cons_of_mem _ hv)
    obtain ⟨k, e1, e2⟩ := h v List.mem_cons_self
    obtain ⟨n, hn, rfl⟩ := List.mem_map.mp (memK_iff.mp e2)
    rcases keyIs_shape e1 with ⟨i, t, z1, rfl⟩ | ⟨x, t, z1, rfl⟩
    · cases z1
    · cases z1
      refine ⟨n :: ns, .cons n t h1, by rw [List.map_cons, List.map_cons, h2]; rfl, fun m hm => ?_⟩
      rcases List.mem_cons.mp hm with rfl | hm
      · exact hn
      · exact h3 m hm
theorem keyM_at {ks : List Key} {vs : List Value} {k : Key} (h : ∃ v ∈ vs, keyIs k v = true) (e : vs.map (fun v => keyM (0, v)) = ks) : k ∈ ks := by
  obtain ⟨v, hv, hk⟩ := h
  rw [← e]
  exact List.mem_map.mpr ⟨v, hv, keyM_of (e := (0, v)) hk⟩
def rSortMI (X : Cx) : List V → Hp → VK → Prop := fun vs H Q => ∃ (a : Addr) (S : List Int), vs = [V.ref a] ∧ H a = some (SetMO X.w a (S.map Sum.inl)) ∧ S.length < 64 ∧ ∀ p, H p = none → Q (.ref p) (upd H p (.lst ((ascA liI S).map V.int)))
def rSortMS (X : Cx) : List V → Hp → VK → Prop := fun vs H Q => ∃ (a : Addr) (S : List Str), vs = [V.ref a] ∧ H a = some (SetMO X.w a (S.map Sum.inr)) ∧ S.length < 64 ∧ ∀ p, H p = none → Q (.ref p) (upd H p (.lst ((ascA liS S).map V.str)))
theorem sort_end {pins : List (Addr × Obj)} {s s' : Shared} {σ : L2.St} {H : Hp} {Q : VK} (I : Inv X pins σ H s) {p : Addr} {xs : List V} {out : Array Value} {c : Nat} (k : ∀ b o, s.heap.get? b = some o → s'.heap.get? b = some o) (g : s'.gens = s.gens) (o : s'.os = s.os) (hp : s.heap.objs.size ≤ p)
    (hg : s'.heap.get? p = some (seqObj "list" out c)) (hl : xs.length ≤ sizeLine) (hv : Vals xs out.toList) (q : ∀ p, H p = none → Q (.ref p) (upd H p (.lst xs))) : EP X pins σ Q (.ref p) s' := by
  have hn : H p = none := I.hok.fresh hp
  have J : Inv X pins σ (upd H p (.lst xs)) { s with heap := s'.heap, gens := s'.gens, drawn := s'.drawn, toks := s'.toks } :=
    I.call (ch := []) (Un.laid k hp hn) (I.hok.laid k hp (show ObjOk X.prog X.w _ _ _ (HO.lst xs) from ⟨hl, out.toList, c, hv, hg⟩)) (by rw [g]; exact I.bare) (fun _ z => nomatch z)
  have e : s' = { s with heap := s'.heap, gens := s'.gens, drawn := s'.drawn, toks := s'.toks } := by
    cases s'
    cases s
    cases o
    rfl
  rw [e]
  exact ⟨.ref p, _, J, rfl, q p hn⟩
theorem cr_sortMI (hc : X.calm = true) : CallR X (.builtin "sorted") (rSortMI X) := by
  intro pins s σ H vs us Q I r h
  obtain ⟨a, S, rfl, ha, h64, q⟩ := h
  obtain ⟨⟨c0, hc0, R⟩, _⟩ := (show ObjOk X.prog X.w H s.heap a (SetMO X.w a (S.map Sum.inl)) from I.hok a _ ha)
  rw [List.length_map] at hc0
  rw [Vals.ref1 r]
  refine sortM R (I.ok.hd hc) (by omega) (fun vs out => ∃ ns ns' : List Int, vs.map (fun v => keyM (0, v)) = ns.map Sum.inl ∧ IntsAre out ns' ∧ ns'.Perm ns ∧ ns'.Pairwise (· ≤ ·))
    (fun s1 L vs T hl m1 _ hob hT => ?_) (fun s' p vs out c k g o hp hg hl m1 m2 nd hP => ?_)
  · obtain ⟨ns, h1, h2, h3⟩ := ints_keys m1
    exact list_sort_tree hob h1 (by omega) fun out ns' g1 g2 g3 => hT out ⟨ns, ns', h2, g1, g2, g3⟩
  · obtain ⟨ns, ns', e1, g1, g2, g3⟩ := hP
    obtain ⟨ns0, _, e2, f3⟩ := ints_keys m1
    have e0 : ns0 = ns := by
      have : ns0.map (Sum.inl : Int → Key) = ns.map Sum.inl := e2.symm.trans e1
      exact inl_inj this
    subst e0
    rw [e1] at nd
    have nd1 : ns0.Nodup := List.Pairwise.of_map _ (fun a b h e => h (congrArg _ e)) nd
    have nd2 : ns'.Nodup := g2.nodup_iff.mpr nd1
    have hasc : ns' = ascA liI S := by
      refine asc_uniq slin_I ?_ (ascA_asc slin_I S) fun z => ?_
      · refine (List.Pairwise.and g3 nd2).imp fun h => ?_
        simp only [liI, decide_eq_true_eq]
        have := h.2
        omega
      · rw [mem_ascA, g2.mem_iff]
        refine ⟨f3 z, fun hz => ?_⟩
        have := keyM_at (m2 (Sum.inl z) (memK_iff.mpr (List.mem_map.mpr ⟨z, hz, rfl⟩))) e1
        obtain ⟨y, hy, e⟩ := List.mem_map.mp this
        cases e
        exact hy
    subst hasc
    refine sort_end I k g o hp hg ?_ (vals_of_ints g1) q
    have h5 := g2.length_eq
    have h6 := congrArg List.length e1
    rw [List.length_map, List.length_map] at h6
    rw [List.length_map, h5, sizeLine_eq]
    omega
theorem cr_sortMS (hc : X.calm = true) : CallR X (.builtin "sorted") (rSortMS X) := by
  intro pins s σ H vs us Q I r h
  obtain ⟨a, S, rfl, ha, h64, q⟩ := h
  obtain ⟨⟨c0, hc0, R⟩, _⟩ := (show ObjOk X.prog X.w H s.heap a (SetMO X.w a (S.map Sum.inr)) from I.hok a _ ha)
  rw [List.length_map] at hc0
  rw [Vals.ref1 r]
  refine sortM R (I.ok.hd hc) (by omega) (fun vs out => ∃ ns ns' : List Str, vs.map (fun v => keyM (0, v)) = ns.map Sum.inr ∧ StrsAre out ns' ∧ ns'.Perm ns ∧ sortedS ns' = true)
    (fun s1 L vs T hl m1 _ hob hT => ?_) (fun s' p vs out c k g o hp hg hl m1 m2 nd hP => ?_)
  · obtain ⟨ns, h1, h2, h3⟩ := strs_keys m1
    refine list_sort_treeK strKind_oneLt hob h1.keysOf (fun v₁ v₂ rest e => keyKind_strs (by rw [← e]; exact h1)) (by omega) fun st' hp hs => ?_
    obtain ⟨ys, g1, g2, g3⟩ := sorted_out_str h1 hp hs
    exact hT _ ⟨ns, ys, h2, g1, g2, g3⟩
  · obtain ⟨ns, ns', e1, g1, g2, g3⟩ := hP
    obtain ⟨ns0, _, e2, f3⟩ := strs_keys m1
    have e0 : ns0 = ns := by
      have : ns0.map (Sum.inr : Str → Key) = ns.map Sum.inr := e2.symm.trans e1
      exact inr_inj this
    subst e0
    rw [e1] at nd
    have nd1 : ns0.Nodup := List.Pairwise.of_map _ (fun a b h e => h (congrArg _ e)) nd
    have nd2 : ns'.Nodup := g2.nodup_iff.mpr nd1
    have hasc : ns' = ascA liS S := by
      refine asc_uniq slin_S ?_ (ascA_asc slin_S S) fun z => ?_
      · cases ns' with
        | nil => exact List.Pairwise.nil
        | cons x r => exact sortedS_pw x r g3 nd2
      · rw [mem_ascA, g2.mem_iff]
        refine ⟨f3 z, fun hz => ?_⟩
        have := keyM_at (m2 (Sum.inr z) (memK_iff.mpr (List.mem_map.mpr ⟨z, hz, rfl⟩))) e1
        obtain ⟨y, hy, e⟩ := List.mem_map.mp this
        cases e
        exact hy
    subst hasc
    refine sort_end I k g o hp hg ?_ (vals_of_strs g1) q
    have h5 := g2.length_eq
    have h6 := congrArg List.length e1
    rw [List.length_map, List.length_map] at h6
    rw [List.length_map, h5, sizeLine_eq]
    omega
end
/-! ### sorted(set(x)) -/
def ksI : List D → Option (List Int)
  | [] => some []
  | .int i :: r => (ksI r).map (i :: ·)
  | _ => none
def ksS : List D → Option (List Str)
  | [] => some []
  | .str i :: r => (ksS r).map (i :: ·)
  | _ => none
def sortsetL (xs : List D) : Option (List D) := if xs.length < 60 then
    match ksI xs with
    | some ns => some ((ascA liI ns).map PyData.int)
    | none => (ksS xs).map fun ss => (ascA liS ss).map PyData.str
  else none
def sortsetD : D → Option (List D)
  | .list xs => sortsetL xs
  | .tuple xs => sortsetL xs
  | _ => none
def M.sortset (f : M D) : M (List D) := M.bind f fun x => M.lift (sortsetD x)
theorem ksI_v {K : PySem.W.Frag} {H : Hp} : ∀ {vs : List V} {xs : List D} {ns : List Int}, DpAll K H vs xs → ksI xs = some ns → vs = (ns.map (Sum.inl : Int → Key)).map kV
  | _, _, ns, .nil, e => by cases e; rfl
  | _, _, ns, .cons (d := d) (ds := ds) h t, e => by
    cases d <;> first | cases e | skip
    rename_i i
    have e : (ksI ds).map (i :: ·) = some ns := e
    cases q : ksI ds with
    | none => rw [q] at e; cases e
    | some cs =>
      rw [q] at e
      cases e
      rw [h.int_of, ksI_v t q]
      rfl
theorem ksS_v {K : PySem.W.Frag} {H : Hp} : ∀ {vs : List V} {xs : List D} {ns : List Str}, DpAll K H vs xs → ksS xs = some ns → vs = (ns.map (Sum.inr : Str → Key)).map kV
  | _, _, ns, .nil, e => by cases e; rfl
  | _, _, ns, .cons (d := d) (ds := ds) h t, e => by
    cases d <;> first | cases e | skip
    rename_i i
    have e : (ksS ds).map (i :: ·) = some ns := e
    cases q : ksS ds with
    | none => rw [q] at e; cases e
    | some cs =>
      rw [q] at e
      cases e
      rw [h.str_of, ksS_v t q]
      rfl
theorem dpl_I {K : PySem.W.Frag} {H : Hp} : ∀ ns : List Int, DpAll K H (ns.map V.int) (ns.map PyData.int)
  | [] => .nil
  | n :: ns => .cons (.int n) (dpl_I ns)
theorem dpl_S {K : PySem.W.Frag} {H : Hp} : ∀ ns : List Str, DpAll K H (ns.map V.str) (ns.map PyData.str)
  | [] => .nil
  | n :: ns => .cons (.str n) (dpl_S ns)
section
variable {X : Cx} {C : Fc} {p p2 pos pos2 : Pos} {e : Expr} {f : M D}
theorem cr_sortM2 (hc : X.calm = true) : CallR X (.builtin "sorted") (fun vs H Q => rSortMI X vs H Q ∨ rSortMS X vs H Q) := fun pins s σ H vs us Q I r h => h.elim (cr_sortMI hc pins s σ H vs us Q I r) (cr_sortMS hc pins s σ H vs us Q I r)
theorem pdl_sortset (hc : X.calm = true) (hm1 : X.mg "sorted" = none) (hm2 : X.mg "set" = none) (he : PDe X C e f) (hg1 : Gl X "sorted" := by rfl) (hg2 : Gl X "set" := by rfl)
    (hs2 : starEach [e] X.env = (false, eval e X.env) :: starEach [] X.env := by rfl) (hs1 : starEach [.Call (.Name "set" p2) [e] [] pos2] X.env = (false, eval (.Call (.Name "set" p2) [e] [] pos2) X.env) :: starEach [] X.env := by rfl)
    (hp1 : (backTo pos (starEach [] X.env)).any (·.1) = false := by rfl) (hp2 : (backTo pos2 (starEach [] X.env)).any (·.1) = false := by rfl) : PDl X C (.Call (.Name "sorted" p) [.Call (.Name "set" p2) [e] [] pos2] [] pos) (M.sortset f) :=
  pe_imp (pe_callB (cr_sortM2 hc) hg1 hm1 (by decide +kernel) (pa_cons (pe_callTy (cr_setM hc) hg2 hm2 (by decide +kernel) (pa_cons he pa_nil hs2) (by decide) (by decide) hs2 hp2) pa_nil hs1) (by decide) (by decide) hs1 hp1) fun σ H Q ⟨Hf, ρ, s, h⟩ => by
    refine tG_bind s h fun v x H1 Hf1 ρ1 e1 s1 d1 h1 => ?_
    obtain ⟨z, hz, h2⟩ := h1.lift
    have fin : ∀ (a : Addr) (us : List V) (xs : List D), v = .ref a → DpAll X.K Hf1 us xs → (SqL X.K H1 a us ∨ SqT X.K H1 a us) → sortsetL xs = some z → rSetM X [v] H1 fun w H2 => rSortMI X [w] H2 Q ∨ rSortMS X [w] H2 Q := fun a us xs ev d hs hz => by
      subst ev
      unfold sortsetL at hz
      split at hz
      case isFalse => cases hz
      rename_i hl
      have hsb : ∀ n : Nat, n < 60 → n + 1 < scanBound := fun n hn => by unfold scanBound; omega
      cases q : ksI xs with
      | some ns =>
        rw [q] at hz
        cases hz
        have e0 := ksI_v d q
        have el : ns.length = xs.length := by
          have := d.length
          rw [e0, List.length_map, List.length_map] at this
          exact this
        rw [e0] at hs
        refine ⟨a, ns.map Sum.inl, rfl, hs, by rw [List.length_map]; exact hsb _ (by omega), fun p1 hp1 => .inl ⟨p1, ns, rfl, upd_same, by omega, fun p2 hp2 => ?_⟩⟩
        have s2 := s1.grow (Grow.mine (o := SetMO X.w p1 (ns.map Sum.inl)) s1.e1 hp1)
        exact PostG.nowG (b := V.ref p2) h2 s2 (Grow.mine (o := .lst ((ascA liI ns).map V.int)) s2.e1 hp2) (s2.newL hp2 (dpl_I _))
      | none =>
        rw [q] at hz
        cases q2 : ksS xs with
        | none => rw [q2] at hz; cases hz
        | some ss =>
          rw [q2] at hz
          cases hz
          have e0 := ksS_v d q2
          have el : ss.length = xs.length := by
            have := d.length
            rw [e0, List.length_map, List.length_map] at this
            exact this
          rw [e0] at hs
          refine ⟨a, ss.map Sum.inr, rfl, hs, by rw [List.length_map]; exact hsb _ (by omega), fun p1 hp1 => .inr ⟨p1, ss, rfl, upd_same, by omega, fun p2 hp2 => ?_⟩⟩
          have s2 := s1.grow (Grow.mine (o := SetMO X.w p1 (ss.map Sum.inr)) s1.e1 hp1)
          exact PostG.nowG (b := V.ref p2) h2 s2 (Grow.mine (o := .lst ((ascA liS ss).map V.str)) s2.e1 hp2) (s2.newL hp2 (dpl_S _))
    cases x <;> first | cases hz | skip
    · obtain ⟨a, us, rfl, g1, g2⟩ := Dp.list_of d1
      exact fin a us _ rfl g2 (.inl (Evl.ex_l s1.e1 g1)) hz
    · obtain ⟨a, us, rfl, g1, g2⟩ := Dp.tup_of d1
      exact fin a us _ rfl g2 (.inr (Evl.ex_t s1.e1 g1)) hz
end
/-! ### t.index(x), t a known tuple of texts -/
def TupK (K : PySem.W.Frag) (u : Value) : Prop := ∃ a o, u = .ref a ∧ K.lookup a = some o ∧ o.cls = .type "tuple" ∧ o.dict = none
theorem tupk {K : PySem.W.Frag} {a : Addr} {its : Array Value} {n : Nat} {sl : Array (Option Value)} (h : K.lookup a = some ⟨.type "tuple", none, .seq its n, sl⟩) : TupK K (.ref a) := ⟨a, _, rfl, h, rfl, rfl⟩
def firstS (z : Str) : List Str → Option Nat
  | [] => none
  | y :: ys => if y = z then some 0 else (firstS z ys).map (· + 1)
theorem firstS_ok {z : Str} : ∀ {ys : List Str} {j : Nat}, firstS z ys = some j → ys[j]? = some z ∧ ∀ m, m < j → ys[m]? ≠ some z
  | [], _, h => by cases h
  | y :: ys, j, h => by
    unfold firstS at h
    split at h
    · rename_i e
      cases h
      exact ⟨by rw [e]; rfl, fun m hm => absurd hm (Nat.not_lt_zero _)⟩
    · rename_i e
      cases q : firstS z ys with
      | none => rw [q] at h; cases h
      | some k =>
        rw [q] at h
        cases h
        obtain ⟨h1, h2⟩ := firstS_ok q
        refine ⟨h1, fun m hm => ?_⟩
        cases m with
        | zero => exact fun z => e (Option.some.inj z)
        | succ m => exact h2 m (Nat.lt_of_succ_lt_succ hm)
def tidxD : D → D → Option D
  | .tuple xs, .str z => (ksS xs).bind fun ss => (firstS z ss).map fun j => .int (j : Nat)
  | _, _ => none
theorem tidxD_some {d x z : D} (h : tidxD d x = some z) : ∃ (xs : List D) (zz : Str) (ss : List Str) (j : Nat), d = .tuple xs ∧ x = .str zz ∧ ksS xs = some ss ∧ firstS zz ss = some j ∧ z = .int (j : Int) := by
  cases d <;> first | (cases h; done) | skip
  cases x <;> first | (cases h; done) | skip
  rename_i xs zz
  have h : ((ksS xs).bind fun ss => (firstS zz ss).map fun j => (PyData.int (j : Nat) : D)) = some z := h
  cases q : ksS xs with
  | none => rw [q] at h; cases h
  | some ss =>
    rw [q] at h
    simp only [Option.bind_some] at h
    cases q2 : firstS zz ss with
    | none => rw [q2] at h; cases h
    | some j =>
      rw [q2] at h
      cases h
      exact ⟨xs, zz, ss, j, rfl, rfl, q, q2, rfl⟩
def M.tidx (d : D) (f : M D) : M D := M.bind f fun z => M.lift (tidxD d z)
section
variable {X : Cx} {C : Fc} {e : Expr} {f : M D}
theorem pd_tidx {x : Str} {px apos cpos : Pos} {u : Value} {d : D} (hm : X.mg x = some u) (hk : TupK X.K u) (hr : ∃ v, RelV v u ∧ ∀ H, Dp X.K H v d) (he : PDe X C e f) (hg : Gl X x := by rfl) (hdb : (x == ("__debug__" : Str)) = false := by decide)
    (hbase : attributeBase (.Name x px) "index" X.env (eval (.Name x px) X.env) = eval (.Name x px) X.env := by rfl)
    (hfew : ((backTo cpos (starEach [e] X.env)).all (fun x => !x.1) && (backToKw cpos (keywordEach [] X.env)).all (fun x => x.1.isSome)
      && decide ([e].length + ([] : List Keyword).length + (if ([] : List Keyword).isEmpty then 0 else 1) < 30)) = true := by rfl)
    (hline : (apos.endLine == cpos.line) = true := by rfl) (hs : starEach [e] X.env = (false, eval e X.env) :: starEach [] X.env := by rfl) (hplain : (backTo cpos (starEach [] X.env)).any (·.1) = false := by rfl) :
    PDe X C (.Call (.Attribute (.Name x px) "index" apos) [e] [] cpos) (M.tidx d f) := by
  obtain ⟨v, r, hd⟩ := hr
  refine pe_imp (pe_bm F.plainAttrs_tuple F.slot_tuple_index F.type_tuple_index mt_tup_index (pe_glob hg hm r hdb) (pa_cons he pa_nil hs) hbase hfew hline hs hplain) fun σ H Q ⟨Hf, ρ, s, h⟩ => ?_
  obtain ⟨a, o, ea, hl, hc, hn⟩ := hk
  have tv : tyV X.K "tuple" v H ∧ ∃ b, v = .ref b := by
    subst ea
    cases v <;> first | (cases r; exact ⟨.inr (.inl ⟨rfl, o, hl, hc, hn⟩), _, rfl⟩) | (obtain ⟨_, r⟩ := r; cases r) | cases r
  refine ⟨tv.1, tG_bind s h fun w y H1 Hf1 ρ1 e1 s1 d1 h1 => ?_⟩
  obtain ⟨z, hz, h2⟩ := h1.lift
  obtain ⟨xs, zz, ss, j, ed, rfl, q, q2, rfl⟩ := tidxD_some hz
  subst ed
  obtain ⟨p, us, rfl, g1, g2⟩ := Dp.tup_of (hd H1)
  have e0 := ksS_v g2 q
  have e3 : (ss.map (Sum.inr : Str → Key)).map kV = ss.map V.str := by rw [List.map_map]; rfl
  rw [e0, e3] at g1
  obtain ⟨z1, z2⟩ := firstS_ok q2
  exact ⟨p, ss, zz, j, rfl, by rw [Dp.str_of d1], g1, z1, z2, PostG.now h2 s1 (.int _)⟩
end
end PD

set_option maxRecDepth 100000
set_option maxHeartbeats 4000000
namespace K8
open PySem PySem.Spec L2 PD
noncomputable section
def topS (i : Nat) : Stmt := PySem.Challenge.pw_selfstarts_k08_whole_good_values.main.body.getD i (.Pass ⟨0, 0, 0, 0⟩)
def cst_AWAKE : D := .str ("awake" : Str)
def cst_RECORDS : D := .str ("records" : Str)
def cst_SLEEPS : D := .str ("sleeps" : Str)
def cst_FRESH : D := .tuple [.str ("awake" : Str), .int 0, .int 0, .tuple []]
def cst_HARMS : D := .tuple [.str ("early" : Str), .str ("joined" : Str), .str ("late" : Str), .str ("lost" : Str), .str ("parted" : Str)]
def cst_PARTS : D := .tuple [.str ("need" : Str), .str ("ahead" : Str), .str ("after" : Str), .str ("most" : Str), .str ("rest" : Str)]
def cst_FAR : D := .int 7
def cst_UNWATCHED : D := .tuple [.bool false, .int 0, .int 0, .bool false, .bool false, .int 0, .bool false]
abbrev s_is_within : Stmt := topS 12
abbrev N_is_within : List Str := ["value", "low", "high"]
abbrev P_is_within : List Str := ["value", "low", "high"]
theorem sc_is_within : FnScope N_is_within P_is_within (defScope s_is_within) := ⟨rfl, rfl, rfl, by decide +kernel, rfl, by decide +kernel, by decide +kernel⟩
abbrev s_is_row_of : Stmt := topS 13
abbrev N_is_row_of : List Str := ["value", "size"]
abbrev P_is_row_of : List Str := ["value", "size"]
theorem sc_is_row_of : FnScope N_is_row_of P_is_row_of (defScope s_is_row_of) := ⟨rfl, rfl, rfl, by decide +kernel, rfl, by decide +kernel, by decide +kernel⟩
abbrev s_is_recorder : Stmt := topS 14
abbrev N_is_recorder : List Str := ["value"]
abbrev P_is_recorder : List Str := ["value"]
theorem sc_is_recorder : FnScope N_is_recorder P_is_recorder (defScope s_is_recorder) := ⟨rfl, rfl, rfl, by decide +kernel, rfl, by decide +kernel, by decide +kernel⟩
abbrev s_is_world : Stmt := topS 15
abbrev N_is_world : List Str := ["value"]
abbrev P_is_world : List Str := ["value"]
theorem sc_is_world : FnScope N_is_world P_is_world (defScope s_is_world) := ⟨rfl, rfl, rfl, by decide +kernel, rfl, by decide +kernel, by decide +kernel⟩
abbrev s_is_plan : Stmt := topS 16
abbrev N_is_plan : List Str := ["value"]
abbrev P_is_plan : List Str := ["value"]
theorem sc_is_plan : FnScope N_is_plan P_is_plan (defScope s_is_plan) := ⟨rfl, rfl, rfl, by decide +kernel, rfl, by decide +kernel, by decide +kernel⟩
abbrev s_look_at_plan : Stmt := topS 17
abbrev N_look_at_plan : List Str := ["plan"]
abbrev P_look_at_plan : List Str := ["plan"]
theorem sc_look_at_plan : FnScope N_look_at_plan P_look_at_plan (defScope s_look_at_plan) := ⟨rfl, rfl, rfl, by decide +kernel, rfl, by decide +kernel, by decide +kernel⟩
abbrev s_look_at_harm : Stmt := topS 18
abbrev N_look_at_harm : List Str := ["harm"]
abbrev P_look_at_harm : List Str := ["harm"]
theorem sc_look_at_harm : FnScope N_look_at_harm P_look_at_harm (defScope s_look_at_harm) := ⟨rfl, rfl, rfl, by decide +kernel, rfl, by decide +kernel, by decide +kernel⟩
abbrev s_look_at_wishes : Stmt := topS 19
abbrev N_look_at_wishes : List Str := ["wishes", "harm"]
abbrev P_look_at_wishes : List Str := ["wishes"]
theorem sc_look_at_wishes : FnScope N_look_at_wishes P_look_at_wishes (defScope s_look_at_wishes) := ⟨rfl, rfl, rfl, by decide +kernel, rfl, by decide +kernel, by decide +kernel⟩
abbrev s_look_at_part : Stmt := topS 20
abbrev N_look_at_part : List Str := ["part"]
abbrev P_look_at_part : List Str := ["part"]
theorem sc_look_at_part : FnScope N_look_at_part P_look_at_part (defScope s_look_at_part) := ⟨rfl, rfl, rfl, by decide +kernel, rfl, by decide +kernel, by decide +kernel⟩
abbrev s_ended : Stmt := topS 22
abbrev N_ended : List Str := ["recorder"]
abbrev P_ended : List Str := ["recorder"]
theorem sc_ended : FnScope N_ended P_ended (defScope s_ended) := ⟨rfl, rfl, rfl, by decide +kernel, rfl, by decide +kernel, by decide +kernel⟩
abbrev s_step : Stmt := topS 23
abbrev N_step : List Str := ["recorder", "stand", "sound", "need", "ahead", "after_so", "most", "rest", "mode", "count", "quiet", "heard", "kept"]
abbrev P_step : List Str := ["recorder", "stand", "sound"]
theorem sc_step : FnScope N_step P_step (defScope s_step) := ⟨rfl, rfl, rfl, by decide +kernel, rfl, by decide +kernel, by decide +kernel⟩
abbrev s_begin_place : Stmt := topS 27
abbrev N_begin_place : List Str := ["world"]
abbrev P_begin_place : List Str := ["world"]
theorem sc_begin_place : FnScope N_begin_place P_begin_place (defScope s_begin_place) := ⟨rfl, rfl, rfl, by decide +kernel, rfl, by decide +kernel, by decide +kernel⟩
abbrev s_choices : Stmt := topS 28
abbrev N_choices : List Str := ["world", "place", "sound", "count"]
abbrev P_choices : List Str := ["world", "place"]
theorem sc_choices : FnScope N_choices P_choices (defScope s_choices) := ⟨rfl, rfl, rfl, by decide +kernel, rfl, by decide +kernel, by decide +kernel⟩
abbrev s_next_place : Stmt := topS 29
abbrev N_next_place : List Str := ["world", "place", "sound"]
abbrev P_next_place : List Str := ["world", "place", "sound"]
theorem sc_next_place : FnScope N_next_place P_next_place (defScope s_next_place) := ⟨rfl, rfl, rfl, by decide +kernel, rfl, by decide +kernel, by decide +kernel⟩
abbrev s_may_end : Stmt := topS 30
abbrev N_may_end : List Str := ["world", "place"]
abbrev P_may_end : List Str := ["world", "place"]
theorem sc_may_end : FnScope N_may_end P_may_end (defScope s_may_end) := ⟨rfl, rfl, rfl, by decide +kernel, rfl, by decide +kernel, by decide +kernel⟩
abbrev s_sounds_in : Stmt := topS 31
abbrev N_sounds_in : List Str := ["ticks", "many", "at", "sound"]
abbrev P_sounds_in : List Str := ["ticks"]
theorem sc_sounds_in : FnScope N_sounds_in P_sounds_in (defScope s_sounds_in) := ⟨rfl, rfl, rfl, by decide +kernel, rfl, by decide +kernel, by decide +kernel⟩
abbrev s_joins : Stmt := topS 32
abbrev N_joins : List Str := ["stand", "sound", "many"]
abbrev P_joins : List Str := ["stand", "sound", "many"]
theorem sc_joins : FnScope N_joins P_joins (defScope s_joins) := ⟨rfl, rfl, rfl, by decide +kernel, rfl, by decide +kernel, by decide +kernel⟩
abbrev s_watched : Stmt := topS 33
abbrev N_watched : List Str := ["watch", "sound", "stand", "there", "kept", "on", "length", "gap", "first", "last", "many", "here"]
abbrev P_watched : List Str := ["watch", "sound", "stand", "there", "kept"]
theorem sc_watched : FnScope N_watched P_watched (defScope s_watched) := ⟨rfl, rfl, rfl, by decide +kernel, rfl, by decide +kernel, by decide +kernel⟩
abbrev s_started : Stmt := topS 34
abbrev N_started : List Str := ["sound", "stand", "there", "kept"]
abbrev P_started : List Str := ["sound", "stand", "there", "kept"]
theorem sc_started : FnScope N_started P_started (defScope s_started) := ⟨rfl, rfl, rfl, by decide +kernel, rfl, by decide +kernel, by decide +kernel⟩
abbrev s_is_harmed : Stmt := topS 35
abbrev N_is_harmed : List Str := ["watch", "harm", "on", "length", "gap", "first", "last", "many", "here"]
abbrev P_is_harmed : List Str := ["watch", "harm"]
theorem sc_is_harmed : FnScope N_is_harmed P_is_harmed (defScope s_is_harmed) := ⟨rfl, rfl, rfl, by decide +kernel, rfl, by decide +kernel, by decide +kernel⟩
abbrev s_notes_behind : Stmt := topS 36
abbrev N_notes_behind : List Str := ["note", "place", "sound", "stand", "there", "kept", "found"]
abbrev P_notes_behind : List Str := ["note", "place", "sound", "stand", "there", "kept"]
theorem sc_notes_behind : FnScope N_notes_behind P_notes_behind (defScope s_notes_behind) := ⟨rfl, rfl, rfl, by decide +kernel, rfl, by decide +kernel, by decide +kernel⟩
abbrev s_joined_behind : Stmt := topS 37
abbrev N_joined_behind : List Str := ["note", "sound", "stand", "there", "kept", "many"]
abbrev P_joined_behind : List Str := ["note", "sound", "stand", "there", "kept"]
theorem sc_joined_behind : FnScope N_joined_behind P_joined_behind (defScope s_joined_behind) := ⟨rfl, rfl, rfl, by decide +kernel, rfl, by decide +kernel, by decide +kernel⟩
abbrev s_first_by : Stmt := topS 38
abbrev N_first_by : List Str := ["plan", "harm", "recorder", "world", "first", "found", "waiting", "at", "place", "stand", "note", "row", "sound", "there", "kept", "notes", "more", "state"]
abbrev P_first_by : List Str := ["plan", "harm"]
theorem sc_first_by : FnScope N_first_by P_first_by (defScope s_first_by) := ⟨rfl, rfl, rfl, by decide +kernel, rfl, by decide +kernel, by decide +kernel⟩
abbrev s_with_part : Stmt := topS 40
abbrev N_with_part : List Str := ["plan", "place", "number", "recorder"]
abbrev P_with_part : List Str := ["plan", "place", "number"]
theorem sc_with_part : FnScope N_with_part P_with_part (defScope s_with_part) := ⟨rfl, rfl, rfl, by decide +kernel, rfl, by decide +kernel, by decide +kernel⟩
abbrev s_is_good : Stmt := topS 41
abbrev N_is_good : List Str := ["plan", "wishes", "harm"]
abbrev P_is_good : List Str := ["plan", "wishes"]
theorem sc_is_good : FnScope N_is_good P_is_good (defScope s_is_good) := ⟨rfl, rfl, rfl, by decide +kernel, rfl, by decide +kernel, by decide +kernel⟩
abbrev s_good_values : Stmt := topS 42
abbrev N_good_values : List Str := ["plan", "part", "wishes", "place", "number"]
abbrev P_good_values : List Str := ["plan", "part", "wishes"]
theorem sc_good_values : FnScope N_good_values P_good_values (defScope s_good_values) := ⟨rfl, rfl, rfl, by decide +kernel, rfl, by decide +kernel, by decide +kernel⟩
abbrev s_f_law_spring : Stmt := topS 44
abbrev N_f_law_spring : List Str := ["script", "at", "cell", "mixed"]
abbrev P_f_law_spring : List Str := ["script", "at"]
theorem sc_f_law_spring : FnScope N_f_law_spring P_f_law_spring (defScope s_f_law_spring) := ⟨rfl, rfl, rfl, by decide +kernel, rfl, by decide +kernel, by decide +kernel⟩
abbrev s_f_law_pick : Stmt := topS 45
abbrev N_f_law_pick : List Str := ["spring", "many", "digit"]
abbrev P_f_law_pick : List Str := ["spring", "many"]
theorem sc_f_law_pick : FnScope N_f_law_pick P_f_law_pick (defScope s_f_law_pick) := ⟨rfl, rfl, rfl, by decide +kernel, rfl, by decide +kernel, by decide +kernel⟩
abbrev s_f_law_kind : Stmt := topS 46
abbrev N_f_law_kind : List Str := ["value"]
abbrev P_f_law_kind : List Str := ["value"]
theorem sc_f_law_kind : FnScope N_f_law_kind P_f_law_kind (defScope s_f_law_kind) := ⟨rfl, rfl, rfl, by decide +kernel, rfl, by decide +kernel, by decide +kernel⟩
abbrev s_f_law_twins : Stmt := topS 47
abbrev N_f_law_twins : List Str := ["one", "other", "a", "b"]
abbrev P_f_law_twins : List Str := ["one", "other"]
theorem sc_f_law_twins : FnScope N_f_law_twins P_f_law_twins (defScope s_f_law_twins) := ⟨rfl, rfl, rfl, by decide +kernel, rfl, by decide +kernel, by decide +kernel⟩
abbrev s_f_law_recorder : Stmt := topS 48
abbrev N_f_law_recorder : List Str := ["spring", "need", "ahead", "most"]
abbrev P_f_law_recorder : List Str := ["spring"]
theorem sc_f_law_recorder : FnScope N_f_law_recorder P_f_law_recorder (defScope s_f_law_recorder) := ⟨rfl, rfl, rfl, by decide +kernel, rfl, by decide +kernel, by decide +kernel⟩
abbrev s_f_law_world : Stmt := topS 49
abbrev N_f_law_world : List Str := ["spring", "least", "greatest"]
abbrev P_f_law_world : List Str := ["spring"]
theorem sc_f_law_world : FnScope N_f_law_world P_f_law_world (defScope s_f_law_world) := ⟨rfl, rfl, rfl, by decide +kernel, rfl, by decide +kernel, by decide +kernel⟩
abbrev s_f_law_tick : Stmt := topS 50
abbrev N_f_law_tick : List Str := ["recorder", "stand", "sound", "need", "ahead", "hush", "most", "rest", "mode", "count", "quiet", "heard", "calm", "kept"]
abbrev P_f_law_tick : List Str := ["recorder", "stand", "sound"]
theorem sc_f_law_tick : FnScope N_f_law_tick P_f_law_tick (defScope s_f_law_tick) := ⟨rfl, rfl, rfl, by decide +kernel, rfl, by decide +kernel, by decide +kernel⟩
abbrev s_f_law_more : Stmt := topS 51
abbrev N_f_law_more : List Str := ["world", "place", "sound", "many", "one"]
abbrev P_f_law_more : List Str := ["world", "place"]
theorem sc_f_law_more : FnScope N_f_law_more P_f_law_more (defScope s_f_law_more) := ⟨rfl, rfl, rfl, by decide +kernel, rfl, by decide +kernel, by decide +kernel⟩
abbrev s_f_law_on : Stmt := topS 52
abbrev N_f_law_on : List Str := ["world", "place", "sound"]
abbrev P_f_law_on : List Str := ["world", "place", "sound"]
theorem sc_f_law_on : FnScope N_f_law_on P_f_law_on (defScope s_f_law_on) := ⟨rfl, rfl, rfl, by decide +kernel, rfl, by decide +kernel, by decide +kernel⟩
abbrev s_f_law_noted : Stmt := topS 53
abbrev N_f_law_noted : List Str := ["note", "stand", "there", "sound", "kept", "old", "gap", "first", "last", "many", "here"]
abbrev P_f_law_noted : List Str := ["note", "stand", "there", "sound", "kept"]
theorem sc_f_law_noted : FnScope N_f_law_noted P_f_law_noted (defScope s_f_law_noted) := ⟨rfl, rfl, rfl, by decide +kernel, rfl, by decide +kernel, by decide +kernel⟩
abbrev s_f_law_bad : Stmt := topS 54
abbrev N_f_law_bad : List Str := ["note", "harm", "old", "gap", "first", "last", "many", "here"]
abbrev P_f_law_bad : List Str := ["note", "harm"]
theorem sc_f_law_bad : FnScope N_f_law_bad P_f_law_bad (defScope s_f_law_bad) := ⟨rfl, rfl, rfl, by decide +kernel, rfl, by decide +kernel, by decide +kernel⟩
abbrev s_f_law_groups : Stmt := topS 55
abbrev N_f_law_groups : List Str := ["ticks", "at"]
abbrev P_f_law_groups : List Str := ["ticks"]
theorem sc_f_law_groups : FnScope N_f_law_groups P_f_law_groups (defScope s_f_law_groups) := ⟨rfl, rfl, rfl, by decide +kernel, rfl, by decide +kernel, by decide +kernel⟩
abbrev s_f_law_after_note : Stmt := topS 56
abbrev N_f_law_after_note : List Str := ["harm", "note", "place", "stand", "there", "sound", "kept", "fresh", "many"]
abbrev P_f_law_after_note : List Str := ["harm", "note", "place", "stand", "there", "sound", "kept"]
theorem sc_f_law_after_note : FnScope N_f_law_after_note P_f_law_after_note (defScope s_f_law_after_note) := ⟨rfl, rfl, rfl, by decide +kernel, rfl, by decide +kernel, by decide +kernel⟩
abbrev s_f_law_first : Stmt := topS 57
abbrev N_f_law_first : List Str := ["plan", "harm", "recorder", "world", "begin", "met", "queue", "at", "place", "stand", "note", "row", "sound", "there", "kept", "more", "state"]
abbrev P_f_law_first : List Str := ["plan", "harm"]
theorem sc_f_law_first : FnScope N_f_law_first P_f_law_first (defScope s_f_law_first) := ⟨rfl, rfl, rfl, by decide +kernel, rfl, by decide +kernel, by decide +kernel⟩
abbrev s_f_law_lets : Stmt := topS 58
abbrev N_f_law_lets : List Str := ["recorder", "need", "ahead", "hush", "most", "rest"]
abbrev P_f_law_lets : List Str := ["recorder"]
theorem sc_f_law_lets : FnScope N_f_law_lets P_f_law_lets (defScope s_f_law_lets) := ⟨rfl, rfl, rfl, by decide +kernel, rfl, by decide +kernel, by decide +kernel⟩
abbrev s_law : Stmt := topS 59
abbrev N_law : List Str := ["script", "parts", "at", "spring", "recorder", "world", "turn", "place", "some", "due", "number", "other", "bad", "harm"]
abbrev P_law : List Str := ["script"]
theorem sc_law : FnScope N_law P_law (defScope s_law) := ⟨rfl, rfl, rfl, by decide +kernel, rfl, by decide +kernel, by decide +kernel⟩
/-- what the top has left -/
structure Txt (K : PySem.W.Frag) (mg : Str → Option Value) (fs : Nat → Addr) (fds : Nat → FuncData) (us : Nat → Value) : Prop where
  f_is_within : Fun K "is_within" "is_within" s_is_within (fs 12) (fds 12)
  m_is_within : mg "is_within" = some (.ref (fs 12))
  b_is_within : Binds K (fds 12) P_is_within []
  f_is_row_of : Fun K "is_row_of" "is_row_of" s_is_row_of (fs 13) (fds 13)
  m_is_row_of : mg "is_row_of" = some (.ref (fs 13))
  b_is_row_of : Binds K (fds 13) P_is_row_of []
  f_is_recorder : Fun K "is_recorder" "is_recorder" s_is_recorder (fs 14) (fds 14)
  m_is_recorder : mg "is_recorder" = some (.ref (fs 14))
  b_is_recorder : Binds K (fds 14) P_is_recorder []
  f_is_world : Fun K "is_world" "is_world" s_is_world (fs 15) (fds 15)
  m_is_world : mg "is_world" = some (.ref (fs 15))
  b_is_world : Binds K (fds 15) P_is_world []
  f_is_plan : Fun K "is_plan" "is_plan" s_is_plan (fs 16) (fds 16)
  m_is_plan : mg "is_plan" = some (.ref (fs 16))
  b_is_plan : Binds K (fds 16) P_is_plan []
  f_look_at_plan : Fun K "look_at_plan" "look_at_plan" s_look_at_plan (fs 17) (fds 17)
  m_look_at_plan : mg "look_at_plan" = some (.ref (fs 17))
  b_look_at_plan : Binds K (fds 17) P_look_at_plan []
  f_look_at_harm : Fun K "look_at_harm" "look_at_harm" s_look_at_harm (fs 18) (fds 18)
  m_look_at_harm : mg "look_at_harm" = some (.ref (fs 18))
  b_look_at_harm : Binds K (fds 18) P_look_at_harm []
  f_look_at_wishes : Fun K "look_at_wishes" "look_at_wishes" s_look_at_wishes (fs 19) (fds 19)
  m_look_at_wishes : mg "look_at_wishes" = some (.ref (fs 19))
  b_look_at_wishes : Binds K (fds 19) P_look_at_wishes []
  f_look_at_part : Fun K "look_at_part" "look_at_part" s_look_at_part (fs 20) (fds 20)
  m_look_at_part : mg "look_at_part" = some (.ref (fs 20))
  b_look_at_part : Binds K (fds 20) P_look_at_part []
  f_ended : Fun K "ended" "ended" s_ended (fs 22) (fds 22)
  m_ended : mg "ended" = some (.ref (fs 22))
  b_ended : Binds K (fds 22) P_ended []
  f_step : Fun K "step" "step" s_step (fs 23) (fds 23)
  m_step : mg "step" = some (.ref (fs 23))
  b_step : Binds K (fds 23) P_step []
  f_begin_place : Fun K "begin_place" "begin_place" s_begin_place (fs 27) (fds 27)
  m_begin_place : mg "begin_place" = some (.ref (fs 27))
  b_begin_place : Binds K (fds 27) P_begin_place []
  f_choices : Fun K "choices" "choices" s_choices (fs 28) (fds 28)
  m_choices : mg "choices" = some (.ref (fs 28))
  b_choices : Binds K (fds 28) P_choices []
  f_next_place : Fun K "next_place" "next_place" s_next_place (fs 29) (fds 29)
  m_next_place : mg "next_place" = some (.ref (fs 29))
  b_next_place : Binds K (fds 29) P_next_place []
  f_may_end : Fun K "may_end" "may_end" s_may_end (fs 30) (fds 30)
  m_may_end : mg "may_end" = some (.ref (fs 30))
  b_may_end : Binds K (fds 30) P_may_end []
  f_sounds_in : Fun K "sounds_in" "sounds_in" s_sounds_in (fs 31) (fds 31)
  m_sounds_in : mg "sounds_in" = some (.ref (fs 31))
  b_sounds_in : Binds K (fds 31) P_sounds_in []
  f_joins : Fun K "joins" "joins" s_joins (fs 32) (fds 32)
  m_joins : mg "joins" = some (.ref (fs 32))
  b_joins : Binds K (fds 32) P_joins []
  f_watched : Fun K "watched" "watched" s_watched (fs 33) (fds 33)
  m_watched : mg "watched" = some (.ref (fs 33))
  b_watched : Binds K (fds 33) P_watched []
  f_started : Fun K "started" "started" s_started (fs 34) (fds 34)
  m_started : mg "started" = some (.ref (fs 34))
  b_started : Binds K (fds 34) P_started []
  f_is_harmed : Fun K "is_harmed" "is_harmed" s_is_harmed (fs 35) (fds 35)
  m_is_harmed : mg "is_harmed" = some (.ref (fs 35))
  b_is_harmed : Binds K (fds 35) P_is_harmed []
  f_notes_behind : Fun K "notes_behind" "notes_behind" s_notes_behind (fs 36) (fds 36)
  m_notes_behind : mg "notes_behind" = some (.ref (fs 36))
  b_notes_behind : Binds K (fds 36) P_notes_behind []
  f_joined_behind : Fun K "joined_behind" "joined_behind" s_joined_behind (fs 37) (fds 37)
  m_joined_behind : mg "joined_behind" = some (.ref (fs 37))
  b_joined_behind : Binds K (fds 37) P_joined_behind []
  f_first_by : Fun K "first_by" "first_by" s_first_by (fs 38) (fds 38)
  m_first_by : mg "first_by" = some (.ref (fs 38))
  b_first_by : Binds K (fds 38) P_first_by []
  f_with_part : Fun K "with_part" "with_part" s_with_part (fs 40) (fds 40)
  m_with_part : mg "with_part" = some (.ref (fs 40))
  b_with_part : Binds K (fds 40) P_with_part []
  f_is_good : Fun K "is_good" "is_good" s_is_good (fs 41) (fds 41)
  m_is_good : mg "is_good" = some (.ref (fs 41))
  b_is_good : Binds K (fds 41) P_is_good []
  f_good_values : Fun K "good_values" "good_values" s_good_values (fs 42) (fds 42)
  m_good_values : mg "good_values" = some (.ref (fs 42))
  b_good_values : Binds K (fds 42) P_good_values []
  f_f_law_spring : Fun K "_law_spring" "_law_spring" s_f_law_spring (fs 44) (fds 44)
  m_f_law_spring : mg "_law_spring" = some (.ref (fs 44))
  b_f_law_spring : Binds K (fds 44) P_f_law_spring []
  f_f_law_pick : Fun K "_law_pick" "_law_pick" s_f_law_pick (fs 45) (fds 45)
  m_f_law_pick : mg "_law_pick" = some (.ref (fs 45))
  b_f_law_pick : Binds K (fds 45) P_f_law_pick []
  f_f_law_kind : Fun K "_law_kind" "_law_kind" s_f_law_kind (fs 46) (fds 46)
  m_f_law_kind : mg "_law_kind" = some (.ref (fs 46))
  b_f_law_kind : Binds K (fds 46) P_f_law_kind []
  f_f_law_twins : Fun K "_law_twins" "_law_twins" s_f_law_twins (fs 47) (fds 47)
  m_f_law_twins : mg "_law_twins" = some (.ref (fs 47))
  b_f_law_twins : Binds K (fds 47) P_f_law_twins []
  f_f_law_recorder : Fun K "_law_recorder" "_law_recorder" s_f_law_recorder (fs 48) (fds 48)
  m_f_law_recorder : mg "_law_recorder" = some (.ref (fs 48))
  b_f_law_recorder : Binds K (fds 48) P_f_law_recorder []
  f_f_law_world : Fun K "_law_world" "_law_world" s_f_law_world (fs 49) (fds 49)
  m_f_law_world : mg "_law_world" = some (.ref (fs 49))
  b_f_law_world : Binds K (fds 49) P_f_law_world []
  f_f_law_tick : Fun K "_law_tick" "_law_tick" s_f_law_tick (fs 50) (fds 50)
  m_f_law_tick : mg "_law_tick" = some (.ref (fs 50))
  b_f_law_tick : Binds K (fds 50) P_f_law_tick []
  f_f_law_more : Fun K "_law_more" "_law_more" s_f_law_more (fs 51) (fds 51)
  m_f_law_more : mg "_law_more" = some (.ref (fs 51))
  b_f_law_more : Binds K (fds 51) P_f_law_more []
  f_f_law_on : Fun K "_law_on" "_law_on" s_f_law_on (fs 52) (fds 52)
  m_f_law_on : mg "_law_on" = some (.ref (fs 52))
  b_f_law_on : Binds K (fds 52) P_f_law_on []
  f_f_law_noted : Fun K "_law_noted" "_law_noted" s_f_law_noted (fs 53) (fds 53)
  m_f_law_noted : mg "_law_noted" = some (.ref (fs 53))
  b_f_law_noted : Binds K (fds 53) P_f_law_noted []
  f_f_law_bad : Fun K "_law_bad" "_law_bad" s_f_law_bad (fs 54) (fds 54)
  m_f_law_bad : mg "_law_bad" = some (.ref (fs 54))
  b_f_law_bad : Binds K (fds 54) P_f_law_bad []
  f_f_law_groups : Fun K "_law_groups" "_law_groups" s_f_law_groups (fs 55) (fds 55)
  m_f_law_groups : mg "_law_groups" = some (.ref (fs 55))
  b_f_law_groups : Binds K (fds 55) P_f_law_groups []
  f_f_law_after_note : Fun K "_law_after_note" "_law_after_note" s_f_law_after_note (fs 56) (fds 56)
  m_f_law_after_note : mg "_law_after_note" = some (.ref (fs 56))
  b_f_law_after_note : Binds K (fds 56) P_f_law_after_note []
  f_f_law_first : Fun K "_law_first" "_law_first" s_f_law_first (fs 57) (fds 57)
  m_f_law_first : mg "_law_first" = some (.ref (fs 57))
  b_f_law_first : Binds K (fds 57) P_f_law_first []
  f_f_law_lets : Fun K "_law_lets" "_law_lets" s_f_law_lets (fs 58) (fds 58)
  m_f_law_lets : mg "_law_lets" = some (.ref (fs 58))
  b_f_law_lets : Binds K (fds 58) P_f_law_lets []
  f_law : Fun K "law" "law" s_law (fs 59) (fds 59)
  m_law : mg "law" = some (.ref (fs 59))
  b_law : Binds K (fds 59) P_law []
  n_abs : mg "abs" = none
  n_all : mg "all" = none
  n_bool : mg "bool" = none
  n_enumerate : mg "enumerate" = none
  n_int : mg "int" = none
  n_isinstance : mg "isinstance" = none
  n_len : mg "len" = none
  n_list : mg "list" = none
  n_max : mg "max" = none
  n_min : mg "min" = none
  n_range : mg "range" = none
  n_set : mg "set" = none
  n_sorted : mg "sorted" = none
  n_str : mg "str" = none
  n_sum : mg "sum" = none
  n_tuple : mg "tuple" = none
  n_zip : mg "zip" = none
  c_AWAKE : mg "AWAKE" = some (us 6)
  r_AWAKE : ∃ v, RelV v (us 6) ∧ ∀ H, Dp K H v cst_AWAKE
  c_RECORDS : mg "RECORDS" = some (us 7)
  r_RECORDS : ∃ v, RelV v (us 7) ∧ ∀ H, Dp K H v cst_RECORDS
  c_SLEEPS : mg "SLEEPS" = some (us 8)
  r_SLEEPS : ∃ v, RelV v (us 8) ∧ ∀ H, Dp K H v cst_SLEEPS
  c_FRESH : mg "FRESH" = some (us 9)
  r_FRESH : ∃ v, RelV v (us 9) ∧ ∀ H, Dp K H v cst_FRESH
  c_HARMS : mg "HARMS" = some (us 10)
  r_HARMS : ∃ v, RelV v (us 10) ∧ ∀ H, Dp K H v cst_HARMS
  c_PARTS : mg "PARTS" = some (us 11)
  r_PARTS : ∃ v, RelV v (us 11) ∧ ∀ H, Dp K H v cst_PARTS
  t_PARTS : TupK K (us 11)
  c_FAR : mg "FAR" = some (us 25)
  r_FAR : ∃ v, RelV v (us 25) ∧ ∀ H, Dp K H v cst_FAR
  c_UNWATCHED : mg "UNWATCHED" = some (us 26)
  r_UNWATCHED : ∃ v, RelV v (us 26) ∧ ∀ H, Dp K H v cst_UNWATCHED
section
variable {P : Program} {w : World} {K : PySem.W.Frag} {mg : Str → Option Value} {base : Heap} {fs : Nat → Addr} {fds : Nat → FuncData} {us : Nat → Value}
def g_is_within : MS := S.ret (M.andV (M.op1 (isD tInt) (M.var 0)) (M.andV (M.op1 notD (M.op1 (isD tBool) (M.var 0))) (M.chain leD leD (M.var 1) (M.var 0) (M.var 2))))
def F_is_within (lvs : List LV) : FR := runF 3 3 none g_is_within lvs
theorem ok_is_within (T : Txt K mg fs fds us) : FnOk P w K mg base CX0 1 (fs 12) (fds 12) P_is_within (spF K none F_is_within) :=
  fn_pd (io := none) (k := 0) T.f_is_within sc_is_within (by decide) (fun cdv A outer s H E C hr hio hw => (have hu : A.units + 3 + 64 < cLine := hr.units
      (pds_one (pd_ret (pd_and (pd_isi k_int T.n_isinstance T.n_int (by decide +kernel) (pd_var 0)) (pd_and (pd_not (pd_isi k_bool T.n_isinstance T.n_bool (by decide +kernel) (pd_var 0))) (pd_one (pd_lele (pd_var 1) (pd_var 0) (pd_var 2)))))))))
def g_is_row_of : MS := S.ret (M.andV (M.op1 (isD tTuple) (M.var 0)) (M.op2 eqDD (M.call lenD (M.argD (M.var 0) (M.argN))) (M.var 1)))
def F_is_row_of (lvs : List LV) : FR := runF 2 2 none g_is_row_of lvs
theorem ok_is_row_of (T : Txt K mg fs fds us) : FnOk P w K mg base CX0 1 (fs 13) (fds 13) P_is_row_of (spF K none F_is_row_of) :=
  fn_pd (io := none) (k := 0) T.f_is_row_of sc_is_row_of (by decide) (fun cdv A outer s H E C hr hio hw => (have hu : A.units + 3 + 64 < cLine := hr.units
      (pds_one (pd_ret (pd_and (pd_isi k_tuple T.n_isinstance T.n_tuple (by decide +kernel) (pd_var 0)) (pd_one (pd_eq hu (pd_len T.n_len (pda_cons (pd_var 0) (pda_nil))) (pd_var 1))))))))
def g_is_recorder : MS := S.seq (S.ite (M.orT (M.notT (M.test (M.fn none (F_is_row_of) (M.argD (M.var 0) (M.argD (M.ret (PyData.int 5)) (M.argN)))))) (M.orT (M.notT (M.test (M.fn none (F_is_within) (M.argD (M.op2 ixD (M.var 0) (M.ret (PyData.int 0))) (M.argD (M.ret (PyData.int 1)) (M.argD (M.ret (PyData.int 3)) (M.argN))))))) (M.notT (M.test (M.fn none (F_is_within) (M.argD (M.op2 ixD (M.var 0) (M.ret (PyData.int 1))) (M.argD (M.ret (PyData.int 0)) (M.argD (M.ret (PyData.int 3)) (M.argN))))))))) (S.ret (M.ret (PyData.bool false))) (S.nil))
    (S.seq (S.ite (M.orT (M.notT (M.test (M.fn none (F_is_within) (M.argD (M.op2 ixD (M.var 0) (M.ret (PyData.int 2))) (M.argD (M.ret (PyData.int 1)) (M.argD (M.ret (PyData.int 3)) (M.argN))))))) (M.notT (M.test (M.fn none (F_is_within) (M.argD (M.op2 ixD (M.var 0) (M.ret (PyData.int 4))) (M.argD (M.ret (PyData.int 0)) (M.argD (M.ret (PyData.int 3)) (M.argN)))))))) (S.ret (M.ret (PyData.bool false))) (S.nil))
    (S.ret (M.fn none (F_is_within) (M.argD (M.op2 ixD (M.var 0) (M.ret (PyData.int 3))) (M.argD (M.op2 addD (M.op2 ixD (M.var 0) (M.ret (PyData.int 0))) (M.op2 ixD (M.var 0) (M.ret (PyData.int 1)))) (M.argD (M.ret (PyData.int 10)) (M.argN)))))))
def F_is_recorder (lvs : List LV) : FR := runF 1 1 none g_is_recorder lvs
theorem ok_is_recorder (T : Txt K mg fs fds us) : FnOk P w K mg base CX0 2 (fs 14) (fds 14) P_is_recorder (spF K none F_is_recorder) :=
  fn_pd (io := none) (k := 1) T.f_is_recorder sc_is_recorder (by decide) (fun cdv A outer s H E C hr hio hw => (have hu : A.units + 3 + 64 < cLine := hr.units
      (pds_cons (pd_ifS (pdt_w (pdw_or (pdt_not (pdt_val (pd_fn (ok_is_row_of T) (hr.mono (by omega)) T.m_is_row_of T.f_is_row_of.kp T.b_is_row_of (pda_cons (pd_var 0) (pda_cons (pd_int) (pda_nil)))))) (pdw_or (pdt_not (pdt_val (pd_fn (ok_is_within T) (hr.mono (by omega)) T.m_is_within T.f_is_within.kp T.b_is_within (pda_cons (pd_sub_ (pd_var 0) (pd_int) (fun _ _ => rfl)) (pda_cons (pd_int) (pda_cons (pd_int) (pda_nil))))))) (pdw_or1 (pdt_not (pdt_val (pd_fn (ok_is_within T) (hr.mono (by omega)) T.m_is_within T.f_is_within.kp T.b_is_within (pda_cons (pd_sub_ (pd_var 0) (pd_int) (fun _ _ => rfl)) (pda_cons (pd_int) (pda_cons (pd_int) (pda_nil))))))))))) (pds_one (pd_ret (pd_bl))) (pds_nil))
      (pds_cons (pd_ifS (pdt_w (pdw_or (pdt_not (pdt_val (pd_fn (ok_is_within T) (hr.mono (by omega)) T.m_is_within T.f_is_within.kp T.b_is_within (pda_cons (pd_sub_ (pd_var 0) (pd_int) (fun _ _ => rfl)) (pda_cons (pd_int) (pda_cons (pd_int) (pda_nil))))))) (pdw_or1 (pdt_not (pdt_val (pd_fn (ok_is_within T) (hr.mono (by omega)) T.m_is_within T.f_is_within.kp T.b_is_within (pda_cons (pd_sub_ (pd_var 0) (pd_int) (fun _ _ => rfl)) (pda_cons (pd_int) (pda_cons (pd_int) (pda_nil)))))))))) (pds_one (pd_ret (pd_bl))) (pds_nil))
      (pds_one (pd_ret (pd_fn (ok_is_within T) (hr.mono (by omega)) T.m_is_within T.f_is_within.kp T.b_is_within (pda_cons (pd_sub_ (pd_var 0) (pd_int) (fun _ _ => rfl)) (pda_cons (pd_add (pd_sub_ (pd_var 0) (pd_int) (fun _ _ => rfl)) (pd_sub_ (pd_var 0) (pd_int) (fun _ _ => rfl))) (pda_cons (pd_int) (pda_nil)))))))))))
def g_is_world : MS := S.seq (S.ite (M.orT (M.notT (M.test (M.fn none (F_is_row_of) (M.argD (M.var 0) (M.argD (M.ret (PyData.int 3)) (M.argN)))))) (M.orT (M.notT (M.test (M.fn none (F_is_within) (M.argD (M.op2 ixD (M.var 0) (M.ret (PyData.int 0))) (M.argD (M.ret (PyData.int 1)) (M.argD (M.ret (PyData.int 12)) (M.argN))))))) (M.notT (M.test (M.fn none (F_is_within) (M.argD (M.op2 ixD (M.var 0) (M.ret (PyData.int 1))) (M.argD (M.op2 ixD (M.var 0) (M.ret (PyData.int 0))) (M.argD (M.ret (PyData.int 12)) (M.argN))))))))) (S.ret (M.ret (PyData.bool false))) (S.nil))
    (S.ret (M.fn none (F_is_within) (M.argD (M.op2 ixD (M.var 0) (M.ret (PyData.int 2))) (M.argD (M.ret (PyData.int 1)) (M.argD (M.ret (PyData.int 4)) (M.argN))))))
def F_is_world (lvs : List LV) : FR := runF 1 1 none g_is_world lvs
theorem ok_is_world (T : Txt K mg fs fds us) : FnOk P w K mg base CX0 2 (fs 15) (fds 15) P_is_world (spF K none F_is_world) :=
  fn_pd (io := none) (k := 1) T.f_is_world sc_is_world (by decide) (fun cdv A outer s H E C hr hio hw => (have hu : A.units + 3 + 64 < cLine := hr.units
      (pds_cons (pd_ifS (pdt_w (pdw_or (pdt_not (pdt_val (pd_fn (ok_is_row_of T) (hr.mono (by omega)) T.m_is_row_of T.f_is_row_of.kp T.b_is_row_of (pda_cons (pd_var 0) (pda_cons (pd_int) (pda_nil)))))) (pdw_or (pdt_not (pdt_val (pd_fn (ok_is_within T) (hr.mono (by omega)) T.m_is_within T.f_is_within.kp T.b_is_within (pda_cons (pd_sub_ (pd_var 0) (pd_int) (fun _ _ => rfl)) (pda_cons (pd_int) (pda_cons (pd_int) (pda_nil))))))) (pdw_or1 (pdt_not (pdt_val (pd_fn (ok_is_within T) (hr.mono (by omega)) T.m_is_within T.f_is_within.kp T.b_is_within (pda_cons (pd_sub_ (pd_var 0) (pd_int) (fun _ _ => rfl)) (pda_cons (pd_sub_ (pd_var 0) (pd_int) (fun _ _ => rfl)) (pda_cons (pd_int) (pda_nil))))))))))) (pds_one (pd_ret (pd_bl))) (pds_nil))
      (pds_one (pd_ret (pd_fn (ok_is_within T) (hr.mono (by omega)) T.m_is_within T.f_is_within.kp T.b_is_within (pda_cons (pd_sub_ (pd_var 0) (pd_int) (fun _ _ => rfl)) (pda_cons (pd_int) (pda_cons (pd_int) (pda_nil))))))))))
def g_is_plan : MS := S.ret (M.andV (M.fn none (F_is_row_of) (M.argD (M.var 0) (M.argD (M.ret (PyData.int 2)) (M.argN)))) (M.andV (M.fn none (F_is_recorder) (M.argD (M.op2 ixD (M.var 0) (M.ret (PyData.int 0))) (M.argN))) (M.fn none (F_is_world) (M.argD (M.op2 ixD (M.var 0) (M.ret (PyData.int 1))) (M.argN)))))
def F_is_plan (lvs : List LV) : FR := runF 1 1 none g_is_plan lvs
theorem ok_is_plan (T : Txt K mg fs fds us) : FnOk P w K mg base CX0 3 (fs 16) (fds 16) P_is_plan (spF K none F_is_plan) :=
  fn_pd (io := none) (k := 2) T.f_is_plan sc_is_plan (by decide) (fun cdv A outer s H E C hr hio hw => (have hu : A.units + 3 + 64 < cLine := hr.units
      (pds_one (pd_ret (pd_and (pd_fn (ok_is_row_of T) (hr.mono (by omega)) T.m_is_row_of T.f_is_row_of.kp T.b_is_row_of (pda_cons (pd_var 0) (pda_cons (pd_int) (pda_nil)))) (pd_and (pd_fn (ok_is_recorder T) (hr.mono (by omega)) T.m_is_recorder T.f_is_recorder.kp T.b_is_recorder (pda_cons (pd_sub_ (pd_var 0) (pd_int) (fun _ _ => rfl)) (pda_nil))) (pd_one (pd_fn (ok_is_world T) (hr.mono (by omega)) T.m_is_world T.f_is_world.kp T.b_is_world (pda_cons (pd_sub_ (pd_var 0) (pd_int) (fun _ _ => rfl)) (pda_nil))))))))))
def g_look_at_plan : MS := S.ite (M.notT (M.test (M.fn none (F_is_plan) (M.argD (M.var 0) (M.argN))))) (S.never) (S.nil)
def F_look_at_plan (lvs : List LV) : FR := runF 1 1 none g_look_at_plan lvs
theorem ok_look_at_plan (T : Txt K mg fs fds us) : FnOk P w K mg base CX0 4 (fs 17) (fds 17) P_look_at_plan (spF K none F_look_at_plan) :=
  fn_pd (io := none) (k := 3) T.f_look_at_plan sc_look_at_plan (by decide) (fun cdv A outer s H E C hr hio hw => (have hu : A.units + 3 + 64 < cLine := hr.units
      (pds_one (pd_ifS (pdt_not (pdt_val (pd_fn (ok_is_plan T) (hr.mono (by omega)) T.m_is_plan T.f_is_plan.kp T.b_is_plan (pda_cons (pd_var 0) (pda_nil))))) (pds_one (pd_never)) (pds_nil)))))
def g_look_at_harm : MS := S.ite (M.orT (M.notT (M.test (M.op1 (isD tStr) (M.var 0)))) (M.test (M.op2 notInDD (M.var 0) (M.ret cst_HARMS)))) (S.never) (S.nil)
def F_look_at_harm (lvs : List LV) : FR := runF 1 1 none g_look_at_harm lvs
theorem ok_look_at_harm (T : Txt K mg fs fds us) : FnOk P w K mg base CX0 1 (fs 18) (fds 18) P_look_at_harm (spF K none F_look_at_harm) :=
  fn_pd (io := none) (k := 0) T.f_look_at_harm sc_look_at_harm (by decide) (fun cdv A outer s H E C hr hio hw => (have hu : A.units + 3 + 64 < cLine := hr.units
      (pds_one (pd_ifS (pdt_w (pdw_or (pdt_not (pdt_val (pd_isi k_str T.n_isinstance T.n_str (by decide +kernel) (pd_var 0)))) (pdw_or1 (pdt_notIn (by rfl) (pd_var 0) (pd_const T.c_HARMS T.r_HARMS))))) (pds_one (pd_never)) (pds_nil)))))
def B_look_at_wishes_1 : MS := S.drop (M.fn none (F_look_at_harm) (M.argD (M.var 1) (M.argN)))
def g_look_at_wishes : MS := S.seq (S.ite (M.notT (M.test (M.op1 (isD tTuple) (M.var 0)))) (S.never) (S.nil))
    (S.seq (S.for_ (M.items (M.var 0)) (G.nm 1) (B_look_at_wishes_1))
    (S.ite (M.test (M.op2 neDD (M.known (M.listL (M.argD (M.var 0) (M.argN)))) (M.known (M.sortset (M.var 0))))) (S.never) (S.nil)))
def F_look_at_wishes (lvs : List LV) : FR := runF 1 2 none g_look_at_wishes lvs
theorem ok_look_at_wishes (T : Txt K mg fs fds us) : FnOk P w K mg base CX0 2 (fs 19) (fds 19) P_look_at_wishes (spF K none F_look_at_wishes) :=
  fn_pd (io := none) (k := 1) T.f_look_at_wishes sc_look_at_wishes (by decide) (fun cdv A outer s H E C hr hio hw => (have hu : A.units + 3 + 64 < cLine := hr.units
      (pds_cons (pd_ifS (pdt_not (pdt_val (pd_isi k_tuple T.n_isinstance T.n_tuple (by decide +kernel) (pd_var 0)))) (pds_one (pd_never)) (pds_nil))
      (pds_cons (pd_for PassesOwn.never rfl (pdi_seq (pd_var 0)) (pdg_nm (i := 1) (io_ne hio) sc_look_at_wishes.nd) (pds_one (pd_expr (pd_fn (ok_look_at_harm T) (hr.mono (by omega)) T.m_look_at_harm T.f_look_at_harm.kp T.b_look_at_harm (pda_cons (pd_var 1) (pda_nil))))))
      (pds_one (pd_ifS (pdt_ne hu (pd_l (pdl_list T.n_list (pda_cons (pd_var 0) (pda_nil)))) (pd_l (pdl_sortset rfl T.n_sorted T.n_set (pd_var 0)))) (pds_one (pd_never)) (pds_nil)))))))
def g_look_at_part : MS := S.ite (M.orT (M.notT (M.test (M.op1 (isD tStr) (M.var 0)))) (M.test (M.op2 notInDD (M.var 0) (M.ret cst_PARTS)))) (S.never) (S.nil)
def F_look_at_part (lvs : List LV) : FR := runF 1 1 none g_look_at_part lvs
theorem ok_look_at_part (T : Txt K mg fs fds us) : FnOk P w K mg base CX0 1 (fs 20) (fds 20) P_look_at_part (spF K none F_look_at_part) :=
  fn_pd (io := none) (k := 0) T.f_look_at_part sc_look_at_part (by decide) (fun cdv A outer s H E C hr hio hw => (have hu : A.units + 3 + 64 < cLine := hr.units
      (pds_one (pd_ifS (pdt_w (pdw_or (pdt_not (pdt_val (pd_isi k_str T.n_isinstance T.n_str (by decide +kernel) (pd_var 0)))) (pdw_or1 (pdt_notIn (by rfl) (pd_var 0) (pd_const T.c_PARTS T.r_PARTS))))) (pds_one (pd_never)) (pds_nil)))))
def g_ended : MS := S.ret (M.ite (M.test (M.op2 gtD (M.op2 ixD (M.var 0) (M.ret (PyData.int 4))) (M.ret (PyData.int 0)))) (M.tup (M.argD (M.ret cst_SLEEPS) (M.argD (M.op2 ixD (M.var 0) (M.ret (PyData.int 4))) (M.argD (M.ret (PyData.int 0)) (M.argD (M.tup (M.argN)) (M.argN)))))) (M.ret cst_FRESH))
def F_ended (lvs : List LV) : FR := runF 1 1 none g_ended lvs
theorem ok_ended (T : Txt K mg fs fds us) : FnOk P w K mg base CX0 1 (fs 22) (fds 22) P_ended (spF K none F_ended) :=
  fn_pd (io := none) (k := 0) T.f_ended sc_ended (by decide) (fun cdv A outer s H E C hr hio hw => (have hu : A.units + 3 + 64 < cLine := hr.units
      (pds_one (pd_ret (pd_if (pdt_gt (pd_sub_ (pd_var 0) (pd_int) (fun _ _ => rfl)) (pd_int)) (pd_tup (pda_cons (pd_const T.c_SLEEPS T.r_SLEEPS) (pda_cons (pd_sub_ (pd_var 0) (pd_int) (fun _ _ => rfl)) (pda_cons (pd_int) (pda_cons (pd_tup (pda_nil)) (pda_nil)))))) (pd_const T.c_FRESH T.r_FRESH))))))
def g_step : MS := S.seq (S.asgT (G.tup 5 (G.cons (G.nm 3) (G.cons (G.nm 4) (G.cons (G.nm 5) (G.cons (G.nm 6) (G.cons (G.nm 7) (G.nil))))))) (M.var 0))
    (S.seq (S.asgT (G.tup 4 (G.cons (G.nm 8) (G.cons (G.nm 9) (G.cons (G.nm 10) (G.cons (G.nm 11) (G.nil)))))) (M.var 1))
    (S.seq (S.ite (M.test (M.op2 eqDD (M.var 8) (M.ret cst_SLEEPS))) (S.ret (M.tup (M.argD (M.ite (M.test (M.op2 gtD (M.var 9) (M.ret (PyData.int 1)))) (M.tup (M.argD (M.ret cst_SLEEPS) (M.argD (M.op2 subD (M.var 9) (M.ret (PyData.int 1))) (M.argD (M.ret (PyData.int 0)) (M.argD (M.tup (M.argN)) (M.argN)))))) (M.ret cst_FRESH)) (M.argD (M.ret (PyData.int 0)) (M.argN))))) (S.nil))
    (S.seq (S.ite (M.test (M.op2 eqDD (M.var 8) (M.ret cst_AWAKE))) (S.seq (S.asg 11 (M.op2 addD (M.var 11) (M.tup (M.argD (M.var 2) (M.argN)))))
    (S.seq (S.ite (M.orT (M.test (M.op2 ltD (M.call lenD (M.argD (M.var 11) (M.argN))) (M.var 3))) (M.notT (M.test (M.call allD (M.argD (M.slice (M.var 11) (M.part (M.op1 negD (M.var 3))) (M.ret none)) (M.argN)))))) (S.ret (M.tup (M.argD (M.tup (M.argD (M.ret cst_AWAKE) (M.argD (M.ret (PyData.int 0)) (M.argD (M.ret (PyData.int 0)) (M.argD (M.slice (M.var 11) (M.part (M.call maxD (M.argD (M.ret (PyData.int 0)) (M.argD (M.op2 addD (M.op2 subD (M.op2 subD (M.call lenD (M.argD (M.var 11) (M.argN))) (M.var 3)) (M.var 4)) (M.ret (PyData.int 1))) (M.argN))))) (M.ret none)) (M.argN)))))) (M.argD (M.ret (PyData.int 0)) (M.argN))))) (S.nil))
    (S.par3 9 10 12 (M.argD (M.call lenD (M.argD (M.var 11) (M.argN))) (M.argD (M.ret (PyData.int 0)) (M.argD (M.call lenD (M.argD (M.var 11) (M.argN))) (M.argN))))))) (S.par3 9 10 12 (M.argD (M.op2 addD (M.var 9) (M.ret (PyData.int 1))) (M.argD (M.ite (M.test (M.var 2)) (M.ret (PyData.int 0)) (M.op2 addD (M.var 10) (M.ret (PyData.int 1)))) (M.argD (M.ret (PyData.int 1)) (M.argN))))))
    (S.seq (S.ite (M.orT (M.test (M.op2 eqDD (M.var 10) (M.var 5))) (M.test (M.op2 eqDD (M.var 9) (M.var 6)))) (S.ret (M.tup (M.argD (M.fn none (F_ended) (M.argD (M.var 0) (M.argN))) (M.argD (M.var 12) (M.argN))))) (S.nil))
    (S.ret (M.tup (M.argD (M.tup (M.argD (M.ret cst_RECORDS) (M.argD (M.var 9) (M.argD (M.var 10) (M.argD (M.tup (M.argN)) (M.argN)))))) (M.argD (M.var 12) (M.argN)))))))))
def F_step (lvs : List LV) : FR := runF 3 13 none g_step lvs
theorem ok_step (T : Txt K mg fs fds us) : FnOk P w K mg base CX0 2 (fs 23) (fds 23) P_step (spF K none F_step) :=
  fn_pd (io := none) (k := 1) T.f_step sc_step (by decide) (fun cdv A outer s H E C hr hio hw => (have hu : A.units + 3 + 64 < cLine := hr.units
      (pds_cons (pd_asgT (pd_var 0) (pdg_tup rfl (pdgs_cons (pdg_nm (i := 3) (io_ne hio) sc_step.nd) (pdgs_cons (pdg_nm (i := 4) (io_ne hio) sc_step.nd) (pdgs_cons (pdg_nm (i := 5) (io_ne hio) sc_step.nd) (pdgs_cons (pdg_nm (i := 6) (io_ne hio) sc_step.nd) (pdgs_cons (pdg_nm (i := 7) (io_ne hio) sc_step.nd) (pdgs_nil))))))))
      (pds_cons (pd_asgT (pd_var 1) (pdg_tup rfl (pdgs_cons (pdg_nm (i := 8) (io_ne hio) sc_step.nd) (pdgs_cons (pdg_nm (i := 9) (io_ne hio) sc_step.nd) (pdgs_cons (pdg_nm (i := 10) (io_ne hio) sc_step.nd) (pdgs_cons (pdg_nm (i := 11) (io_ne hio) sc_step.nd) (pdgs_nil)))))))
      (pds_cons (pd_ifS (pdt_eq hu (pd_var 8) (pd_const T.c_SLEEPS T.r_SLEEPS)) (pds_one (pd_ret (pd_tup (pda_cons (pd_if (pdt_gt (pd_var 9) (pd_int)) (pd_tup (pda_cons (pd_const T.c_SLEEPS T.r_SLEEPS) (pda_cons (pd_sub (pd_var 9) (pd_int)) (pda_cons (pd_int) (pda_cons (pd_tup (pda_nil)) (pda_nil)))))) (pd_const T.c_FRESH T.r_FRESH)) (pda_cons (pd_int) (pda_nil)))))) (pds_nil))
      (pds_cons (pd_ifS (pdt_eq hu (pd_var 8) (pd_const T.c_AWAKE T.r_AWAKE)) (pds_cons (pd_set (i := 11) (io_ne hio) sc_step.nd (pd_add (pd_var 11) (pd_tup (pda_cons (pd_var 2) (pda_nil)))))
      (pds_cons (pd_ifS (pdt_w (pdw_or (pdt_lt (pd_len T.n_len (pda_cons (pd_var 11) (pda_nil))) (pd_var 3)) (pdw_or1 (pdt_not (pdt_val (pd_all rfl T.n_all (pda_cons (pd_slice (pd_var 11) (pdo_some (pd_neg (pd_var 3))) (pdo_none)) (pda_nil)))))))) (pds_one (pd_ret (pd_tup (pda_cons (pd_tup (pda_cons (pd_const T.c_AWAKE T.r_AWAKE) (pda_cons (pd_int) (pda_cons (pd_int) (pda_cons (pd_slice (pd_var 11) (pdo_some (pd_max rfl T.n_max (pda_cons (pd_int) (pda_cons (pd_add (pd_sub (pd_sub (pd_len T.n_len (pda_cons (pd_var 11) (pda_nil))) (pd_var 3)) (pd_var 4)) (pd_int)) (pda_nil))))) (pdo_none)) (pda_nil)))))) (pda_cons (pd_int) (pda_nil)))))) (pds_nil))
      (pds_one (pd_par3 (i := 9) (j := 10) (l := 12) (io_ne hio) (io_ne hio) (io_ne hio) rfl sc_step.nd (pda_cons (pd_len T.n_len (pda_cons (pd_var 11) (pda_nil))) (pda_cons (pd_int) (pda_cons (pd_len T.n_len (pda_cons (pd_var 11) (pda_nil))) (pda_nil)))))))) (pds_one (pd_par3 (i := 9) (j := 10) (l := 12) (io_ne hio) (io_ne hio) (io_ne hio) rfl sc_step.nd (pda_cons (pd_add (pd_var 9) (pd_int)) (pda_cons (pd_if (pdt_val (pd_var 2)) (pd_int) (pd_add (pd_var 10) (pd_int))) (pda_cons (pd_int) (pda_nil)))))))
      (pds_cons (pd_ifS (pdt_w (pdw_or (pdt_eq hu (pd_var 10) (pd_var 5)) (pdw_or1 (pdt_eq hu (pd_var 9) (pd_var 6))))) (pds_one (pd_ret (pd_tup (pda_cons (pd_fn (ok_ended T) (hr.mono (by omega)) T.m_ended T.f_ended.kp T.b_ended (pda_cons (pd_var 0) (pda_nil))) (pda_cons (pd_var 12) (pda_nil)))))) (pds_nil))
      (pds_one (pd_ret (pd_tup (pda_cons (pd_tup (pda_cons (pd_const T.c_RECORDS T.r_RECORDS) (pda_cons (pd_var 9) (pda_cons (pd_var 10) (pda_cons (pd_tup (pda_nil)) (pda_nil)))))) (pda_cons (pd_var 12) (pda_nil)))))))))))))
def g_begin_place : MS := S.ret (M.tup (M.argD (M.ret (PyData.bool false)) (M.argD (M.op2 ixD (M.var 0) (M.ret (PyData.int 2))) (M.argN))))
def F_begin_place (lvs : List LV) : FR := runF 1 1 none g_begin_place lvs
theorem ok_begin_place (T : Txt K mg fs fds us) : FnOk P w K mg base CX0 1 (fs 27) (fds 27) P_begin_place (spF K none F_begin_place) :=
  fn_pd (io := none) (k := 0) T.f_begin_place sc_begin_place (by decide) (fun cdv A outer s H E C hr hio hw => (have hu : A.units + 3 + 64 < cLine := hr.units
      (pds_one (pd_ret (pd_tup (pda_cons (pd_bl) (pda_cons (pd_sub_ (pd_var 0) (pd_int) (fun _ _ => rfl)) (pda_nil))))))))
def g_choices : MS := S.seq (S.asgT (G.tup 2 (G.cons (G.nm 2) (G.cons (G.nm 3) (G.nil)))) (M.var 1))
    (S.seq (S.ite (M.test (M.var 2)) (S.ret (M.known (M.catL (M.known (M.repL (M.lst (M.argD (M.ret (PyData.bool false)) (M.argN))) (M.call intD (M.argD (M.op2 geD (M.var 3) (M.op2 ixD (M.var 0) (M.ret (PyData.int 0)))) (M.argN))))) (M.known (M.repL (M.lst (M.argD (M.ret (PyData.bool true)) (M.argN))) (M.call intD (M.argD (M.op2 ltD (M.var 3) (M.op2 ixD (M.var 0) (M.ret (PyData.int 1)))) (M.argN)))))))) (S.nil))
    (S.ret (M.ite (M.test (M.op2 ltD (M.var 3) (M.op2 ixD (M.var 0) (M.ret (PyData.int 2))))) (M.known (M.lst (M.argD (M.ret (PyData.bool false)) (M.argN)))) (M.known (M.lst (M.argD (M.ret (PyData.bool false)) (M.argD (M.ret (PyData.bool true)) (M.argN))))))))
def F_choices (lvs : List LV) : FR := runF 2 4 none g_choices lvs
theorem ok_choices (T : Txt K mg fs fds us) : FnOk P w K mg base CX0 1 (fs 28) (fds 28) P_choices (spF K none F_choices) :=
  fn_pd (io := none) (k := 0) T.f_choices sc_choices (by decide) (fun cdv A outer s H E C hr hio hw => (have hu : A.units + 3 + 64 < cLine := hr.units
      (pds_cons (pd_asgT (pd_var 1) (pdg_tup rfl (pdgs_cons (pdg_nm (i := 2) (io_ne hio) sc_choices.nd) (pdgs_cons (pdg_nm (i := 3) (io_ne hio) sc_choices.nd) (pdgs_nil)))))
      (pds_cons (pd_ifS (pdt_val (pd_var 2)) (pds_one (pd_ret (pd_l (pdl_cat (pd_l (pdl_rep (pdl_lst (pda_cons (pd_bl) (pda_nil))) (fun _ hr1 => pd_int1 T.n_int (pda_cons (pd_ge (pd_var 3) (pd_sub_ (pd_var 0) (pd_int) (fun _ _ => rfl))) (pda_nil))))) (pd_l (pdl_rep (pdl_lst (pda_cons (pd_bl) (pda_nil))) (fun _ hr2 => pd_int1 T.n_int (pda_cons (pd_lt (pd_var 3) (pd_sub_ (pd_var 0) (pd_int) (fun _ _ => rfl))) (pda_nil))))))))) (pds_nil))
      (pds_one (pd_ret (pd_if (pdt_lt (pd_var 3) (pd_sub_ (pd_var 0) (pd_int) (fun _ _ => rfl))) (pd_l (pdl_lst (pda_cons (pd_bl) (pda_nil)))) (pd_l (pdl_lst (pda_cons (pd_bl) (pda_cons (pd_bl) (pda_nil))))))))))))
def g_next_place : MS := S.seq (S.ite (M.test (M.op2 neDD (M.var 2) (M.op2 ixD (M.var 1) (M.ret (PyData.int 0))))) (S.ret (M.tup (M.argD (M.var 2) (M.argD (M.ret (PyData.int 1)) (M.argN))))) (S.nil))
    (S.ret (M.tup (M.argD (M.var 2) (M.argD (M.ite (M.test (M.var 2)) (M.op2 addD (M.op2 ixD (M.var 1) (M.ret (PyData.int 1))) (M.ret (PyData.int 1))) (M.call minD (M.argD (M.op2 ixD (M.var 0) (M.ret (PyData.int 2))) (M.argD (M.op2 addD (M.op2 ixD (M.var 1) (M.ret (PyData.int 1))) (M.ret (PyData.int 1))) (M.argN))))) (M.argN)))))
def F_next_place (lvs : List LV) : FR := runF 3 3 none g_next_place lvs
theorem ok_next_place (T : Txt K mg fs fds us) : FnOk P w K mg base CX0 1 (fs 29) (fds 29) P_next_place (spF K none F_next_place) :=
  fn_pd (io := none) (k := 0) T.f_next_place sc_next_place (by decide) (fun cdv A outer s H E C hr hio hw => (have hu : A.units + 3 + 64 < cLine := hr.units
      (pds_cons (pd_ifS (pdt_ne hu (pd_var 2) (pd_sub_ (pd_var 1) (pd_int) (fun _ _ => rfl))) (pds_one (pd_ret (pd_tup (pda_cons (pd_var 2) (pda_cons (pd_int) (pda_nil)))))) (pds_nil))
      (pds_one (pd_ret (pd_tup (pda_cons (pd_var 2) (pda_cons (pd_if (pdt_val (pd_var 2)) (pd_add (pd_sub_ (pd_var 1) (pd_int) (fun _ _ => rfl)) (pd_int)) (pd_min rfl T.n_min (pda_cons (pd_sub_ (pd_var 0) (pd_int) (fun _ _ => rfl)) (pda_cons (pd_add (pd_sub_ (pd_var 1) (pd_int) (fun _ _ => rfl)) (pd_int)) (pda_nil))))) (pda_nil)))))))))
def g_may_end : MS := S.ret (M.orV (M.op1 notD (M.op2 ixD (M.var 1) (M.ret (PyData.int 0)))) (M.op2 geD (M.op2 ixD (M.var 1) (M.ret (PyData.int 1))) (M.op2 ixD (M.var 0) (M.ret (PyData.int 0)))))
def F_may_end (lvs : List LV) : FR := runF 2 2 none g_may_end lvs
theorem ok_may_end (T : Txt K mg fs fds us) : FnOk P w K mg base CX0 1 (fs 30) (fds 30) P_may_end (spF K none F_may_end) :=
  fn_pd (io := none) (k := 0) T.f_may_end sc_may_end (by decide) (fun cdv A outer s H E C hr hio hw => (have hu : A.units + 3 + 64 < cLine := hr.units
      (pds_one (pd_ret (pd_or (pd_not (pd_sub_ (pd_var 1) (pd_int) (fun _ _ => rfl))) (pd_one (pd_ge (pd_sub_ (pd_var 1) (pd_int) (fun _ _ => rfl)) (pd_sub_ (pd_var 0) (pd_int) (fun _ _ => rfl)))))))))
def E_sounds_in_1 : M D := M.call intD (M.argD (M.andV (M.var 3) (M.op1 notD (M.andV (M.op2 gtD (M.var 2) (M.ret (PyData.int 0))) (M.op2 ixD (M.var 0) (M.op2 subD (M.var 2) (M.ret (PyData.int 1))))))) (M.argN))
def g_sounds_in : MS := S.seq (S.asg 1 (M.call sumD (M.argD (M.known (M.lc (M.callL enumD (M.argD (M.var 0) (M.argN))) [2, 3] (G.tup 2 (G.cons (G.nm 2) (G.cons (G.nm 3) (G.nil)))) (M.ret true) (E_sounds_in_1))) (M.argN))))
    (S.ret (M.call minD (M.argD (M.ret (PyData.int 2)) (M.argD (M.var 1) (M.argN)))))
def F_sounds_in (lvs : List LV) : FR := runF 1 4 none g_sounds_in lvs
theorem ok_sounds_in (T : Txt K mg fs fds us) : FnOk P w K mg base CX0 1 (fs 31) (fds 31) P_sounds_in (spF K none F_sounds_in) :=
  fn_pd (io := none) (k := 0) T.f_sounds_in sc_sounds_in (by decide) (fun cdv A outer s H E C hr hio hw => (have hu : A.units + 3 + 64 < cLine := hr.units
      (pds_cons (pd_set (i := 1) (io_ne hio) sc_sounds_in.nd (pd_sum rfl T.n_sum (pda_cons (pd_l (pdl_lc (own := [(("at" : Str), 2), (("sound" : Str), 3)]) (io_nin hio) (by decide) rfl sc_sounds_in.nd (blkOk_by (N := N_sounds_in) (sc := defScope s_sounds_in) (by decide +kernel)) (pdi_enum T.n_enumerate (pda_cons (pd_var 0) (pda_nil))) (fun _ hc1 _ _ _ _ _ => pdg_tup rfl (pdgs_cons (pdg_nm (i := 2) (io_ne (io_eq hio hc1)) sc_sounds_in.nd) (pdgs_cons (pdg_nm (i := 3) (io_ne (io_eq hio hc1)) sc_sounds_in.nd) (pdgs_nil)))) (fun _ hc1 _ _ _ _ _ => pdts_nil) (fun _ hc1 _ _ _ _ _ => pd_int1 T.n_int (pda_cons (pd_and (pd_var 3) (pd_one (pd_not (pd_and (pd_gt (pd_var 2) (pd_int)) (pd_one (pd_sub_ (pd_var 0) (pd_sub (pd_var 2) (pd_int)) (fun _ _ => rfl))))))) (pda_nil))))) (pda_nil))))
      (pds_one (pd_ret (pd_min rfl T.n_min (pda_cons (pd_int) (pda_cons (pd_var 1) (pda_nil)))))))))
def g_joins : MS := S.seq (S.ite (M.test (M.op2 eqDD (M.op2 ixD (M.var 0) (M.ret (PyData.int 0))) (M.ret cst_AWAKE))) (S.ret (M.fn none (F_sounds_in) (M.argD (M.op2 addD (M.op2 ixD (M.var 0) (M.ret (PyData.int 3))) (M.tup (M.argD (M.var 1) (M.argN)))) (M.argN)))) (S.nil))
    (S.ret (M.call minD (M.argD (M.ret (PyData.int 2)) (M.argD (M.op2 addD (M.var 2) (M.call intD (M.argD (M.andV (M.var 1) (M.op2 gtD (M.op2 ixD (M.var 0) (M.ret (PyData.int 2))) (M.ret (PyData.int 0)))) (M.argN)))) (M.argN)))))
def F_joins (lvs : List LV) : FR := runF 3 3 none g_joins lvs
theorem ok_joins (T : Txt K mg fs fds us) : FnOk P w K mg base CX0 2 (fs 32) (fds 32) P_joins (spF K none F_joins) :=
  fn_pd (io := none) (k := 1) T.f_joins sc_joins (by decide) (fun cdv A outer s H E C hr hio hw => (have hu : A.units + 3 + 64 < cLine := hr.units
      (pds_cons (pd_ifS (pdt_eq hu (pd_sub_ (pd_var 0) (pd_int) (fun _ _ => rfl)) (pd_const T.c_AWAKE T.r_AWAKE)) (pds_one (pd_ret (pd_fn (ok_sounds_in T) (hr.mono (by omega)) T.m_sounds_in T.f_sounds_in.kp T.b_sounds_in (pda_cons (pd_add (pd_sub_ (pd_var 0) (pd_int) (fun _ _ => rfl)) (pd_tup (pda_cons (pd_var 1) (pda_nil)))) (pda_nil))))) (pds_nil))
      (pds_one (pd_ret (pd_min rfl T.n_min (pda_cons (pd_int) (pda_cons (pd_add (pd_var 2) (pd_int1 T.n_int (pda_cons (pd_and (pd_var 1) (pd_one (pd_gt (pd_sub_ (pd_var 0) (pd_int) (fun _ _ => rfl)) (pd_int)))) (pda_nil)))) (pda_nil)))))))))
def g_watched : MS := S.seq (S.asgT (G.tup 7 (G.cons (G.nm 5) (G.cons (G.nm 6) (G.cons (G.nm 7) (G.cons (G.nm 8) (G.cons (G.nm 9) (G.cons (G.nm 10) (G.cons (G.nm 11) (G.nil))))))))) (M.var 0))
    (S.seq (S.ite (M.andT (M.test (M.var 5)) (M.test (M.var 1))) (S.par2 6 9 (M.argD (M.call minD (M.argD (M.ret cst_FAR) (M.argD (M.op2 addD (M.var 6) (M.ret (PyData.int 1))) (M.argN)))) (M.argD (M.ret (PyData.bool false)) (M.argN)))) (S.par2 5 7 (M.argD (M.ret (PyData.bool false)) (M.argD (M.call minD (M.argD (M.ret cst_FAR) (M.argD (M.op2 addD (M.var 7) (M.ret (PyData.int 1))) (M.argN)))) (M.argN)))))
    (S.seq (S.asg 11 (M.andV (M.var 11) (M.op2 eqDD (M.op2 ixD (M.var 2) (M.ret (PyData.int 0))) (M.ret cst_RECORDS))))
    (S.seq (S.ite (M.test (M.op2 gtD (M.var 4) (M.var 7))) (S.seq (S.par2 10 9 (M.argD (M.call minD (M.argD (M.ret (PyData.int 2)) (M.argD (M.op2 addD (M.var 10) (M.call intD (M.argD (M.op1 notD (M.var 11)) (M.argN)))) (M.argN)))) (M.argD (M.ret (PyData.bool true)) (M.argN))))
    (S.par2 8 11 (M.argD (M.orV (M.var 8) (M.op2 geD (M.var 4) (M.op2 addD (M.var 7) (M.var 6)))) (M.argD (M.ret (PyData.bool true)) (M.argN))))) (S.nil))
    (S.ret (M.tup (M.argD (M.var 5) (M.argD (M.var 6) (M.argD (M.var 7) (M.argD (M.var 8) (M.argD (M.var 9) (M.argD (M.var 10) (M.argD (M.andV (M.var 11) (M.op2 eqDD (M.op2 ixD (M.var 3) (M.ret (PyData.int 0))) (M.ret cst_RECORDS))) (M.argN)))))))))))))
def F_watched (lvs : List LV) : FR := runF 5 12 none g_watched lvs
theorem ok_watched (T : Txt K mg fs fds us) : FnOk P w K mg base CX0 1 (fs 33) (fds 33) P_watched (spF K none F_watched) :=
  fn_pd (io := none) (k := 0) T.f_watched sc_watched (by decide) (fun cdv A outer s H E C hr hio hw => (have hu : A.units + 3 + 64 < cLine := hr.units
      (pds_cons (pd_asgT (pd_var 0) (pdg_tup rfl (pdgs_cons (pdg_nm (i := 5) (io_ne hio) sc_watched.nd) (pdgs_cons (pdg_nm (i := 6) (io_ne hio) sc_watched.nd) (pdgs_cons (pdg_nm (i := 7) (io_ne hio) sc_watched.nd) (pdgs_cons (pdg_nm (i := 8) (io_ne hio) sc_watched.nd) (pdgs_cons (pdg_nm (i := 9) (io_ne hio) sc_watched.nd) (pdgs_cons (pdg_nm (i := 10) (io_ne hio) sc_watched.nd) (pdgs_cons (pdg_nm (i := 11) (io_ne hio) sc_watched.nd) (pdgs_nil))))))))))
      (pds_cons (pd_ifS (pdt_w (pdw_and (pdt_val (pd_var 5)) (pdw_and1 (pdt_val (pd_var 1))))) (pds_one (pd_par2 (i := 6) (j := 9) (io_ne hio) (io_ne hio) rfl sc_watched.nd (pda_cons (pd_min rfl T.n_min (pda_cons (pd_const T.c_FAR T.r_FAR) (pda_cons (pd_add (pd_var 6) (pd_int)) (pda_nil)))) (pda_cons (pd_bl) (pda_nil))))) (pds_one (pd_par2 (i := 5) (j := 7) (io_ne hio) (io_ne hio) rfl sc_watched.nd (pda_cons (pd_bl) (pda_cons (pd_min rfl T.n_min (pda_cons (pd_const T.c_FAR T.r_FAR) (pda_cons (pd_add (pd_var 7) (pd_int)) (pda_nil)))) (pda_nil))))))
      (pds_cons (pd_set (i := 11) (io_ne hio) sc_watched.nd (pd_and (pd_var 11) (pd_one (pd_eq hu (pd_sub_ (pd_var 2) (pd_int) (fun _ _ => rfl)) (pd_const T.c_RECORDS T.r_RECORDS)))))
      (pds_cons (pd_ifS (pdt_gt (pd_var 4) (pd_var 7)) (pds_cons (pd_par2 (i := 10) (j := 9) (io_ne hio) (io_ne hio) rfl sc_watched.nd (pda_cons (pd_min rfl T.n_min (pda_cons (pd_int) (pda_cons (pd_add (pd_var 10) (pd_int1 T.n_int (pda_cons (pd_not (pd_var 11)) (pda_nil)))) (pda_nil)))) (pda_cons (pd_bl) (pda_nil))))
      (pds_one (pd_par2 (i := 8) (j := 11) (io_ne hio) (io_ne hio) rfl sc_watched.nd (pda_cons (pd_or (pd_var 8) (pd_one (pd_ge (pd_var 4) (pd_add (pd_var 7) (pd_var 6))))) (pda_cons (pd_bl) (pda_nil)))))) (pds_nil))
      (pds_one (pd_ret (pd_tup (pda_cons (pd_var 5) (pda_cons (pd_var 6) (pda_cons (pd_var 7) (pda_cons (pd_var 8) (pda_cons (pd_var 9) (pda_cons (pd_var 10) (pda_cons (pd_and (pd_var 11) (pd_one (pd_eq hu (pd_sub_ (pd_var 3) (pd_int) (fun _ _ => rfl)) (pd_const T.c_RECORDS T.r_RECORDS)))) (pda_nil)))))))))))))))))
def g_started : MS := S.ret (M.fn none (F_watched) (M.argD (M.tup (M.argD (M.ret (PyData.bool true)) (M.argD (M.ret (PyData.int 0)) (M.argD (M.ret (PyData.int 0)) (M.argD (M.ret (PyData.bool false)) (M.argD (M.ret (PyData.bool false)) (M.argD (M.ret (PyData.int 0)) (M.argD (M.ret (PyData.bool false)) (M.argN))))))))) (M.argD (M.var 0) (M.argD (M.var 1) (M.argD (M.var 2) (M.argD (M.var 3) (M.argN)))))))
def F_started (lvs : List LV) : FR := runF 4 4 none g_started lvs
theorem ok_started (T : Txt K mg fs fds us) : FnOk P w K mg base CX0 2 (fs 34) (fds 34) P_started (spF K none F_started) :=
  fn_pd (io := none) (k := 1) T.f_started sc_started (by decide) (fun cdv A outer s H E C hr hio hw => (have hu : A.units + 3 + 64 < cLine := hr.units
      (pds_one (pd_ret (pd_fn (ok_watched T) (hr.mono (by omega)) T.m_watched T.f_watched.kp T.b_watched (pda_cons (pd_tup (pda_cons (pd_bl) (pda_cons (pd_int) (pda_cons (pd_int) (pda_cons (pd_bl) (pda_cons (pd_bl) (pda_cons (pd_int) (pda_cons (pd_bl) (pda_nil))))))))) (pda_cons (pd_var 0) (pda_cons (pd_var 1) (pda_cons (pd_var 2) (pda_cons (pd_var 3) (pda_nil)))))))))))
def g_is_harmed : MS := S.seq (S.asgT (G.tup 7 (G.cons (G.nm 2) (G.cons (G.nm 3) (G.cons (G.nm 4) (G.cons (G.nm 5) (G.cons (G.nm 6) (G.cons (G.nm 7) (G.cons (G.nm 8) (G.nil))))))))) (M.var 0))
    (S.seq (S.ite (M.test (M.op2 eqDD (M.var 3) (M.ret (PyData.int 0)))) (S.ret (M.ret (PyData.bool false))) (S.nil))
    (S.seq (S.ite (M.test (M.op2 eqDD (M.var 1) (M.ret (PyData.str ("lost" : Str))))) (S.ret (M.op2 eqDD (M.var 7) (M.ret (PyData.int 0)))) (S.nil))
    (S.seq (S.ite (M.test (M.op2 eqDD (M.var 1) (M.ret (PyData.str ("parted" : Str))))) (S.ret (M.op2 gtD (M.var 7) (M.ret (PyData.int 1)))) (S.nil))
    (S.ret (M.andV (M.op2 gtD (M.var 7) (M.ret (PyData.int 0))) (M.op1 notD (M.ite (M.test (M.op2 eqDD (M.var 1) (M.ret (PyData.str ("late" : Str))))) (M.var 5) (M.var 6))))))))
def F_is_harmed (lvs : List LV) : FR := runF 2 9 none g_is_harmed lvs
theorem ok_is_harmed (T : Txt K mg fs fds us) : FnOk P w K mg base CX0 1 (fs 35) (fds 35) P_is_harmed (spF K none F_is_harmed) :=
  fn_pd (io := none) (k := 0) T.f_is_harmed sc_is_harmed (by decide) (fun cdv A outer s H E C hr hio hw => (have hu : A.units + 3 + 64 < cLine := hr.units
      (pds_cons (pd_asgT (pd_var 0) (pdg_tup rfl (pdgs_cons (pdg_nm (i := 2) (io_ne hio) sc_is_harmed.nd) (pdgs_cons (pdg_nm (i := 3) (io_ne hio) sc_is_harmed.nd) (pdgs_cons (pdg_nm (i := 4) (io_ne hio) sc_is_harmed.nd) (pdgs_cons (pdg_nm (i := 5) (io_ne hio) sc_is_harmed.nd) (pdgs_cons (pdg_nm (i := 6) (io_ne hio) sc_is_harmed.nd) (pdgs_cons (pdg_nm (i := 7) (io_ne hio) sc_is_harmed.nd) (pdgs_cons (pdg_nm (i := 8) (io_ne hio) sc_is_harmed.nd) (pdgs_nil))))))))))
      (pds_cons (pd_ifS (pdt_eq hu (pd_var 3) (pd_int)) (pds_one (pd_ret (pd_bl))) (pds_nil))
      (pds_cons (pd_ifS (pdt_eq hu (pd_var 1) (pd_str)) (pds_one (pd_ret (pd_eq hu (pd_var 7) (pd_int)))) (pds_nil))
      (pds_cons (pd_ifS (pdt_eq hu (pd_var 1) (pd_str)) (pds_one (pd_ret (pd_gt (pd_var 7) (pd_int)))) (pds_nil))
      (pds_one (pd_ret (pd_and (pd_gt (pd_var 7) (pd_int)) (pd_one (pd_not (pd_if (pdt_eq hu (pd_var 1) (pd_str)) (pd_var 5) (pd_var 6)))))))))))))
def g_notes_behind : MS := S.seq (S.ite (M.test (M.op2 neDD (M.var 0) (M.ret cst_UNWATCHED))) (S.retL (M.lst (M.argD (M.fn none (F_watched) (M.argD (M.var 0) (M.argD (M.var 2) (M.argD (M.var 3) (M.argD (M.var 4) (M.argD (M.var 5) (M.argN))))))) (M.argN)))) (S.nil))
    (S.seq (S.own 6 (M.lst (M.argD (M.ret cst_UNWATCHED) (M.argN))))
    (S.seq (S.ite (M.andT (M.test (M.var 2)) (M.notT (M.test (M.op2 ixD (M.var 1) (M.ret (PyData.int 0)))))) (S.app 6 (M.fn none (F_started) (M.argD (M.var 2) (M.argD (M.var 3) (M.argD (M.var 4) (M.argD (M.var 5) (M.argN))))))) (S.nil))
    (S.retO 6)))
def F_notes_behind (lvs : List LV) : FR := runF 6 7 none g_notes_behind lvs
theorem ok_notes_behind (T : Txt K mg fs fds us) : FnOk P w K mg base CX0 3 (fs 36) (fds 36) P_notes_behind (spF K none F_notes_behind) :=
  fn_pd (io := none) (k := 2) T.f_notes_behind sc_notes_behind (by decide) (fun cdv A outer s H E C hr hio hw => (have hu : A.units + 3 + 64 < cLine := hr.units
      (pds_cons (pd_ifS (pdt_ne hu (pd_var 0) (pd_const T.c_UNWATCHED T.r_UNWATCHED)) (pds_one (pd_retL (pdl_lst (pda_cons (pd_fn (ok_watched T) (hr.mono (by omega)) T.m_watched T.f_watched.kp T.b_watched (pda_cons (pd_var 0) (pda_cons (pd_var 2) (pda_cons (pd_var 3) (pda_cons (pd_var 4) (pda_cons (pd_var 5) (pda_nil))))))) (pda_nil))))) (pds_nil))
      (pds_cons (pd_own (i := 6) (io_ne hio) sc_notes_behind.nd (pdl_lst (pda_cons (pd_const T.c_UNWATCHED T.r_UNWATCHED) (pda_nil))))
      (pds_cons (pd_ifS (pdt_w (pdw_and (pdt_val (pd_var 2)) (pdw_and1 (pdt_not (pdt_val (pd_sub_ (pd_var 1) (pd_int) (fun _ _ => rfl))))))) (pds_one (pd_app 6 (pd_fn (ok_started T) (hr.mono (by omega)) T.m_started T.f_started.kp T.b_started (pda_cons (pd_var 2) (pda_cons (pd_var 3) (pda_cons (pd_var 4) (pda_cons (pd_var 5) (pda_nil)))))))) (pds_nil))
      (pds_one (pd_retO 6 (io_ne hio))))))))
def g_joined_behind : MS := S.seq (S.asg 5 (M.ite (M.test (M.op2 gtD (M.var 4) (M.ret (PyData.int 0)))) (M.fn none (F_joins) (M.argD (M.var 2) (M.argD (M.var 1) (M.argD (M.op2 ixD (M.var 0) (M.ret (PyData.int 1))) (M.argN))))) (M.ret (PyData.int 0))))
    (S.ret (M.tup (M.argD (M.orV (M.op2 ixD (M.var 0) (M.ret (PyData.int 0))) (M.op2 gtD (M.var 5) (M.ret (PyData.int 1)))) (M.argD (M.ite (M.test (M.op2 eqDD (M.op2 ixD (M.var 3) (M.ret (PyData.int 0))) (M.ret cst_RECORDS))) (M.var 5) (M.ret (PyData.int 0))) (M.argN)))))
def F_joined_behind (lvs : List LV) : FR := runF 5 6 none g_joined_behind lvs
theorem ok_joined_behind (T : Txt K mg fs fds us) : FnOk P w K mg base CX0 3 (fs 37) (fds 37) P_joined_behind (spF K none F_joined_behind) :=
  fn_pd (io := none) (k := 2) T.f_joined_behind sc_joined_behind (by decide) (fun cdv A outer s H E C hr hio hw => (have hu : A.units + 3 + 64 < cLine := hr.units
      (pds_cons (pd_set (i := 5) (io_ne hio) sc_joined_behind.nd (pd_if (pdt_gt (pd_var 4) (pd_int)) (pd_fn (ok_joins T) (hr.mono (by omega)) T.m_joins T.f_joins.kp T.b_joins (pda_cons (pd_var 2) (pda_cons (pd_var 1) (pda_cons (pd_sub_ (pd_var 0) (pd_int) (fun _ _ => rfl)) (pda_nil))))) (pd_int)))
      (pds_one (pd_ret (pd_tup (pda_cons (pd_or (pd_sub_ (pd_var 0) (pd_int) (fun _ _ => rfl)) (pd_one (pd_gt (pd_var 5) (pd_int)))) (pda_cons (pd_if (pdt_eq hu (pd_sub_ (pd_var 3) (pd_int) (fun _ _ => rfl)) (pd_const T.c_RECORDS T.r_RECORDS)) (pd_var 5) (pd_int)) (pda_nil)))))))))
def B_first_by_3 : MS := S.seq (S.asg 17 (M.tup (M.argD (M.fn none (F_next_place) (M.argD (M.var 3) (M.argD (M.var 8) (M.argD (M.var 12) (M.argN))))) (M.argD (M.var 13) (M.argD (M.var 16) (M.argN))))))
    (S.ite (M.test (M.inK true 5 (M.var 17))) (S.seq (S.setK 5 (M.op2 addD (M.var 11) (M.tup (M.argD (M.var 12) (M.argN)))) (M.var 17))
    (S.app 6 (M.var 17))) (S.nil))
def B_first_by_2 : MS := S.seq (S.asgT (G.tup 2 (G.cons (G.nm 13) (G.cons (G.nm 14) (G.nil)))) (M.fn none (F_step) (M.argD (M.var 2) (M.argD (M.var 9) (M.argD (M.var 12) (M.argN))))))
    (S.seq (S.ite (M.test (M.op2 eqDD (M.var 1) (M.ret (PyData.str ("joined" : Str))))) (S.asg 15 (M.known (M.lst (M.argD (M.fn none (F_joined_behind) (M.argD (M.var 10) (M.argD (M.var 12) (M.argD (M.var 9) (M.argD (M.var 13) (M.argD (M.var 14) (M.argN))))))) (M.argN))))) (S.asg 15 (M.fn none (F_notes_behind) (M.argD (M.var 10) (M.argD (M.var 8) (M.argD (M.var 12) (M.argD (M.var 9) (M.argD (M.var 13) (M.argD (M.var 14) (M.argN))))))))))
    (S.for_ (M.items (M.var 15)) (G.nm 16) (B_first_by_3)))
def W_first_by_1 : M Bool := M.test (M.op2 ltD (M.var 7) (M.borrow (M.call lenD (M.argD (M.var 6) (M.argN)))))
def B_first_by_1 : MS := S.seq (S.asgT (G.tup 3 (G.cons (G.nm 8) (G.cons (G.nm 9) (G.cons (G.nm 10) (G.nil))))) (M.subO 6 (M.var 7)))
    (S.seq (S.asg 11 (M.subK 5 (M.subO 6 (M.var 7))))
    (S.seq (S.asg 7 (M.op2 addD (M.var 7) (M.ret (PyData.int 1))))
    (S.seq (S.ite (M.andT (M.test (M.fn none (F_may_end) (M.argD (M.var 3) (M.argD (M.var 8) (M.argN))))) (M.ite (M.test (M.op2 eqDD (M.var 1) (M.ret (PyData.str ("joined" : Str))))) (M.test (M.op2 ixD (M.var 10) (M.ret (PyData.int 0)))) (M.test (M.fn none (F_is_harmed) (M.argD (M.var 10) (M.argD (M.var 1) (M.argN))))))) (S.ret (M.var 11)) (S.nil))
    (S.for_ (M.items (M.fn none (F_choices) (M.argD (M.var 3) (M.argD (M.var 8) (M.argN))))) (G.nm 12) (B_first_by_2)))))
def g_first_by : MS := S.seq (S.asgT (G.tup 2 (G.cons (G.nm 2) (G.cons (G.nm 3) (G.nil)))) (M.var 0))
    (S.seq (S.asg 4 (M.tup (M.argD (M.fn none (F_begin_place) (M.argD (M.var 3) (M.argN))) (M.argD (M.ret cst_FRESH) (M.argD (M.ite (M.test (M.op2 eqDD (M.var 1) (M.ret (PyData.str ("joined" : Str))))) (M.tup (M.argD (M.ret (PyData.bool false)) (M.argD (M.ret (PyData.int 0)) (M.argN)))) (M.ret cst_UNWATCHED)) (M.argN))))))
    (S.seq (S.parN [5, 6, 7] (M.nC (M.dict1 (M.var 4) (M.tup (M.argN))) (M.nC (M.nL (M.lst (M.argD (M.var 4) (M.argN)))) (M.nC (M.nD (M.ret (PyData.int 0))) (M.ret [])))))
    (S.seq (S.while_ (W_first_by_1) (B_first_by_1))
    (S.ret (M.ret PyData.none)))))
def F_first_by (lvs : List LV) : FR := runF 2 18 none g_first_by lvs
theorem ok_first_by (T : Txt K mg fs fds us) : FnOk P w K mg base CX0 4 (fs 38) (fds 38) P_first_by (spF K none F_first_by) :=
  fn_pd (io := none) (k := 3) T.f_first_by sc_first_by (by decide) (fun cdv A outer s H E C hr hio hw => (have hu : A.units + 3 + 64 < cLine := hr.units
      (pds_cons (pd_asgT (pd_var 0) (pdg_tup rfl (pdgs_cons (pdg_nm (i := 2) (io_ne hio) sc_first_by.nd) (pdgs_cons (pdg_nm (i := 3) (io_ne hio) sc_first_by.nd) (pdgs_nil)))))
      (pds_cons (pd_set (i := 4) (io_ne hio) sc_first_by.nd (pd_tup (pda_cons (pd_fn (ok_begin_place T) (hr.mono (by omega)) T.m_begin_place T.f_begin_place.kp T.b_begin_place (pda_cons (pd_var 3) (pda_nil))) (pda_cons (pd_const T.c_FRESH T.r_FRESH) (pda_cons (pd_if (pdt_eq hu (pd_var 1) (pd_str)) (pd_tup (pda_cons (pd_bl) (pda_cons (pd_int) (pda_nil)))) (pd_const T.c_UNWATCHED T.r_UNWATCHED)) (pda_nil))))))
      (pds_cons (pd_parN3 (i := 5) (j := 6) (l := 7) (io_ne hio) (io_ne hio) (io_ne hio) rfl sc_first_by.nd (pdns_cons (pdn_k1 hw (u9 hu) (fun _ hd2 => pd_var 4) (fun _ hd2 => pd_tup (pda_nil))) (fun _ hn3 => pdns_cons (pdn_l (pdl_lst (pda_cons (pd_var 4) (pda_nil)))) (fun _ hn4 => pdns_cons (pdn_d (pd_int)) (fun _ hn5 => pdns_nil)))))
      (pds_cons (pd_while PassesOwn.never (pdt_lt (pd_var 7) (pd_borrow (fun _ hb1 => pd_len T.n_len (pda_cons (pd_var 6) (pda_nil))))) (pds_cons (pd_asgT (pd_subO 6 (pd_var 7) (fun _ _ => rfl)) (pdg_tup rfl (pdgs_cons (pdg_nm (i := 8) (io_ne hio) sc_first_by.nd) (pdgs_cons (pdg_nm (i := 9) (io_ne hio) sc_first_by.nd) (pdgs_cons (pdg_nm (i := 10) (io_ne hio) sc_first_by.nd) (pdgs_nil))))))
      (pds_cons (pd_set (i := 11) (io_ne hio) sc_first_by.nd (pd_subK 5 hw (u9 hu) (pd_subO 6 (pd_var 7) (fun _ _ => rfl)) (fun _ _ => rfl)))
      (pds_cons (pd_set (i := 7) (io_ne hio) sc_first_by.nd (pd_add (pd_var 7) (pd_int)))
      (pds_cons (pd_ifS (pdt_w (pdw_and (pdt_val (pd_fn (ok_may_end T) (hr.mono (by omega)) T.m_may_end T.f_may_end.kp T.b_may_end (pda_cons (pd_var 3) (pda_cons (pd_var 8) (pda_nil))))) (pdw_and1 (pdt_if (pdt_eq hu (pd_var 1) (pd_str)) (pdt_val (pd_sub_ (pd_var 10) (pd_int) (fun _ _ => rfl))) (pdt_val (pd_fn (ok_is_harmed T) (hr.mono (by omega)) T.m_is_harmed T.f_is_harmed.kp T.b_is_harmed (pda_cons (pd_var 10) (pda_cons (pd_var 1) (pda_nil))))))))) (pds_one (pd_ret (pd_var 11))) (pds_nil))
      (pds_one (pd_for PassesOwn.never rfl (pdi_seq (pd_fn (ok_choices T) (hr.mono (by omega)) T.m_choices T.f_choices.kp T.b_choices (pda_cons (pd_var 3) (pda_cons (pd_var 8) (pda_nil))))) (pdg_nm (i := 12) (io_ne hio) sc_first_by.nd) (pds_cons (pd_asgT (pd_fn (ok_step T) (hr.mono (by omega)) T.m_step T.f_step.kp T.b_step (pda_cons (pd_var 2) (pda_cons (pd_var 9) (pda_cons (pd_var 12) (pda_nil))))) (pdg_tup rfl (pdgs_cons (pdg_nm (i := 13) (io_ne hio) sc_first_by.nd) (pdgs_cons (pdg_nm (i := 14) (io_ne hio) sc_first_by.nd) (pdgs_nil)))))
      (pds_cons (pd_ifS (pdt_eq hu (pd_var 1) (pd_str)) (pds_one (pd_set (i := 15) (io_ne hio) sc_first_by.nd (pd_l (pdl_lst (pda_cons (pd_fn (ok_joined_behind T) (hr.mono (by omega)) T.m_joined_behind T.f_joined_behind.kp T.b_joined_behind (pda_cons (pd_var 10) (pda_cons (pd_var 12) (pda_cons (pd_var 9) (pda_cons (pd_var 13) (pda_cons (pd_var 14) (pda_nil))))))) (pda_nil)))))) (pds_one (pd_set (i := 15) (io_ne hio) sc_first_by.nd (pd_fn (ok_notes_behind T) (hr.mono (by omega)) T.m_notes_behind T.f_notes_behind.kp T.b_notes_behind (pda_cons (pd_var 10) (pda_cons (pd_var 8) (pda_cons (pd_var 12) (pda_cons (pd_var 9) (pda_cons (pd_var 13) (pda_cons (pd_var 14) (pda_nil)))))))))))
      (pds_one (pd_for PassesOwn.never rfl (pdi_seq (pd_var 15)) (pdg_nm (i := 16) (io_ne hio) sc_first_by.nd) (pds_cons (pd_set (i := 17) (io_ne hio) sc_first_by.nd (pd_tup (pda_cons (pd_fn (ok_next_place T) (hr.mono (by omega)) T.m_next_place T.f_next_place.kp T.b_next_place (pda_cons (pd_var 3) (pda_cons (pd_var 8) (pda_cons (pd_var 12) (pda_nil))))) (pda_cons (pd_var 13) (pda_cons (pd_var 16) (pda_nil))))))
      (pds_one (pd_ifS (pdt_notInK 5 hw (u9 hu) (pd_var 17)) (pds_cons (pd_setK 5 (io_ne hio) hw (u9 hu) (pd_add (pd_var 11) (pd_tup (pda_cons (pd_var 12) (pda_nil)))) (pd_var 17))
      (pds_one (pd_app 6 (pd_var 17)))) (pds_nil)))))))))))))))
      (pds_one (pd_ret (pd_non)))))))))
def g_with_part : MS := S.seq (S.asg 3 (M.op2 ixD (M.var 0) (M.ret (PyData.int 0))))
    (S.ret (M.tup (M.argD (M.op2 addD (M.op2 addD (M.slice (M.var 3) (M.ret none) (M.part (M.var 1))) (M.tup (M.argD (M.var 2) (M.argN)))) (M.slice (M.var 3) (M.part (M.op2 addD (M.var 1) (M.ret (PyData.int 1)))) (M.ret none))) (M.argD (M.op2 ixD (M.var 0) (M.ret (PyData.int 1))) (M.argN)))))
def F_with_part (lvs : List LV) : FR := runF 3 4 none g_with_part lvs
theorem ok_with_part (T : Txt K mg fs fds us) : FnOk P w K mg base CX0 1 (fs 40) (fds 40) P_with_part (spF K none F_with_part) :=
  fn_pd (io := none) (k := 0) T.f_with_part sc_with_part (by decide) (fun cdv A outer s H E C hr hio hw => (have hu : A.units + 3 + 64 < cLine := hr.units
      (pds_cons (pd_set (i := 3) (io_ne hio) sc_with_part.nd (pd_sub_ (pd_var 0) (pd_int) (fun _ _ => rfl)))
      (pds_one (pd_ret (pd_tup (pda_cons (pd_add (pd_add (pd_slice (pd_var 3) (pdo_none) (pdo_some (pd_var 1))) (pd_tup (pda_cons (pd_var 2) (pda_nil)))) (pd_slice (pd_var 3) (pdo_some (pd_add (pd_var 1) (pd_int))) (pdo_none))) (pda_cons (pd_sub_ (pd_var 0) (pd_int) (fun _ _ => rfl)) (pda_nil)))))))))
def E_is_good_1 : M D := M.op2 isND (M.fn none (F_first_by) (M.argD (M.var 0) (M.argD (M.var 2) (M.argN)))) (M.ret PyData.none)
def g_is_good : MS := S.ret (M.andV (M.fn none (F_is_plan) (M.argD (M.var 0) (M.argN))) (M.call allD (M.argD (M.known (M.lc (M.items (M.var 1)) [2] (G.nm 2) (M.ret true) (E_is_good_1))) (M.argN))))
def F_is_good (lvs : List LV) : FR := runF 2 3 none g_is_good lvs
theorem ok_is_good (T : Txt K mg fs fds us) : FnOk P w K mg base CX0 5 (fs 41) (fds 41) P_is_good (spF K none F_is_good) :=
  fn_pd (io := none) (k := 4) T.f_is_good sc_is_good (by decide) (fun cdv A outer s H E C hr hio hw => (have hu : A.units + 3 + 64 < cLine := hr.units
      (pds_one (pd_ret (pd_and (pd_fn (ok_is_plan T) (hr.mono (by omega)) T.m_is_plan T.f_is_plan.kp T.b_is_plan (pda_cons (pd_var 0) (pda_nil))) (pd_one (pd_all rfl T.n_all (pda_cons (pd_l (pdl_lc (own := [(("harm" : Str), 2)]) (io_nin hio) (by decide) rfl sc_is_good.nd (blkOk_by (N := N_is_good) (sc := defScope s_is_good) (by decide +kernel)) (pdi_seq (pd_var 1)) (fun _ hc1 _ _ _ _ _ => pdg_nm (i := 2) (io_ne (io_eq hio hc1)) sc_is_good.nd) (fun _ hc1 _ _ _ _ _ => pdts_nil) (fun _ hc1 _ _ _ _ _ => pd_is (pd_fn (ok_first_by T) (hr.mono (by omega)) T.m_first_by T.f_first_by.kp T.b_first_by (pda_cons (pd_var 0) (pda_cons (pd_var 2) (pda_nil)))) (pd_non)))) (pda_nil)))))))))
def E_good_values_1 : M D := M.var 4
def T_good_values_1 : M Bool := M.test (M.fn none (F_is_good) (M.argD (M.fn none (F_with_part) (M.argD (M.var 0) (M.argD (M.var 3) (M.argD (M.var 4) (M.argN))))) (M.argD (M.var 2) (M.argN))))
def g_good_values : MS := S.seq (S.drop (M.fn none (F_look_at_plan) (M.argD (M.var 0) (M.argN))))
    (S.seq (S.drop (M.fn none (F_look_at_part) (M.argD (M.var 1) (M.argN))))
    (S.seq (S.drop (M.fn none (F_look_at_wishes) (M.argD (M.var 2) (M.argN))))
    (S.seq (S.asg 3 (M.tidx cst_PARTS (M.var 1)))
    (S.retL (M.lc (M.callL range1D (M.argD (M.ret (PyData.int 11)) (M.argN))) [4] (G.nm 4) (T_good_values_1) (E_good_values_1))))))
def F_good_values (lvs : List LV) : FR := runF 3 5 none g_good_values lvs
theorem ok_good_values (T : Txt K mg fs fds us) : FnOk P w K mg base CX0 6 (fs 42) (fds 42) P_good_values (spF K none F_good_values) :=
  fn_pd (io := none) (k := 5) T.f_good_values sc_good_values (by decide) (fun cdv A outer s H E C hr hio hw => (have hu : A.units + 3 + 64 < cLine := hr.units
      (pds_cons (pd_expr (pd_fn (ok_look_at_plan T) (hr.mono (by omega)) T.m_look_at_plan T.f_look_at_plan.kp T.b_look_at_plan (pda_cons (pd_var 0) (pda_nil))))
      (pds_cons (pd_expr (pd_fn (ok_look_at_part T) (hr.mono (by omega)) T.m_look_at_part T.f_look_at_part.kp T.b_look_at_part (pda_cons (pd_var 1) (pda_nil))))
      (pds_cons (pd_expr (pd_fn (ok_look_at_wishes T) (hr.mono (by omega)) T.m_look_at_wishes T.f_look_at_wishes.kp T.b_look_at_wishes (pda_cons (pd_var 2) (pda_nil))))
      (pds_cons (pd_set (i := 3) (io_ne hio) sc_good_values.nd (pd_tidx T.c_PARTS T.t_PARTS T.r_PARTS (pd_var 1)))
      (pds_one (pd_retL (pdl_lc (own := [(("number" : Str), 4)]) (io_nin hio) (by decide) rfl sc_good_values.nd (blkOk_by (N := N_good_values) (sc := defScope s_good_values) (by decide +kernel)) (pdi_range1 T.n_range (pda_cons (pd_int) (pda_nil))) (fun _ hc1 _ _ _ _ _ => pdg_nm (i := 4) (io_ne (io_eq hio hc1)) sc_good_values.nd) (fun _ hc1 _ _ _ _ _ => pdts_one (pdt_val (pd_fn (ok_is_good T) (hr.mono (by omega)) T.m_is_good T.f_is_good.kp T.b_is_good (pda_cons (pd_fn (ok_with_part T) (hr.mono (by omega)) T.m_with_part T.f_with_part.kp T.b_with_part (pda_cons (pd_var 0) (pda_cons (pd_var 3) (pda_cons (pd_var 4) (pda_nil))))) (pda_cons (pd_var 2) (pda_nil)))))) (fun _ hc1 _ _ _ _ _ => pd_var 4))))))))))
def g_f_law_spring : MS := S.seq (S.asg 2 (M.ret (PyData.int 7)))
    (S.seq (S.ite (M.test (M.op2 ltD (M.var 1) (M.call lenD (M.argD (M.var 0) (M.argN))))) (S.asg 2 (M.call absD (M.argD (M.op2 ixD (M.var 0) (M.var 1)) (M.argN)))) (S.nil))
    (S.seq (S.asg 3 (M.op2 modD (M.call intD (M.argD (M.op2 addD (M.op2 addD (M.op2 mulD (M.var 2) (M.ret (PyData.int 863))) (M.op2 mulD (M.ret (PyData.int 524287)) (M.var 1))) (M.ret (PyData.int 1))) (M.argN))) (M.ret (PyData.int 999999999989))))
    (S.retL (M.lst (M.argD (M.ite (M.test (M.op2 geD (M.var 2) (M.op2 powD (M.ret (PyData.int 10)) (M.ret (PyData.int 18))))) (M.var 2) (M.ret (PyData.int 0))) (M.argD (M.var 3) (M.argN)))))))
def F_f_law_spring (lvs : List LV) : FR := runF 2 4 none g_f_law_spring lvs
theorem ok_f_law_spring (T : Txt K mg fs fds us) : FnOk P w K mg base CX0 1 (fs 44) (fds 44) P_f_law_spring (spF K none F_f_law_spring) :=
  fn_pd (io := none) (k := 0) T.f_f_law_spring sc_f_law_spring (by decide) (fun cdv A outer s H E C hr hio hw => (have hu : A.units + 3 + 64 < cLine := hr.units
      (pds_cons (pd_set (i := 2) (io_ne hio) sc_f_law_spring.nd (pd_int))
      (pds_cons (pd_ifS (pdt_lt (pd_var 1) (pd_len T.n_len (pda_cons (pd_var 0) (pda_nil)))) (pds_one (pd_set (i := 2) (io_ne hio) sc_f_law_spring.nd (pd_abs T.n_abs (pda_cons (pd_sub_ (pd_var 0) (pd_var 1) (fun _ _ => rfl)) (pda_nil))))) (pds_nil))
      (pds_cons (pd_set (i := 3) (io_ne hio) sc_f_law_spring.nd (pd_mod (pd_int1 T.n_int (pda_cons (pd_add (pd_add (pd_mul (pd_var 2) (pd_int)) (pd_mul (pd_int) (pd_var 1))) (pd_int)) (pda_nil))) (pd_int)))
      (pds_one (pd_retL (pdl_lst (pda_cons (pd_if (pdt_ge (pd_var 2) (pd_pow (pd_int) (pd_int))) (pd_var 2) (pd_int)) (pda_cons (pd_var 3) (pda_nil)))))))))))
def g_f_law_pick : MS := S.seq (S.ite (M.test (M.op2 gtD (M.subO 0 (M.ret (PyData.int 0))) (M.ret (PyData.int 0)))) (S.seq (S.asg 2 (M.op2 modD (M.call intD (M.argD (M.subO 0 (M.ret (PyData.int 0))) (M.argN))) (M.var 1)))
    (S.seq (S.setIx 0 (M.op2 fdivD (M.subO 0 (M.ret (PyData.int 0))) (M.var 1)) (M.ret (PyData.int 0)))
    (S.ret (M.var 2)))) (S.nil))
    (S.seq (S.setIx 0 (M.op2 modD (M.call intD (M.argD (M.op2 addD (M.op2 mulD (M.subO 0 (M.ret (PyData.int 1))) (M.ret (PyData.int 393555900739))) (M.ret (PyData.int 8191))) (M.argN))) (M.ret (PyData.int 999999999989))) (M.ret (PyData.int 1)))
    (S.ret (M.op2 modD (M.call intD (M.argD (M.op2 fdivD (M.subO 0 (M.ret (PyData.int 1))) (M.ret (PyData.int 4093))) (M.argN))) (M.var 1))))
def F_f_law_pick (lvs : List LV) : FR := runF 2 3 (some 0) g_f_law_pick lvs
theorem ok_f_law_pick (T : Txt K mg fs fds us) : FnOk P w K mg base CX0 1 (fs 45) (fds 45) P_f_law_pick (spF K (some 0) F_f_law_pick) :=
  fn_pd (io := (some 0)) (k := 0) T.f_f_law_pick sc_f_law_pick (by decide) (fun cdv A outer s H E C hr hio hw => (have hu : A.units + 3 + 64 < cLine := hr.units
      (pds_cons (pd_ifS (pdt_gt (pd_subO 0 (pd_int) (fun _ _ => rfl)) (pd_int)) (pds_cons (pd_set (i := 2) (io_ne hio) sc_f_law_pick.nd (pd_mod (pd_int1 T.n_int (pda_cons (pd_subO 0 (pd_int) (fun _ _ => rfl)) (pda_nil))) (pd_var 1)))
      (pds_cons (pd_setIx 0 (pd_fdiv (pd_subO 0 (pd_int) (fun _ _ => rfl)) (pd_var 1)) (pd_int))
      (pds_one (pd_ret (pd_var 2))))) (pds_nil))
      (pds_cons (pd_setIx 0 (pd_mod (pd_int1 T.n_int (pda_cons (pd_add (pd_mul (pd_subO 0 (pd_int) (fun _ _ => rfl)) (pd_int)) (pd_int)) (pda_nil))) (pd_int)) (pd_int))
      (pds_one (pd_ret (pd_mod (pd_int1 T.n_int (pda_cons (pd_fdiv (pd_subO 0 (pd_int) (fun _ _ => rfl)) (pd_int)) (pda_nil))) (pd_var 1))))))))
def g_f_law_kind : MS := S.seq (S.ite (M.orT (M.test (M.op2 isND (M.var 0) (M.ret PyData.none))) (M.test (M.op1 (isD tBool) (M.var 0)))) (S.ret (M.ite (M.test (M.op2 isND (M.var 0) (M.ret PyData.none))) (M.ret (PyData.int 0)) (M.ret (PyData.int 1)))) (S.nil))
    (S.seq (S.ite (M.test (M.op1 (isD tSeq) (M.var 0))) (S.ret (M.ite (M.test (M.op1 (isD tList) (M.var 0))) (M.ret (PyData.int 2)) (M.ret (PyData.int 3)))) (S.nil))
    (S.ret (M.ite (M.test (M.op1 (isD tInt) (M.var 0))) (M.ret (PyData.int 4)) (M.ite (M.test (M.op1 (isD tStr) (M.var 0))) (M.ret (PyData.int 5)) (M.ret (PyData.int 6))))))
def F_f_law_kind (lvs : List LV) : FR := runF 1 1 none g_f_law_kind lvs
theorem ok_f_law_kind (T : Txt K mg fs fds us) : FnOk P w K mg base CX0 1 (fs 46) (fds 46) P_f_law_kind (spF K none F_f_law_kind) :=
  fn_pd (io := none) (k := 0) T.f_f_law_kind sc_f_law_kind (by decide) (fun cdv A outer s H E C hr hio hw => (have hu : A.units + 3 + 64 < cLine := hr.units
      (pds_cons (pd_ifS (pdt_w (pdw_or (pdt_is (pd_var 0) (pd_non)) (pdw_or1 (pdt_val (pd_isi k_bool T.n_isinstance T.n_bool (by decide +kernel) (pd_var 0)))))) (pds_one (pd_ret (pd_if (pdt_is (pd_var 0) (pd_non)) (pd_int) (pd_int)))) (pds_nil))
      (pds_cons (pd_ifS (pdt_val (pd_isiLT T.n_isinstance T.n_list T.n_tuple (pd_var 0))) (pds_one (pd_ret (pd_if (pdt_val (pd_isi k_list T.n_isinstance T.n_list (by decide +kernel) (pd_var 0))) (pd_int) (pd_int)))) (pds_nil))
      (pds_one (pd_ret (pd_if (pdt_val (pd_isi k_int T.n_isinstance T.n_int (by decide +kernel) (pd_var 0))) (pd_int) (pd_if (pdt_val (pd_isi k_str T.n_isinstance T.n_str (by decide +kernel) (pd_var 0))) (pd_int) (pd_int)))))))))
def E_f_law_twins_1 (self_ : List LV → FR) : M D := M.ret (PyData.int 1)
def T_f_law_twins_1 (self_ : List LV → FR) : M Bool := M.notT (M.test (M.fn none self_ (M.argD (M.var 2) (M.argD (M.var 3) (M.argN)))))
def g_f_law_twins (self_ : List LV → FR) : MS := S.seq (S.ite (M.test (M.op2 neDD (M.fn none (F_f_law_kind) (M.argD (M.var 0) (M.argN))) (M.fn none (F_f_law_kind) (M.argD (M.var 1) (M.argN))))) (S.ret (M.ret (PyData.bool false))) (S.nil))
    (S.seq (S.ite (M.test (M.op2 inDD (M.fn none (F_f_law_kind) (M.argD (M.var 0) (M.argN))) (M.known (M.lst (M.argD (M.ret (PyData.int 2)) (M.argD (M.ret (PyData.int 3)) (M.argN))))))) (S.ret (M.andV (M.op2 eqDD (M.call lenD (M.argD (M.var 0) (M.argN))) (M.call lenD (M.argD (M.var 1) (M.argN)))) (M.op2 eqDD (M.known (M.lc (M.callL zipD (M.argD (M.var 0) (M.argD (M.var 1) (M.argN)))) [2, 3] (G.tup 2 (G.cons (G.nm 2) (G.cons (G.nm 3) (G.nil)))) ((T_f_law_twins_1 self_)) ((E_f_law_twins_1 self_)))) (M.known (M.lst (M.argN)))))) (S.nil))
    (S.ret (M.op2 eqDD (M.var 0) (M.var 1))))
def F_f_law_twins : Nat → List LV → FR
  | 0, _ => .bad
  | n + 1, lvs => runF 2 4 none (g_f_law_twins (F_f_law_twins n)) lvs
theorem ok_f_law_twins (T : Txt K mg fs fds us) : ∀ (n : Nat), FnOk P w K mg base CX0 (1 + n) (fs 47) (fds 47) P_f_law_twins (spF K none (F_f_law_twins n))
  | 0 => ⟨fun vs H Q E h => by obtain ⟨_, _, _, _, h⟩ := h; exact h.elim, fun _ _ _ _ _ _ _ _ _ _ _ _ _ h => by obtain ⟨_, _, _, _, h⟩ := h; exact h.elim⟩
  | n + 1 => by
    have Gself := ok_f_law_twins T n
    have hself : 1 + n ≤ 1 + n := Nat.le_refl _
    exact fn_pd (io := none) (k := 1 + n) T.f_f_law_twins sc_f_law_twins (by decide) (fun cdv A outer s H E C hr hio hw => (have hu : A.units + 3 + 64 < cLine := hr.units
      (pds_cons (pd_ifS (pdt_ne hu (pd_fn (ok_f_law_kind T) (hr.mono (by omega)) T.m_f_law_kind T.f_f_law_kind.kp T.b_f_law_kind (pda_cons (pd_var 0) (pda_nil))) (pd_fn (ok_f_law_kind T) (hr.mono (by omega)) T.m_f_law_kind T.f_f_law_kind.kp T.b_f_law_kind (pda_cons (pd_var 1) (pda_nil)))) (pds_one (pd_ret (pd_bl))) (pds_nil))
      (pds_cons (pd_ifS (pdt_in (by rfl) (pd_fn (ok_f_law_kind T) (hr.mono (by omega)) T.m_f_law_kind T.f_f_law_kind.kp T.b_f_law_kind (pda_cons (pd_var 0) (pda_nil))) (pd_l (pdl_lst (pda_cons (pd_int) (pda_cons (pd_int) (pda_nil)))))) (pds_one (pd_ret (pd_and (pd_eq hu (pd_len T.n_len (pda_cons (pd_var 0) (pda_nil))) (pd_len T.n_len (pda_cons (pd_var 1) (pda_nil)))) (pd_one (pd_eq hu (pd_l (pdl_lc (own := [(("a" : Str), 2), (("b" : Str), 3)]) (io_nin hio) (by decide) rfl sc_f_law_twins.nd (blkOk_by (N := N_f_law_twins) (sc := defScope s_f_law_twins) (by decide +kernel)) (pdi_zip T.n_zip (pda_cons (pd_var 0) (pda_cons (pd_var 1) (pda_nil)))) (fun _ hc1 _ _ _ _ _ => pdg_tup rfl (pdgs_cons (pdg_nm (i := 2) (io_ne (io_eq hio hc1)) sc_f_law_twins.nd) (pdgs_cons (pdg_nm (i := 3) (io_ne (io_eq hio hc1)) sc_f_law_twins.nd) (pdgs_nil)))) (fun _ hc1 _ _ _ _ _ => pdts_one (pdt_not (pdt_val (pd_fn Gself (hr.mono hself) T.m_f_law_twins T.f_f_law_twins.kp T.b_f_law_twins (pda_cons (pd_var 2) (pda_cons (pd_var 3) (pda_nil))))))) (fun _ hc1 _ _ _ _ _ => pd_int))) (pd_l (pdl_lst (pda_nil)))))))) (pds_nil))
      (pds_one (pd_ret (pd_eq hu (pd_var 0) (pd_var 1))))))))
def g_f_law_recorder : MS := S.seq (S.par2 1 2 (M.argD (M.op2 addD (M.ret (PyData.int 1)) (M.fn (some 0) (F_f_law_pick) (M.argS 0 (M.argD (M.ret (PyData.int 3)) (M.argN))))) (M.argD (M.fn (some 0) (F_f_law_pick) (M.argS 0 (M.argD (M.ret (PyData.int 4)) (M.argN)))) (M.argN))))
    (S.seq (S.asg 3 (M.op2 addD (M.op2 addD (M.var 1) (M.var 2)) (M.fn (some 0) (F_f_law_pick) (M.argS 0 (M.argD (M.op2 subD (M.op2 subD (M.ret (PyData.int 11)) (M.var 1)) (M.var 2)) (M.argN))))))
    (S.ret (M.tup (M.argD (M.var 1) (M.argD (M.var 2) (M.argD (M.op2 addD (M.ret (PyData.int 1)) (M.fn (some 0) (F_f_law_pick) (M.argS 0 (M.argD (M.ret (PyData.int 3)) (M.argN))))) (M.argD (M.var 3) (M.argD (M.op2 ixD (M.known (M.lst (M.argD (M.ret (PyData.int 0)) (M.argD (M.ret (PyData.int 1)) (M.argD (M.ret (PyData.int 1)) (M.argD (M.ret (PyData.int 2)) (M.argD (M.ret (PyData.int 3)) (M.argN)))))))) (M.fn (some 0) (F_f_law_pick) (M.argS 0 (M.argD (M.ret (PyData.int 5)) (M.argN))))) (M.argN)))))))))
def F_f_law_recorder (lvs : List LV) : FR := runF 1 4 (some 0) g_f_law_recorder lvs
theorem ok_f_law_recorder (T : Txt K mg fs fds us) : FnOk P w K mg base CX0 2 (fs 48) (fds 48) P_f_law_recorder (spF K (some 0) F_f_law_recorder) :=
  fn_pd (io := (some 0)) (k := 1) T.f_f_law_recorder sc_f_law_recorder (by decide) (fun cdv A outer s H E C hr hio hw => (have hu : A.units + 3 + 64 < cLine := hr.units
      (pds_cons (pd_par2 (i := 1) (j := 2) (io_ne hio) (io_ne hio) rfl sc_f_law_recorder.nd (pda_cons (pd_add (pd_int) (pd_fn (ok_f_law_pick T) (hr.mono (by omega)) T.m_f_law_pick T.f_f_law_pick.kp T.b_f_law_pick (pda_slot 0 (pda_cons (pd_int) (pda_nil))))) (pda_cons (pd_fn (ok_f_law_pick T) (hr.mono (by omega)) T.m_f_law_pick T.f_f_law_pick.kp T.b_f_law_pick (pda_slot 0 (pda_cons (pd_int) (pda_nil)))) (pda_nil))))
      (pds_cons (pd_set (i := 3) (io_ne hio) sc_f_law_recorder.nd (pd_add (pd_add (pd_var 1) (pd_var 2)) (pd_fn (ok_f_law_pick T) (hr.mono (by omega)) T.m_f_law_pick T.f_f_law_pick.kp T.b_f_law_pick (pda_slot 0 (pda_cons (pd_sub (pd_sub (pd_int) (pd_var 1)) (pd_var 2)) (pda_nil))))))
      (pds_one (pd_ret (pd_tup (pda_cons (pd_var 1) (pda_cons (pd_var 2) (pda_cons (pd_add (pd_int) (pd_fn (ok_f_law_pick T) (hr.mono (by omega)) T.m_f_law_pick T.f_f_law_pick.kp T.b_f_law_pick (pda_slot 0 (pda_cons (pd_int) (pda_nil))))) (pda_cons (pd_var 3) (pda_cons (pd_sub_ (pd_l (pdl_lst (pda_cons (pd_int) (pda_cons (pd_int) (pda_cons (pd_int) (pda_cons (pd_int) (pda_cons (pd_int) (pda_nil)))))))) (pd_fn (ok_f_law_pick T) (hr.mono (by omega)) T.m_f_law_pick T.f_f_law_pick.kp T.b_f_law_pick (pda_slot 0 (pda_cons (pd_int) (pda_nil)))) (fun _ _ => rfl)) (pda_nil)))))))))))))
def g_f_law_world : MS := S.seq (S.asg 1 (M.op2 addD (M.ret (PyData.int 1)) (M.op2 ixD (M.known (M.lst (M.argD (M.ret (PyData.int 0)) (M.argD (M.ret (PyData.int 0)) (M.argD (M.ret (PyData.int 1)) (M.argD (M.ret (PyData.int 2)) (M.argD (M.fn (some 0) (F_f_law_pick) (M.argS 0 (M.argD (M.ret (PyData.int 5)) (M.argN)))) (M.argN)))))))) (M.fn (some 0) (F_f_law_pick) (M.argS 0 (M.argD (M.ret (PyData.int 5)) (M.argN)))))))
    (S.seq (S.asg 2 (M.call minD (M.argD (M.ret (PyData.int 12)) (M.argD (M.op2 addD (M.var 1) (M.op2 ixD (M.known (M.lst (M.argD (M.ret (PyData.int 0)) (M.argD (M.ret (PyData.int 1)) (M.argD (M.ret (PyData.int 2)) (M.argD (M.ret (PyData.int 4)) (M.argD (M.ret (PyData.int 7)) (M.argD (M.ret (PyData.int 11)) (M.argN))))))))) (M.fn (some 0) (F_f_law_pick) (M.argS 0 (M.argD (M.ret (PyData.int 6)) (M.argN)))))) (M.argN)))))
    (S.ret (M.tup (M.argD (M.var 1) (M.argD (M.var 2) (M.argD (M.op2 addD (M.ret (PyData.int 1)) (M.op2 ixD (M.known (M.lst (M.argD (M.ret (PyData.int 0)) (M.argD (M.ret (PyData.int 0)) (M.argD (M.ret (PyData.int 1)) (M.argD (M.fn (some 0) (F_f_law_pick) (M.argS 0 (M.argD (M.ret (PyData.int 4)) (M.argN)))) (M.argN))))))) (M.fn (some 0) (F_f_law_pick) (M.argS 0 (M.argD (M.ret (PyData.int 4)) (M.argN)))))) (M.argN)))))))
def F_f_law_world (lvs : List LV) : FR := runF 1 3 (some 0) g_f_law_world lvs
theorem ok_f_law_world (T : Txt K mg fs fds us) : FnOk P w K mg base CX0 2 (fs 49) (fds 49) P_f_law_world (spF K (some 0) F_f_law_world) :=
  fn_pd (io := (some 0)) (k := 1) T.f_f_law_world sc_f_law_world (by decide) (fun cdv A outer s H E C hr hio hw => (have hu : A.units + 3 + 64 < cLine := hr.units
      (pds_cons (pd_set (i := 1) (io_ne hio) sc_f_law_world.nd (pd_add (pd_int) (pd_sub_ (pd_l (pdl_lst (pda_cons (pd_int) (pda_cons (pd_int) (pda_cons (pd_int) (pda_cons (pd_int) (pda_cons (pd_fn (ok_f_law_pick T) (hr.mono (by omega)) T.m_f_law_pick T.f_f_law_pick.kp T.b_f_law_pick (pda_slot 0 (pda_cons (pd_int) (pda_nil)))) (pda_nil)))))))) (pd_fn (ok_f_law_pick T) (hr.mono (by omega)) T.m_f_law_pick T.f_f_law_pick.kp T.b_f_law_pick (pda_slot 0 (pda_cons (pd_int) (pda_nil)))) (fun _ _ => rfl))))
      (pds_cons (pd_set (i := 2) (io_ne hio) sc_f_law_world.nd (pd_min rfl T.n_min (pda_cons (pd_int) (pda_cons (pd_add (pd_var 1) (pd_sub_ (pd_l (pdl_lst (pda_cons (pd_int) (pda_cons (pd_int) (pda_cons (pd_int) (pda_cons (pd_int) (pda_cons (pd_int) (pda_cons (pd_int) (pda_nil))))))))) (pd_fn (ok_f_law_pick T) (hr.mono (by omega)) T.m_f_law_pick T.f_f_law_pick.kp T.b_f_law_pick (pda_slot 0 (pda_cons (pd_int) (pda_nil)))) (fun _ _ => rfl))) (pda_nil)))))
      (pds_one (pd_ret (pd_tup (pda_cons (pd_var 1) (pda_cons (pd_var 2) (pda_cons (pd_add (pd_int) (pd_sub_ (pd_l (pdl_lst (pda_cons (pd_int) (pda_cons (pd_int) (pda_cons (pd_int) (pda_cons (pd_fn (ok_f_law_pick T) (hr.mono (by omega)) T.m_f_law_pick T.f_f_law_pick.kp T.b_f_law_pick (pda_slot 0 (pda_cons (pd_int) (pda_nil)))) (pda_nil))))))) (pd_fn (ok_f_law_pick T) (hr.mono (by omega)) T.m_f_law_pick T.f_f_law_pick.kp T.b_f_law_pick (pda_slot 0 (pda_cons (pd_int) (pda_nil)))) (fun _ _ => rfl))) (pda_nil)))))))))))
def W_f_law_tick_1 : M Bool := M.test (M.op2 geD (M.call lenD (M.argD (M.var 11) (M.argN))) (M.op2 addD (M.var 3) (M.var 4)))
def B_f_law_tick_1 : MS := S.asg 11 (M.slice (M.var 11) (M.part (M.ret (PyData.int 1))) (M.ret none))
def g_f_law_tick : MS := S.seq (S.asgT (G.tup 5 (G.cons (G.nm 3) (G.cons (G.nm 4) (G.cons (G.nm 5) (G.cons (G.nm 6) (G.cons (G.nm 7) (G.nil))))))) (M.var 0))
    (S.seq (S.asgT (G.tup 4 (G.cons (G.nm 8) (G.cons (G.nm 9) (G.cons (G.nm 10) (G.cons (G.nm 11) (G.nil)))))) (M.var 1))
    (S.seq (S.asg 12 (M.ite (M.test (M.op2 gtD (M.var 7) (M.ret (PyData.int 0)))) (M.tup (M.argD (M.ret (PyData.str ("sleeps" : Str))) (M.argD (M.var 7) (M.argD (M.ret (PyData.int 0)) (M.argD (M.tup (M.argN)) (M.argN)))))) (M.tup (M.argD (M.ret (PyData.str ("awake" : Str))) (M.argD (M.ret (PyData.int 0)) (M.argD (M.ret (PyData.int 0)) (M.argD (M.tup (M.argN)) (M.argN))))))))
    (S.seq (S.ite (M.test (M.op2 eqDD (M.var 8) (M.ret (PyData.str ("sleeps" : Str))))) (S.ret (M.tup (M.argD (M.ite (M.test (M.op2 neDD (M.var 9) (M.ret (PyData.int 1)))) (M.tup (M.argD (M.ret (PyData.str ("sleeps" : Str))) (M.argD (M.op2 subD (M.var 9) (M.ret (PyData.int 1))) (M.argD (M.ret (PyData.int 0)) (M.argD (M.tup (M.argN)) (M.argN)))))) (M.tup (M.argD (M.ret (PyData.str ("awake" : Str))) (M.argD (M.ret (PyData.int 0)) (M.argD (M.ret (PyData.int 0)) (M.argD (M.tup (M.argN)) (M.argN))))))) (M.argD (M.ret (PyData.int 0)) (M.argN))))) (S.nil))
    (S.seq (S.asg 13 (M.ret (PyData.int 1)))
    (S.seq (S.ite (M.test (M.op2 eqDD (M.var 8) (M.ret (PyData.str ("awake" : Str))))) (S.seq (S.asg 11 (M.op2 addD (M.var 11) (M.tup (M.argD (M.var 2) (M.argN)))))
    (S.seq (S.ite (M.test (M.op2 neDD (M.slice (M.var 11) (M.part (M.op1 negD (M.var 3))) (M.ret none)) (M.op2 repTD (M.tup (M.argD (M.ret (PyData.bool true)) (M.argN))) (M.var 3)))) (S.seq (S.while_ (W_f_law_tick_1) (B_f_law_tick_1))
    (S.ret (M.tup (M.argD (M.tup (M.argD (M.ret (PyData.str ("awake" : Str))) (M.argD (M.ret (PyData.int 0)) (M.argD (M.ret (PyData.int 0)) (M.argD (M.var 11) (M.argN)))))) (M.argD (M.ret (PyData.int 0)) (M.argN)))))) (S.nil))
    (S.seq (S.asg 13 (M.call lenD (M.argD (M.var 11) (M.argN))))
    (S.par2 9 10 (M.argD (M.var 13) (M.argD (M.ret (PyData.int 0)) (M.argN))))))) (S.ite (M.test (M.var 2)) (S.par2 9 10 (M.argD (M.op2 addD (M.var 9) (M.ret (PyData.int 1))) (M.argD (M.ret (PyData.int 0)) (M.argN)))) (S.par2 9 10 (M.argD (M.op2 addD (M.var 9) (M.ret (PyData.int 1))) (M.argD (M.op2 addD (M.var 10) (M.ret (PyData.int 1))) (M.argN))))))
    (S.ret (M.tup (M.argD (M.ite (M.orT (M.test (M.op2 geD (M.var 9) (M.var 6))) (M.test (M.op2 geD (M.var 10) (M.var 5)))) (M.var 12) (M.tup (M.argD (M.ret (PyData.str ("records" : Str))) (M.argD (M.var 9) (M.argD (M.var 10) (M.argD (M.tup (M.argN)) (M.argN))))))) (M.argD (M.var 13) (M.argN))))))))))
def F_f_law_tick (lvs : List LV) : FR := runF 3 14 none g_f_law_tick lvs
theorem ok_f_law_tick (T : Txt K mg fs fds us) : FnOk P w K mg base CX0 1 (fs 50) (fds 50) P_f_law_tick (spF K none F_f_law_tick) :=
  fn_pd (io := none) (k := 0) T.f_f_law_tick sc_f_law_tick (by decide) (fun cdv A outer s H E C hr hio hw => (have hu : A.units + 3 + 64 < cLine := hr.units
      (pds_cons (pd_asgT (pd_var 0) (pdg_tup rfl (pdgs_cons (pdg_nm (i := 3) (io_ne hio) sc_f_law_tick.nd) (pdgs_cons (pdg_nm (i := 4) (io_ne hio) sc_f_law_tick.nd) (pdgs_cons (pdg_nm (i := 5) (io_ne hio) sc_f_law_tick.nd) (pdgs_cons (pdg_nm (i := 6) (io_ne hio) sc_f_law_tick.nd) (pdgs_cons (pdg_nm (i := 7) (io_ne hio) sc_f_law_tick.nd) (pdgs_nil))))))))
      (pds_cons (pd_asgT (pd_var 1) (pdg_tup rfl (pdgs_cons (pdg_nm (i := 8) (io_ne hio) sc_f_law_tick.nd) (pdgs_cons (pdg_nm (i := 9) (io_ne hio) sc_f_law_tick.nd) (pdgs_cons (pdg_nm (i := 10) (io_ne hio) sc_f_law_tick.nd) (pdgs_cons (pdg_nm (i := 11) (io_ne hio) sc_f_law_tick.nd) (pdgs_nil)))))))
      (pds_cons (pd_set (i := 12) (io_ne hio) sc_f_law_tick.nd (pd_if (pdt_gt (pd_var 7) (pd_int)) (pd_tup (pda_cons (pd_str) (pda_cons (pd_var 7) (pda_cons (pd_int) (pda_cons (pd_tup (pda_nil)) (pda_nil)))))) (pd_tup (pda_cons (pd_str) (pda_cons (pd_int) (pda_cons (pd_int) (pda_cons (pd_tup (pda_nil)) (pda_nil))))))))
      (pds_cons (pd_ifS (pdt_eq hu (pd_var 8) (pd_str)) (pds_one (pd_ret (pd_tup (pda_cons (pd_if (pdt_ne hu (pd_var 9) (pd_int)) (pd_tup (pda_cons (pd_str) (pda_cons (pd_sub (pd_var 9) (pd_int)) (pda_cons (pd_int) (pda_cons (pd_tup (pda_nil)) (pda_nil)))))) (pd_tup (pda_cons (pd_str) (pda_cons (pd_int) (pda_cons (pd_int) (pda_cons (pd_tup (pda_nil)) (pda_nil))))))) (pda_cons (pd_int) (pda_nil)))))) (pds_nil))
      (pds_cons (pd_set (i := 13) (io_ne hio) sc_f_law_tick.nd (pd_int))
      (pds_cons (pd_ifS (pdt_eq hu (pd_var 8) (pd_str)) (pds_cons (pd_set (i := 11) (io_ne hio) sc_f_law_tick.nd (pd_add (pd_var 11) (pd_tup (pda_cons (pd_var 2) (pda_nil)))))
      (pds_cons (pd_ifS (pdt_ne hu (pd_slice (pd_var 11) (pdo_some (pd_neg (pd_var 3))) (pdo_none)) (pd_mulT (pd_tup (pda_cons (pd_bl) (pda_nil))) (pd_var 3))) (pds_cons (pd_while PassesOwn.never (pdt_ge (pd_len T.n_len (pda_cons (pd_var 11) (pda_nil))) (pd_add (pd_var 3) (pd_var 4))) (pds_one (pd_set (i := 11) (io_ne hio) sc_f_law_tick.nd (pd_slice (pd_var 11) (pdo_some (pd_int)) (pdo_none)))))
      (pds_one (pd_ret (pd_tup (pda_cons (pd_tup (pda_cons (pd_str) (pda_cons (pd_int) (pda_cons (pd_int) (pda_cons (pd_var 11) (pda_nil)))))) (pda_cons (pd_int) (pda_nil))))))) (pds_nil))
      (pds_cons (pd_set (i := 13) (io_ne hio) sc_f_law_tick.nd (pd_len T.n_len (pda_cons (pd_var 11) (pda_nil))))
      (pds_one (pd_par2 (i := 9) (j := 10) (io_ne hio) (io_ne hio) rfl sc_f_law_tick.nd (pda_cons (pd_var 13) (pda_cons (pd_int) (pda_nil)))))))) (pds_one (pd_ifS (pdt_val (pd_var 2)) (pds_one (pd_par2 (i := 9) (j := 10) (io_ne hio) (io_ne hio) rfl sc_f_law_tick.nd (pda_cons (pd_add (pd_var 9) (pd_int)) (pda_cons (pd_int) (pda_nil))))) (pds_one (pd_par2 (i := 9) (j := 10) (io_ne hio) (io_ne hio) rfl sc_f_law_tick.nd (pda_cons (pd_add (pd_var 9) (pd_int)) (pda_cons (pd_add (pd_var 10) (pd_int)) (pda_nil))))))))
      (pds_one (pd_ret (pd_tup (pda_cons (pd_if (pdt_w (pdw_or (pdt_ge (pd_var 9) (pd_var 6)) (pdw_or1 (pdt_ge (pd_var 10) (pd_var 5))))) (pd_var 12) (pd_tup (pda_cons (pd_str) (pda_cons (pd_var 9) (pda_cons (pd_var 10) (pda_cons (pd_tup (pda_nil)) (pda_nil))))))) (pda_cons (pd_var 13) (pda_nil))))))))))))))
def E_f_law_more_1 : M D := M.var 4
def T_f_law_more_1 : M Bool := M.ite (M.test (M.var 4)) (M.test (M.op2 ltD (M.var 3) (M.op2 ixD (M.var 0) (M.ret (PyData.int 1))))) (M.test (M.op2 geD (M.var 3) (M.op2 ixD (M.var 0) (M.ret (PyData.int 0)))))
def g_f_law_more : MS := S.seq (S.asgT (G.tup 2 (G.cons (G.nm 2) (G.cons (G.nm 3) (G.nil)))) (M.var 1))
    (S.seq (S.ite (M.test (M.var 2)) (S.retL (M.lc (M.items (M.known (M.lst (M.argD (M.ret (PyData.bool false)) (M.argD (M.ret (PyData.bool true)) (M.argN)))))) [4] (G.nm 4) (T_f_law_more_1) (E_f_law_more_1))) (S.nil))
    (S.ret (M.ite (M.test (M.op2 geD (M.var 3) (M.op2 ixD (M.var 0) (M.ret (PyData.int 2))))) (M.known (M.lst (M.argD (M.ret (PyData.bool false)) (M.argD (M.ret (PyData.bool true)) (M.argN))))) (M.known (M.lst (M.argD (M.ret (PyData.bool false)) (M.argN)))))))
def F_f_law_more (lvs : List LV) : FR := runF 2 5 none g_f_law_more lvs
theorem ok_f_law_more (T : Txt K mg fs fds us) : FnOk P w K mg base CX0 1 (fs 51) (fds 51) P_f_law_more (spF K none F_f_law_more) :=
  fn_pd (io := none) (k := 0) T.f_f_law_more sc_f_law_more (by decide) (fun cdv A outer s H E C hr hio hw => (have hu : A.units + 3 + 64 < cLine := hr.units
      (pds_cons (pd_asgT (pd_var 1) (pdg_tup rfl (pdgs_cons (pdg_nm (i := 2) (io_ne hio) sc_f_law_more.nd) (pdgs_cons (pdg_nm (i := 3) (io_ne hio) sc_f_law_more.nd) (pdgs_nil)))))
      (pds_cons (pd_ifS (pdt_val (pd_var 2)) (pds_one (pd_retL (pdl_lc (own := [(("one" : Str), 4)]) (io_nin hio) (by decide) rfl sc_f_law_more.nd (blkOk_by (N := N_f_law_more) (sc := defScope s_f_law_more) (by decide +kernel)) (pdi_seq (pd_l (pdl_lst (pda_cons (pd_bl) (pda_cons (pd_bl) (pda_nil)))))) (fun _ hc1 _ _ _ _ _ => pdg_nm (i := 4) (io_ne (io_eq hio hc1)) sc_f_law_more.nd) (fun _ hc1 _ _ _ _ _ => pdts_one (pdt_if (pdt_val (pd_var 4)) (pdt_lt (pd_var 3) (pd_sub_ (pd_var 0) (pd_int) (fun _ _ => rfl))) (pdt_ge (pd_var 3) (pd_sub_ (pd_var 0) (pd_int) (fun _ _ => rfl))))) (fun _ hc1 _ _ _ _ _ => pd_var 4)))) (pds_nil))
      (pds_one (pd_ret (pd_if (pdt_ge (pd_var 3) (pd_sub_ (pd_var 0) (pd_int) (fun _ _ => rfl))) (pd_l (pdl_lst (pda_cons (pd_bl) (pda_cons (pd_bl) (pda_nil))))) (pd_l (pdl_lst (pda_cons (pd_bl) (pda_nil)))))))))))
def g_f_law_on : MS := S.seq (S.ite (M.test (M.op2 neDD (M.var 2) (M.op2 ixD (M.var 1) (M.ret (PyData.int 0))))) (S.ret (M.tup (M.argD (M.var 2) (M.argD (M.ret (PyData.int 1)) (M.argN))))) (S.nil))
    (S.ret (M.tup (M.argD (M.var 2) (M.argD (M.ite (M.test (M.var 2)) (M.op2 addD (M.op2 ixD (M.var 1) (M.ret (PyData.int 1))) (M.ret (PyData.int 1))) (M.call minD (M.argD (M.ret (PyData.int 4)) (M.argD (M.op2 addD (M.op2 ixD (M.var 1) (M.ret (PyData.int 1))) (M.ret (PyData.int 1))) (M.argN))))) (M.argN)))))
def F_f_law_on (lvs : List LV) : FR := runF 3 3 none g_f_law_on lvs
theorem ok_f_law_on (T : Txt K mg fs fds us) : FnOk P w K mg base CX0 1 (fs 52) (fds 52) P_f_law_on (spF K none F_f_law_on) :=
  fn_pd (io := none) (k := 0) T.f_f_law_on sc_f_law_on (by decide) (fun cdv A outer s H E C hr hio hw => (have hu : A.units + 3 + 64 < cLine := hr.units
      (pds_cons (pd_ifS (pdt_ne hu (pd_var 2) (pd_sub_ (pd_var 1) (pd_int) (fun _ _ => rfl))) (pds_one (pd_ret (pd_tup (pda_cons (pd_var 2) (pda_cons (pd_int) (pda_nil)))))) (pds_nil))
      (pds_one (pd_ret (pd_tup (pda_cons (pd_var 2) (pda_cons (pd_if (pdt_val (pd_var 2)) (pd_add (pd_sub_ (pd_var 1) (pd_int) (fun _ _ => rfl)) (pd_int)) (pd_min rfl T.n_min (pda_cons (pd_int) (pda_cons (pd_add (pd_sub_ (pd_var 1) (pd_int) (fun _ _ => rfl)) (pd_int)) (pda_nil))))) (pda_nil)))))))))
def g_f_law_noted : MS := S.seq (S.asgT (G.tup 6 (G.cons (G.nm 5) (G.cons (G.nm 6) (G.cons (G.nm 7) (G.cons (G.nm 8) (G.cons (G.nm 9) (G.cons (G.nm 10) (G.nil)))))))) (M.var 0))
    (S.seq (S.asg 5 (M.call minD (M.argD (M.ret (PyData.int 7)) (M.argD (M.op2 addD (M.var 5) (M.ret (PyData.int 1))) (M.argN)))))
    (S.seq (S.ite (M.andT (M.test (M.op2 eqDD (M.var 6) (M.ret (PyData.int 0)))) (M.test (M.var 3))) (S.asg 8 (M.ret (PyData.bool false))) (S.asg 6 (M.call minD (M.argD (M.ret (PyData.int 7)) (M.argD (M.op2 addD (M.var 6) (M.ret (PyData.int 1))) (M.argN))))))
    (S.seq (S.ite (M.test (M.op2 neDD (M.op2 ixD (M.var 1) (M.ret (PyData.int 0))) (M.ret (PyData.str ("records" : Str))))) (S.asg 10 (M.ret (PyData.bool false))) (S.nil))
    (S.seq (S.ite (M.test (M.op2 ltD (M.var 6) (M.var 4))) (S.seq (S.asg 9 (M.call minD (M.argD (M.ret (PyData.int 2)) (M.argD (M.op2 subD (M.op2 addD (M.var 9) (M.ret (PyData.int 1))) (M.call intD (M.argD (M.var 10) (M.argN)))) (M.argN)))))
    (S.par3 7 8 10 (M.argD (M.orV (M.var 7) (M.op2 ltD (M.var 5) (M.var 4))) (M.argD (M.ret (PyData.bool true)) (M.argD (M.ret (PyData.bool true)) (M.argN)))))) (S.nil))
    (S.ret (M.tup (M.argD (M.var 5) (M.argD (M.var 6) (M.argD (M.var 7) (M.argD (M.var 8) (M.argD (M.var 9) (M.argD (M.andV (M.var 10) (M.op2 eqDD (M.op2 ixD (M.var 2) (M.ret (PyData.int 0))) (M.ret (PyData.str ("records" : Str))))) (M.argN)))))))))))))
def F_f_law_noted (lvs : List LV) : FR := runF 5 11 none g_f_law_noted lvs
theorem ok_f_law_noted (T : Txt K mg fs fds us) : FnOk P w K mg base CX0 1 (fs 53) (fds 53) P_f_law_noted (spF K none F_f_law_noted) :=
  fn_pd (io := none) (k := 0) T.f_f_law_noted sc_f_law_noted (by decide) (fun cdv A outer s H E C hr hio hw => (have hu : A.units + 3 + 64 < cLine := hr.units
      (pds_cons (pd_asgT (pd_var 0) (pdg_tup rfl (pdgs_cons (pdg_nm (i := 5) (io_ne hio) sc_f_law_noted.nd) (pdgs_cons (pdg_nm (i := 6) (io_ne hio) sc_f_law_noted.nd) (pdgs_cons (pdg_nm (i := 7) (io_ne hio) sc_f_law_noted.nd) (pdgs_cons (pdg_nm (i := 8) (io_ne hio) sc_f_law_noted.nd) (pdgs_cons (pdg_nm (i := 9) (io_ne hio) sc_f_law_noted.nd) (pdgs_cons (pdg_nm (i := 10) (io_ne hio) sc_f_law_noted.nd) (pdgs_nil)))))))))
      (pds_cons (pd_set (i := 5) (io_ne hio) sc_f_law_noted.nd (pd_min rfl T.n_min (pda_cons (pd_int) (pda_cons (pd_add (pd_var 5) (pd_int)) (pda_nil)))))
      (pds_cons (pd_ifS (pdt_w (pdw_and (pdt_eq hu (pd_var 6) (pd_int)) (pdw_and1 (pdt_val (pd_var 3))))) (pds_one (pd_set (i := 8) (io_ne hio) sc_f_law_noted.nd (pd_bl))) (pds_one (pd_set (i := 6) (io_ne hio) sc_f_law_noted.nd (pd_min rfl T.n_min (pda_cons (pd_int) (pda_cons (pd_add (pd_var 6) (pd_int)) (pda_nil)))))))
      (pds_cons (pd_ifS (pdt_ne hu (pd_sub_ (pd_var 1) (pd_int) (fun _ _ => rfl)) (pd_str)) (pds_one (pd_set (i := 10) (io_ne hio) sc_f_law_noted.nd (pd_bl))) (pds_nil))
      (pds_cons (pd_ifS (pdt_lt (pd_var 6) (pd_var 4)) (pds_cons (pd_set (i := 9) (io_ne hio) sc_f_law_noted.nd (pd_min rfl T.n_min (pda_cons (pd_int) (pda_cons (pd_sub (pd_add (pd_var 9) (pd_int)) (pd_int1 T.n_int (pda_cons (pd_var 10) (pda_nil)))) (pda_nil)))))
      (pds_one (pd_par3 (i := 7) (j := 8) (l := 10) (io_ne hio) (io_ne hio) (io_ne hio) rfl sc_f_law_noted.nd (pda_cons (pd_or (pd_var 7) (pd_one (pd_lt (pd_var 5) (pd_var 4)))) (pda_cons (pd_bl) (pda_cons (pd_bl) (pda_nil))))))) (pds_nil))
      (pds_one (pd_ret (pd_tup (pda_cons (pd_var 5) (pda_cons (pd_var 6) (pda_cons (pd_var 7) (pda_cons (pd_var 8) (pda_cons (pd_var 9) (pda_cons (pd_and (pd_var 10) (pd_one (pd_eq hu (pd_sub_ (pd_var 2) (pd_int) (fun _ _ => rfl)) (pd_str)))) (pda_nil)))))))))))))))))
def g_f_law_bad : MS := S.seq (S.asgT (G.tup 6 (G.cons (G.nm 2) (G.cons (G.nm 3) (G.cons (G.nm 4) (G.cons (G.nm 5) (G.cons (G.nm 6) (G.cons (G.nm 7) (G.nil)))))))) (M.var 0))
    (S.ret (M.dget [((.inr ("lost" : Str) : Key), (M.op2 eqDD (M.var 6) (M.ret (PyData.int 0)) : M D)), ((.inr ("late" : Str) : Key), (M.andV (M.op2 gtD (M.var 6) (M.ret (PyData.int 0))) (M.op1 notD (M.var 4)) : M D)), ((.inr ("early" : Str) : Key), (M.andV (M.op2 gtD (M.var 6) (M.ret (PyData.int 0))) (M.op1 notD (M.var 5)) : M D))] (M.var 1) (M.op2 eqDD (M.var 6) (M.ret (PyData.int 2)))))
def F_f_law_bad (lvs : List LV) : FR := runF 2 8 none g_f_law_bad lvs
theorem ok_f_law_bad (T : Txt K mg fs fds us) : FnOk P w K mg base CX0 1 (fs 54) (fds 54) P_f_law_bad (spF K none F_f_law_bad) :=
  fn_pd (io := none) (k := 0) T.f_f_law_bad sc_f_law_bad (by decide) (fun cdv A outer s H E C hr hio hw => (have hu : A.units + 3 + 64 < cLine := hr.units
      (pds_cons (pd_asgT (pd_var 0) (pdg_tup rfl (pdgs_cons (pdg_nm (i := 2) (io_ne hio) sc_f_law_bad.nd) (pdgs_cons (pdg_nm (i := 3) (io_ne hio) sc_f_law_bad.nd) (pdgs_cons (pdg_nm (i := 4) (io_ne hio) sc_f_law_bad.nd) (pdgs_cons (pdg_nm (i := 5) (io_ne hio) sc_f_law_bad.nd) (pdgs_cons (pdg_nm (i := 6) (io_ne hio) sc_f_law_bad.nd) (pdgs_cons (pdg_nm (i := 7) (io_ne hio) sc_f_law_bad.nd) (pdgs_nil)))))))))
      (pds_one (pd_ret (pd_dget (u9 hu) (PDps.cons pe_kstr (fun _ hg1 => pd_eq hu (pd_var 6) (pd_int)) (PDps.cons pe_kstr (fun _ hg1 => pd_and (pd_gt (pd_var 6) (pd_int)) (pd_one (pd_not (pd_var 4)))) (PDps.cons pe_kstr (fun _ hg1 => pd_and (pd_gt (pd_var 6) (pd_int)) (pd_one (pd_not (pd_var 5)))) PDps.nil))) (fun _ hg1 => pd_var 1) (fun _ hg1 => pd_eq hu (pd_var 6) (pd_int)) ⟨rfl, rfl, rfl, rfl⟩ (by decide) (by decide) (by decide)))))))
def E_f_law_groups_1 : M D := M.var 1
def T_f_law_groups_1 : M Bool := M.andT (M.test (M.op2 ixD (M.var 0) (M.var 1))) (M.orT (M.test (M.op2 eqDD (M.var 1) (M.ret (PyData.int 0)))) (M.notT (M.test (M.op2 ixD (M.var 0) (M.op2 subD (M.var 1) (M.ret (PyData.int 1)))))))
def g_f_law_groups : MS := S.ret (M.call lenD (M.argD (M.known (M.lc (M.callL range1D (M.argD (M.call lenD (M.argD (M.var 0) (M.argN))) (M.argN))) [1] (G.nm 1) (T_f_law_groups_1) (E_f_law_groups_1))) (M.argN)))
def F_f_law_groups (lvs : List LV) : FR := runF 1 2 none g_f_law_groups lvs
theorem ok_f_law_groups (T : Txt K mg fs fds us) : FnOk P w K mg base CX0 1 (fs 55) (fds 55) P_f_law_groups (spF K none F_f_law_groups) :=
  fn_pd (io := none) (k := 0) T.f_f_law_groups sc_f_law_groups (by decide) (fun cdv A outer s H E C hr hio hw => (have hu : A.units + 3 + 64 < cLine := hr.units
      (pds_one (pd_ret (pd_len T.n_len (pda_cons (pd_l (pdl_lc (own := [(("at" : Str), 1)]) (io_nin hio) (by decide) rfl sc_f_law_groups.nd (blkOk_by (N := N_f_law_groups) (sc := defScope s_f_law_groups) (by decide +kernel)) (pdi_range1 T.n_range (pda_cons (pd_len T.n_len (pda_cons (pd_var 0) (pda_nil))) (pda_nil))) (fun _ hc1 _ _ _ _ _ => pdg_nm (i := 1) (io_ne (io_eq hio hc1)) sc_f_law_groups.nd) (fun _ hc1 _ _ _ _ _ => pdts_one (pdt_w (pdw_and (pdt_val (pd_sub_ (pd_var 0) (pd_var 1) (fun _ _ => rfl))) (pdw_and1 (pdt_w (pdw_or (pdt_eq hu (pd_var 1) (pd_int)) (pdw_or1 (pdt_not (pdt_val (pd_sub_ (pd_var 0) (pd_sub (pd_var 1) (pd_int)) (fun _ _ => rfl))))))))))) (fun _ hc1 _ _ _ _ _ => pd_var 1))) (pda_nil)))))))
def g_f_law_after_note : MS := S.seq (S.ite (M.test (M.op2 neDD (M.var 0) (M.ret (PyData.str ("joined" : Str))))) (S.seq (S.ite (M.test (M.op2 notND (M.var 1) (M.ret PyData.none))) (S.retL (M.lst (M.argD (M.fn none (F_f_law_noted) (M.argD (M.var 1) (M.argD (M.var 3) (M.argD (M.var 4) (M.argD (M.var 5) (M.argD (M.var 6) (M.argN))))))) (M.argN)))) (S.nil))
    (S.seq (S.asg 7 (M.tup (M.argD (M.op1 negD (M.ret (PyData.int 1))) (M.argD (M.ret (PyData.int 0)) (M.argD (M.ret (PyData.bool false)) (M.argD (M.ret (PyData.bool false)) (M.argD (M.ret (PyData.int 0)) (M.argD (M.ret (PyData.bool false)) (M.argN)))))))))
    (S.ret (M.known (M.catL (M.known (M.lst (M.argD (M.ret PyData.none) (M.argN)))) (M.known (M.repL (M.lst (M.argD (M.fn none (F_f_law_noted) (M.argD (M.var 7) (M.argD (M.var 3) (M.argD (M.var 4) (M.argD (M.var 5) (M.argD (M.var 6) (M.argN))))))) (M.argN))) (M.call intD (M.argD (M.andV (M.var 5) (M.op1 notD (M.op2 ixD (M.var 2) (M.ret (PyData.int 0))))) (M.argN)))))))))) (S.nil))
    (S.seq (S.ite (M.orT (M.test (M.op2 eqDD (M.var 6) (M.ret (PyData.int 0)))) (M.test (M.op2 eqDD (M.var 1) (M.ret (PyData.int 9))))) (S.retL (M.lst (M.argD (M.ite (M.test (M.op2 eqDD (M.var 1) (M.ret (PyData.int 9)))) (M.ret (PyData.int 9)) (M.ret (PyData.int 0))) (M.argN)))) (S.nil))
    (S.seq (S.asg 8 (M.ite (M.test (M.op2 eqDD (M.op2 ixD (M.var 3) (M.ret (PyData.int 0))) (M.ret (PyData.str ("records" : Str))))) (M.op2 addD (M.var 1) (M.call intD (M.argD (M.andV (M.var 5) (M.op2 gtD (M.op2 ixD (M.var 3) (M.ret (PyData.int 2))) (M.ret (PyData.int 0)))) (M.argN)))) (M.fn none (F_f_law_groups) (M.argD (M.op2 addD (M.op2 ixD (M.var 3) (M.ret (PyData.int 3))) (M.tup (M.argD (M.var 5) (M.argN)))) (M.argN)))))
    (S.retL (M.lst (M.argD (M.ite (M.test (M.op2 gtD (M.var 8) (M.ret (PyData.int 1)))) (M.ret (PyData.int 9)) (M.ite (M.test (M.op2 eqDD (M.op2 ixD (M.var 4) (M.ret (PyData.int 0))) (M.ret (PyData.str ("records" : Str))))) (M.var 8) (M.ret (PyData.int 0)))) (M.argN))))))
def F_f_law_after_note (lvs : List LV) : FR := runF 7 9 none g_f_law_after_note lvs
theorem ok_f_law_after_note (T : Txt K mg fs fds us) : FnOk P w K mg base CX0 2 (fs 56) (fds 56) P_f_law_after_note (spF K none F_f_law_after_note) :=
  fn_pd (io := none) (k := 1) T.f_f_law_after_note sc_f_law_after_note (by decide) (fun cdv A outer s H E C hr hio hw => (have hu : A.units + 3 + 64 < cLine := hr.units
      (pds_cons (pd_ifS (pdt_ne hu (pd_var 0) (pd_str)) (pds_cons (pd_ifS (pdt_isnot (pd_var 1) (pd_non)) (pds_one (pd_retL (pdl_lst (pda_cons (pd_fn (ok_f_law_noted T) (hr.mono (by omega)) T.m_f_law_noted T.f_f_law_noted.kp T.b_f_law_noted (pda_cons (pd_var 1) (pda_cons (pd_var 3) (pda_cons (pd_var 4) (pda_cons (pd_var 5) (pda_cons (pd_var 6) (pda_nil))))))) (pda_nil))))) (pds_nil))
      (pds_cons (pd_set (i := 7) (io_ne hio) sc_f_law_after_note.nd (pd_tup (pda_cons (pd_neg (pd_int)) (pda_cons (pd_int) (pda_cons (pd_bl) (pda_cons (pd_bl) (pda_cons (pd_int) (pda_cons (pd_bl) (pda_nil)))))))))
      (pds_one (pd_ret (pd_l (pdl_cat (pd_l (pdl_lst (pda_cons (pd_non) (pda_nil)))) (pd_l (pdl_rep (pdl_lst (pda_cons (pd_fn (ok_f_law_noted T) (hr.mono (by omega)) T.m_f_law_noted T.f_f_law_noted.kp T.b_f_law_noted (pda_cons (pd_var 7) (pda_cons (pd_var 3) (pda_cons (pd_var 4) (pda_cons (pd_var 5) (pda_cons (pd_var 6) (pda_nil))))))) (pda_nil))) (fun _ hr1 => pd_int1 T.n_int (pda_cons (pd_and (pd_var 5) (pd_one (pd_not (pd_sub_ (pd_var 2) (pd_int) (fun _ _ => rfl))))) (pda_nil))))))))))) (pds_nil))
      (pds_cons (pd_ifS (pdt_w (pdw_or (pdt_eq hu (pd_var 6) (pd_int)) (pdw_or1 (pdt_eq hu (pd_var 1) (pd_int))))) (pds_one (pd_retL (pdl_lst (pda_cons (pd_if (pdt_eq hu (pd_var 1) (pd_int)) (pd_int) (pd_int)) (pda_nil))))) (pds_nil))
      (pds_cons (pd_set (i := 8) (io_ne hio) sc_f_law_after_note.nd (pd_if (pdt_eq hu (pd_sub_ (pd_var 3) (pd_int) (fun _ _ => rfl)) (pd_str)) (pd_add (pd_var 1) (pd_int1 T.n_int (pda_cons (pd_and (pd_var 5) (pd_one (pd_gt (pd_sub_ (pd_var 3) (pd_int) (fun _ _ => rfl)) (pd_int)))) (pda_nil)))) (pd_fn (ok_f_law_groups T) (hr.mono (by omega)) T.m_f_law_groups T.f_f_law_groups.kp T.b_f_law_groups (pda_cons (pd_add (pd_sub_ (pd_var 3) (pd_int) (fun _ _ => rfl)) (pd_tup (pda_cons (pd_var 5) (pda_nil)))) (pda_nil)))))
      (pds_one (pd_retL (pdl_lst (pda_cons (pd_if (pdt_gt (pd_var 8) (pd_int)) (pd_int) (pd_if (pdt_eq hu (pd_sub_ (pd_var 4) (pd_int) (fun _ _ => rfl)) (pd_str)) (pd_var 8) (pd_int))) (pda_nil))))))))))
def B_f_law_first_3 : MS := S.seq (S.asg 16 (M.tup (M.argD (M.fn none (F_f_law_on) (M.argD (M.var 3) (M.argD (M.var 8) (M.argD (M.var 12) (M.argN))))) (M.argD (M.var 13) (M.argD (M.var 15) (M.argN))))))
    (S.ite (M.test (M.inK true 5 (M.var 16))) (S.seq (S.setK 5 (M.op2 addD (M.var 11) (M.tup (M.argD (M.var 12) (M.argN)))) (M.var 16))
    (S.app 6 (M.var 16))) (S.nil))
def B_f_law_first_2 : MS := S.seq (S.asgT (G.tup 2 (G.cons (G.nm 13) (G.cons (G.nm 14) (G.nil)))) (M.fn none (F_f_law_tick) (M.argD (M.var 2) (M.argD (M.var 9) (M.argD (M.var 12) (M.argN))))))
    (S.for_ (M.items (M.fn none (F_f_law_after_note) (M.argD (M.var 1) (M.argD (M.var 10) (M.argD (M.var 8) (M.argD (M.var 9) (M.argD (M.var 13) (M.argD (M.var 12) (M.argD (M.var 14) (M.argN)))))))))) (G.nm 15) (B_f_law_first_3))
def W_f_law_first_1 : M Bool := M.test (M.op2 ltD (M.var 7) (M.borrow (M.call lenD (M.argD (M.var 6) (M.argN)))))
def B_f_law_first_1 : MS := S.seq (S.asgT (G.tup 3 (G.cons (G.nm 8) (G.cons (G.nm 9) (G.cons (G.nm 10) (G.nil))))) (M.subO 6 (M.var 7)))
    (S.seq (S.par2 11 7 (M.argD (M.subK 5 (M.subO 6 (M.var 7))) (M.argD (M.op2 addD (M.var 7) (M.ret (PyData.int 1))) (M.argN))))
    (S.seq (S.ite (M.orT (M.test (M.op2 geD (M.op2 ixD (M.var 8) (M.ret (PyData.int 1))) (M.op2 ixD (M.var 3) (M.ret (PyData.int 0))))) (M.notT (M.test (M.op2 ixD (M.var 8) (M.ret (PyData.int 0)))))) (S.ite (M.orT (M.test (M.op2 eqDD (M.var 10) (M.ret (PyData.int 9)))) (M.andT (M.test (M.op2 neDD (M.var 1) (M.ret (PyData.str ("joined" : Str))))) (M.andT (M.test (M.op2 notND (M.var 10) (M.ret PyData.none))) (M.test (M.fn none (F_f_law_bad) (M.argD (M.var 10) (M.argD (M.var 1) (M.argN)))))))) (S.ret (M.var 11)) (S.nil)) (S.nil))
    (S.for_ (M.items (M.fn none (F_f_law_more) (M.argD (M.var 3) (M.argD (M.var 8) (M.argN))))) (G.nm 12) (B_f_law_first_2))))
def g_f_law_first : MS := S.seq (S.asgT (G.tup 2 (G.cons (G.nm 2) (G.cons (G.nm 3) (G.nil)))) (M.var 0))
    (S.seq (S.asg 4 (M.tup (M.argD (M.tup (M.argD (M.ret (PyData.bool false)) (M.argD (M.ret (PyData.int 4)) (M.argN)))) (M.argD (M.tup (M.argD (M.ret (PyData.str ("awake" : Str))) (M.argD (M.ret (PyData.int 0)) (M.argD (M.ret (PyData.int 0)) (M.argD (M.tup (M.argN)) (M.argN)))))) (M.argD (M.ite (M.test (M.op2 eqDD (M.var 1) (M.ret (PyData.str ("joined" : Str))))) (M.ret (PyData.int 0)) (M.ret PyData.none)) (M.argN))))))
    (S.seq (S.parN [5, 6, 7] (M.nC (M.dict1 (M.var 4) (M.tup (M.argN))) (M.nC (M.nL (M.lst (M.argD (M.var 4) (M.argN)))) (M.nC (M.nD (M.ret (PyData.int 0))) (M.ret [])))))
    (S.seq (S.while_ (W_f_law_first_1) (B_f_law_first_1))
    (S.ret (M.ret PyData.none)))))
def F_f_law_first (lvs : List LV) : FR := runF 2 17 none g_f_law_first lvs
theorem ok_f_law_first (T : Txt K mg fs fds us) : FnOk P w K mg base CX0 3 (fs 57) (fds 57) P_f_law_first (spF K none F_f_law_first) :=
  fn_pd (io := none) (k := 2) T.f_f_law_first sc_f_law_first (by decide) (fun cdv A outer s H E C hr hio hw => (have hu : A.units + 3 + 64 < cLine := hr.units
      (pds_cons (pd_asgT (pd_var 0) (pdg_tup rfl (pdgs_cons (pdg_nm (i := 2) (io_ne hio) sc_f_law_first.nd) (pdgs_cons (pdg_nm (i := 3) (io_ne hio) sc_f_law_first.nd) (pdgs_nil)))))
      (pds_cons (pd_set (i := 4) (io_ne hio) sc_f_law_first.nd (pd_tup (pda_cons (pd_tup (pda_cons (pd_bl) (pda_cons (pd_int) (pda_nil)))) (pda_cons (pd_tup (pda_cons (pd_str) (pda_cons (pd_int) (pda_cons (pd_int) (pda_cons (pd_tup (pda_nil)) (pda_nil)))))) (pda_cons (pd_if (pdt_eq hu (pd_var 1) (pd_str)) (pd_int) (pd_non)) (pda_nil))))))
      (pds_cons (pd_parN3 (i := 5) (j := 6) (l := 7) (io_ne hio) (io_ne hio) (io_ne hio) rfl sc_f_law_first.nd (pdns_cons (pdn_k1 hw (u9 hu) (fun _ hd2 => pd_var 4) (fun _ hd2 => pd_tup (pda_nil))) (fun _ hn3 => pdns_cons (pdn_l (pdl_lst (pda_cons (pd_var 4) (pda_nil)))) (fun _ hn4 => pdns_cons (pdn_d (pd_int)) (fun _ hn5 => pdns_nil)))))
      (pds_cons (pd_while PassesOwn.never (pdt_lt (pd_var 7) (pd_borrow (fun _ hb1 => pd_len T.n_len (pda_cons (pd_var 6) (pda_nil))))) (pds_cons (pd_asgT (pd_subO 6 (pd_var 7) (fun _ _ => rfl)) (pdg_tup rfl (pdgs_cons (pdg_nm (i := 8) (io_ne hio) sc_f_law_first.nd) (pdgs_cons (pdg_nm (i := 9) (io_ne hio) sc_f_law_first.nd) (pdgs_cons (pdg_nm (i := 10) (io_ne hio) sc_f_law_first.nd) (pdgs_nil))))))
      (pds_cons (pd_par2 (i := 11) (j := 7) (io_ne hio) (io_ne hio) rfl sc_f_law_first.nd (pda_cons (pd_subK 5 hw (u9 hu) (pd_subO 6 (pd_var 7) (fun _ _ => rfl)) (fun _ _ => rfl)) (pda_cons (pd_add (pd_var 7) (pd_int)) (pda_nil))))
      (pds_cons (pd_ifS (pdt_w (pdw_or (pdt_ge (pd_sub_ (pd_var 8) (pd_int) (fun _ _ => rfl)) (pd_sub_ (pd_var 3) (pd_int) (fun _ _ => rfl))) (pdw_or1 (pdt_not (pdt_val (pd_sub_ (pd_var 8) (pd_int) (fun _ _ => rfl))))))) (pds_one (pd_ifS (pdt_w (pdw_or (pdt_eq hu (pd_var 10) (pd_int)) (pdw_or1 (pdt_w (pdw_and (pdt_ne hu (pd_var 1) (pd_str)) (pdw_and (pdt_isnot (pd_var 10) (pd_non)) (pdw_and1 (pdt_val (pd_fn (ok_f_law_bad T) (hr.mono (by omega)) T.m_f_law_bad T.f_f_law_bad.kp T.b_f_law_bad (pda_cons (pd_var 10) (pda_cons (pd_var 1) (pda_nil)))))))))))) (pds_one (pd_ret (pd_var 11))) (pds_nil))) (pds_nil))
      (pds_one (pd_for PassesOwn.never rfl (pdi_seq (pd_fn (ok_f_law_more T) (hr.mono (by omega)) T.m_f_law_more T.f_f_law_more.kp T.b_f_law_more (pda_cons (pd_var 3) (pda_cons (pd_var 8) (pda_nil))))) (pdg_nm (i := 12) (io_ne hio) sc_f_law_first.nd) (pds_cons (pd_asgT (pd_fn (ok_f_law_tick T) (hr.mono (by omega)) T.m_f_law_tick T.f_f_law_tick.kp T.b_f_law_tick (pda_cons (pd_var 2) (pda_cons (pd_var 9) (pda_cons (pd_var 12) (pda_nil))))) (pdg_tup rfl (pdgs_cons (pdg_nm (i := 13) (io_ne hio) sc_f_law_first.nd) (pdgs_cons (pdg_nm (i := 14) (io_ne hio) sc_f_law_first.nd) (pdgs_nil)))))
      (pds_one (pd_for PassesOwn.never rfl (pdi_seq (pd_fn (ok_f_law_after_note T) (hr.mono (by omega)) T.m_f_law_after_note T.f_f_law_after_note.kp T.b_f_law_after_note (pda_cons (pd_var 1) (pda_cons (pd_var 10) (pda_cons (pd_var 8) (pda_cons (pd_var 9) (pda_cons (pd_var 13) (pda_cons (pd_var 12) (pda_cons (pd_var 14) (pda_nil)))))))))) (pdg_nm (i := 15) (io_ne hio) sc_f_law_first.nd) (pds_cons (pd_set (i := 16) (io_ne hio) sc_f_law_first.nd (pd_tup (pda_cons (pd_fn (ok_f_law_on T) (hr.mono (by omega)) T.m_f_law_on T.f_f_law_on.kp T.b_f_law_on (pda_cons (pd_var 3) (pda_cons (pd_var 8) (pda_cons (pd_var 12) (pda_nil))))) (pda_cons (pd_var 13) (pda_cons (pd_var 15) (pda_nil))))))
      (pds_one (pd_ifS (pdt_notInK 5 hw (u9 hu) (pd_var 16)) (pds_cons (pd_setK 5 (io_ne hio) hw (u9 hu) (pd_add (pd_var 11) (pd_tup (pda_cons (pd_var 12) (pda_nil)))) (pd_var 16))
      (pds_one (pd_app 6 (pd_var 16)))) (pds_nil)))))))))))))
      (pds_one (pd_ret (pd_non)))))))))
def g_f_law_lets : MS := S.seq (S.asgT (G.tup 5 (G.cons (G.nm 1) (G.cons (G.nm 2) (G.cons (G.nm 3) (G.cons (G.nm 4) (G.cons (G.nm 5) (G.nil))))))) (M.var 0))
    (S.seq (S.ite (M.orT (M.notT (M.test (M.chain leD leD (M.ret (PyData.int 1)) (M.var 1) (M.ret (PyData.int 3))))) (M.orT (M.notT (M.test (M.chain leD leD (M.ret (PyData.int 0)) (M.var 2) (M.ret (PyData.int 3))))) (M.notT (M.test (M.chain leD leD (M.ret (PyData.int 1)) (M.var 3) (M.ret (PyData.int 3))))))) (S.ret (M.ret (PyData.bool false))) (S.nil))
    (S.ret (M.andV (M.chain leD leD (M.op2 addD (M.var 1) (M.var 2)) (M.var 4) (M.ret (PyData.int 10))) (M.chain leD leD (M.ret (PyData.int 0)) (M.var 5) (M.ret (PyData.int 3))))))
def F_f_law_lets (lvs : List LV) : FR := runF 1 6 none g_f_law_lets lvs
theorem ok_f_law_lets (T : Txt K mg fs fds us) : FnOk P w K mg base CX0 1 (fs 58) (fds 58) P_f_law_lets (spF K none F_f_law_lets) :=
  fn_pd (io := none) (k := 0) T.f_f_law_lets sc_f_law_lets (by decide) (fun cdv A outer s H E C hr hio hw => (have hu : A.units + 3 + 64 < cLine := hr.units
      (pds_cons (pd_asgT (pd_var 0) (pdg_tup rfl (pdgs_cons (pdg_nm (i := 1) (io_ne hio) sc_f_law_lets.nd) (pdgs_cons (pdg_nm (i := 2) (io_ne hio) sc_f_law_lets.nd) (pdgs_cons (pdg_nm (i := 3) (io_ne hio) sc_f_law_lets.nd) (pdgs_cons (pdg_nm (i := 4) (io_ne hio) sc_f_law_lets.nd) (pdgs_cons (pdg_nm (i := 5) (io_ne hio) sc_f_law_lets.nd) (pdgs_nil))))))))
      (pds_cons (pd_ifS (pdt_w (pdw_or (pdt_not (pdt_lele (pd_int) (pd_var 1) (pd_int))) (pdw_or (pdt_not (pdt_lele (pd_int) (pd_var 2) (pd_int))) (pdw_or1 (pdt_not (pdt_lele (pd_int) (pd_var 3) (pd_int))))))) (pds_one (pd_ret (pd_bl))) (pds_nil))
      (pds_one (pd_ret (pd_and (pd_lele (pd_add (pd_var 1) (pd_var 2)) (pd_var 4) (pd_int)) (pd_one (pd_lele (pd_int) (pd_var 5) (pd_int))))))))))
def E_law_4 : M D := M.var 13
def T_law_4 : M Bool := M.test (M.op2 notND (M.fn none (F_f_law_first) (M.argD (M.tup (M.argD (M.var 11) (M.argD (M.var 5) (M.argN)))) (M.argD (M.var 13) (M.argN)))) (M.ret PyData.none))
def B_law_3 : MS := S.seq (S.asg 11 (M.op2 addD (M.op2 addD (M.slice (M.var 4) (M.ret none) (M.part (M.var 7))) (M.tup (M.argD (M.var 10) (M.argN)))) (M.slice (M.var 4) (M.part (M.op2 addD (M.var 7) (M.ret (PyData.int 1)))) (M.ret none))))
    (S.ite (M.test (M.fn none (F_f_law_lets) (M.argD (M.var 11) (M.argN)))) (S.seq (S.asg 12 (M.known (M.lc (M.items (M.var 8)) [13] (G.nm 13) (T_law_4) (E_law_4))))
    (S.asg 9 (M.known (M.catL (M.var 9) (M.known (M.repL (M.lst (M.argD (M.var 10) (M.argN))) (M.call intD (M.argD (M.op2 eqDD (M.var 12) (M.known (M.lst (M.argN)))) (M.argN))))))))) (S.nil))
def E_law_5 : M D := M.var 13
def T_law_5 : M Bool := M.test (M.op2 eqDD (M.fn (some 0) (F_f_law_pick) (M.argS 3 (M.argD (M.ret (PyData.int 3)) (M.argN)))) (M.ret (PyData.int 0)))
def B_law_2 : MS := S.seq (S.asg 7 (M.fn (some 0) (F_f_law_pick) (M.argS 3 (M.argD (M.ret (PyData.int 5)) (M.argN)))))
    (S.seq (S.asg 8 (M.known (M.sliceL (M.known (M.lc (M.items (M.known (M.lst (M.argD (M.ret (PyData.str ("early" : Str))) (M.argD (M.ret (PyData.str ("joined" : Str))) (M.argD (M.ret (PyData.str ("late" : Str))) (M.argD (M.ret (PyData.str ("lost" : Str))) (M.argD (M.ret (PyData.str ("parted" : Str))) (M.argN))))))))) [13] (G.nm 13) (T_law_5) (E_law_5))) (M.ret none) (M.part (M.ret (PyData.int 2))))))
    (S.seq (S.asg 9 (M.known (M.lst (M.argN))))
    (S.seq (S.for_ (M.callL range1D (M.argD (M.ret (PyData.int 11)) (M.argN))) (G.nm 10) (B_law_3))
    (S.ite (M.notT (M.test (M.fn none (F_f_law_twins 8) (M.argD (M.fn none (F_good_values) (M.argD (M.tup (M.argD (M.var 4) (M.argD (M.var 5) (M.argN)))) (M.argD (M.op2 ixD (M.var 1) (M.var 7)) (M.argD (M.call tupleD (M.argD (M.var 8) (M.argN))) (M.argN))))) (M.argD (M.var 9) (M.argN)))))) (S.ret (M.ret (PyData.bool false))) (S.nil)))))
def B_law_1 : MS := S.seq (S.own 3 (M.fnL none (F_f_law_spring) (M.argD (M.var 0) (M.argD (M.var 2) (M.argN)))))
    (S.seq (S.asgT (G.tup 2 (G.cons (G.nm 4) (G.cons (G.nm 5) (G.nil)))) (M.tup (M.argD (M.fn (some 0) (F_f_law_recorder) (M.argS 3 (M.argN))) (M.argD (M.fn (some 0) (F_f_law_world) (M.argS 3 (M.argN))) (M.argN)))))
    (S.for_ (M.callL range1D (M.argD (M.ret (PyData.int 1)) (M.argN))) (G.nm 6) (B_law_2)))
def g_law : MS := S.seq (S.asg 1 (M.known (M.lst (M.argD (M.ret (PyData.str ("need" : Str))) (M.argD (M.ret (PyData.str ("ahead" : Str))) (M.argD (M.ret (PyData.str ("after" : Str))) (M.argD (M.ret (PyData.str ("most" : Str))) (M.argD (M.ret (PyData.str ("rest" : Str))) (M.argN)))))))))
    (S.seq (S.for_ (M.callL range1D (M.argD (M.op2 addD (M.call minD (M.argD (M.call lenD (M.argD (M.var 0) (M.argN))) (M.argD (M.ret (PyData.int 1)) (M.argN)))) (M.ret (PyData.int 1))) (M.argN))) (G.nm 2) (B_law_1))
    (S.ret (M.ret (PyData.bool true))))
def F_law (lvs : List LV) : FR := runF 1 14 none g_law lvs
theorem ok_law (T : Txt K mg fs fds us) : FnOk P w K mg base CX0 10 (fs 59) (fds 59) P_law (spF K none F_law) :=
  fn_pd (io := none) (k := 9) T.f_law sc_law (by decide) (fun cdv A outer s H E C hr hio hw => (have hu : A.units + 3 + 64 < cLine := hr.units
      (pds_cons (pd_set (i := 1) (io_ne hio) sc_law.nd (pd_l (pdl_lst (pda_cons (pd_str) (pda_cons (pd_str) (pda_cons (pd_str) (pda_cons (pd_str) (pda_cons (pd_str) (pda_nil)))))))))
      (pds_cons (pd_for PassesOwn.never rfl (pdi_range1 T.n_range (pda_cons (pd_add (pd_min rfl T.n_min (pda_cons (pd_len T.n_len (pda_cons (pd_var 0) (pda_nil))) (pda_cons (pd_int) (pda_nil)))) (pd_int)) (pda_nil))) (pdg_nm (i := 2) (io_ne hio) sc_law.nd) (pds_cons (pd_own (i := 3) (io_ne hio) sc_law.nd (pdl_fn (ok_f_law_spring T) (hr.mono (by omega)) T.m_f_law_spring T.f_f_law_spring.kp T.b_f_law_spring (pda_cons (pd_var 0) (pda_cons (pd_var 2) (pda_nil)))))
      (pds_cons (pd_asgT (pd_tup (pda_cons (pd_fn (ok_f_law_recorder T) (hr.mono (by omega)) T.m_f_law_recorder T.f_f_law_recorder.kp T.b_f_law_recorder (pda_slot 3 (pda_nil))) (pda_cons (pd_fn (ok_f_law_world T) (hr.mono (by omega)) T.m_f_law_world T.f_f_law_world.kp T.b_f_law_world (pda_slot 3 (pda_nil))) (pda_nil)))) (pdg_tup rfl (pdgs_cons (pdg_nm (i := 4) (io_ne hio) sc_law.nd) (pdgs_cons (pdg_nm (i := 5) (io_ne hio) sc_law.nd) (pdgs_nil)))))
      (pds_one (pd_for PassesOwn.never rfl (pdi_range1 T.n_range (pda_cons (pd_int) (pda_nil))) (pdg_nm (i := 6) (io_ne hio) sc_law.nd) (pds_cons (pd_set (i := 7) (io_ne hio) sc_law.nd (pd_fn (ok_f_law_pick T) (hr.mono (by omega)) T.m_f_law_pick T.f_f_law_pick.kp T.b_f_law_pick (pda_slot 3 (pda_cons (pd_int) (pda_nil)))))
      (pds_cons (pd_set (i := 8) (io_ne hio) sc_law.nd (pd_l (pdl_slice (pd_l (pdl_lc (own := [(("harm" : Str), 13)]) (io_nin hio) (by decide) rfl sc_law.nd (blkOk_by (N := N_law) (sc := defScope s_law) (by decide +kernel)) (pdi_seq (pd_l (pdl_lst (pda_cons (pd_str) (pda_cons (pd_str) (pda_cons (pd_str) (pda_cons (pd_str) (pda_cons (pd_str) (pda_nil))))))))) (fun _ hc3 _ _ _ _ _ => pdg_nm (i := 13) (io_ne (io_eq hio hc3)) sc_law.nd) (fun _ hc3 _ _ _ _ _ => pdts_one (pdt_eq hu (pd_fn (ok_f_law_pick T) (hr.mono (by omega)) T.m_f_law_pick T.f_f_law_pick.kp T.b_f_law_pick (pda_slot 3 (pda_cons (pd_int) (pda_nil)))) (pd_int))) (fun _ hc3 _ _ _ _ _ => pd_var 13))) (pdo_none) (pdo_some (pd_int)))))
      (pds_cons (pd_set (i := 9) (io_ne hio) sc_law.nd (pd_l (pdl_lst (pda_nil))))
      (pds_cons (pd_for PassesOwn.never rfl (pdi_range1 T.n_range (pda_cons (pd_int) (pda_nil))) (pdg_nm (i := 10) (io_ne hio) sc_law.nd) (pds_cons (pd_set (i := 11) (io_ne hio) sc_law.nd (pd_add (pd_add (pd_slice (pd_var 4) (pdo_none) (pdo_some (pd_var 7))) (pd_tup (pda_cons (pd_var 10) (pda_nil)))) (pd_slice (pd_var 4) (pdo_some (pd_add (pd_var 7) (pd_int))) (pdo_none))))
      (pds_one (pd_ifS (pdt_val (pd_fn (ok_f_law_lets T) (hr.mono (by omega)) T.m_f_law_lets T.f_f_law_lets.kp T.b_f_law_lets (pda_cons (pd_var 11) (pda_nil)))) (pds_cons (pd_setLcF (i := 12) (io_ne hio) (own := [(("harm" : Str), 13)]) (io_nin hio) (by decide) rfl sc_law.nd (blkOk_by (N := N_law) (sc := defScope s_law) (by decide +kernel)) (pdi_seq (pd_var 8)) (fun _ hc2 _ _ _ _ _ => pdg_nm (i := 13) (io_ne (io_eq hio hc2)) sc_law.nd) (fun _ hc2 _ _ _ _ _ => pdts_one (pdt_isnot (pd_fn (ok_f_law_first T) (hr.mono (by omega)) T.m_f_law_first T.f_f_law_first.kp T.b_f_law_first (pda_cons (pd_tup (pda_cons (pd_var 11) (pda_cons (pd_var 5) (pda_nil)))) (pda_cons (pd_var 13) (pda_nil)))) (pd_non))) (fun _ hc2 _ _ _ _ _ => pd_var 13) (sw_true rfl rfl rfl (by decide +kernel)))
      (pds_one (pd_set (i := 9) (io_ne hio) sc_law.nd (pd_l (pdl_cat (pd_var 9) (pd_l (pdl_rep (pdl_lst (pda_cons (pd_var 10) (pda_nil))) (fun _ hr1 => pd_int1 T.n_int (pda_cons (pd_eq hu (pd_var 12) (pd_l (pdl_lst (pda_nil)))) (pda_nil)))))))))) (pds_nil)))))
      (pds_one (pd_ifS (pdt_not (pdt_val (pd_fn (ok_f_law_twins T 8) (hr.mono (by omega)) T.m_f_law_twins T.f_f_law_twins.kp T.b_f_law_twins (pda_cons (pd_fn (ok_good_values T) (hr.mono (by omega)) T.m_good_values T.f_good_values.kp T.b_good_values (pda_cons (pd_tup (pda_cons (pd_var 4) (pda_cons (pd_var 5) (pda_nil)))) (pda_cons (pd_sub_ (pd_var 1) (pd_var 7) (fun _ _ => rfl)) (pda_cons (pd_tuple1 T.n_tuple (pda_cons (pd_var 8) (pda_nil))) (pda_nil))))) (pda_cons (pd_var 9) (pda_nil)))))) (pds_one (pd_ret (pd_bl))) (pds_nil))))))))))))
      (pds_one (pd_ret (pd_bl)))))))
end
end
end K8

set_option maxRecDepth 100000
set_option maxHeartbeats 4000000
namespace K8
open PySem PySem.Spec L2 PD
local macro_rules
  | `(tactic| simp_arith only [$a,*]) => `(tactic| simp only [ret_ap, lift_some, lift_none, var_ap, varR_d, ownAt_ap, ownL_own, ownL_d, ownL_n, frzAt_ap, frzL_own, frzL_d, frz_nil, frz_cons, frz1_own, frz1_d, frz1_n, wipe_nil, wipe_cons, restore_nil, restore_cons, clean_nil, clean_cons, isOwnL_own, isOwnL_d, isOwnL_k, frz1_k, frzL_k, ownL_k, isOwnL_n, bind_ap, bindR_ok, bindR_ex, bindR_bad, ofM_ap, ofR_ok, ofR_ex, ofR_bad, seq_ap, seqR_nx, seqR_rt, seqR_rl, seqR_bk, seqR_ct, seqR_ex, seqR_bad, nil_ap, pass_ap, never_ap, brk_ap, cnt_ap, retN_ap, sret_ap, sretL_ap, drop_ap, site_ap, asg_ap, own_ap, par2_ap, par3_ap, asgT_ap, asgR_some, asgR_none, gnm_ap, gnil_ap, gcons_ap, gtup_ap, andV_ap, orV_ap, andT_ap, orT_ap, notT_ap, test_ap, op1_ap, op2_ap, chain_ap, mite_ap, ite_apR, ite_apS, argN_ap, argD_ap, argS_ap, slotR_some, tup_ap, lst_ap, known_ap, call_ap, callL_ap, listL_ap, seqOf_l, seqOf_t, items_ap, part_ap, slice_ap, catL_ap, frz_ap, borrow_ap, borrowR_ok, borrowT_ap, borrowTR_ok, subO_ap, app_ap, setIx_ap, retO_ap, for_ap, lc_ap, lcR_ok, fn_ap, fnL_ap, fnR_some, fnLR_some, retR_ret, retR_retL, retLR_retL, putR_some, putO_none, putO_s0, putO_s1, putO_s2, putO_s3, putO_s4, endR_rt, endR_rl, endR_nx, endR_bad, bindR_ite, ofR_ite, seqR_ite, endR_ite, lift_ite, pop_ap, popR_snoc, dctAt_ap, dctL_k, dctL_o, dctL_d, dctL_n, inK_ap, subK_ap, slotKR_some, setK_ap, slotKF_some, setKR_some, parN_ap, parR_ok, setN_nil, setN_cons, nC_ap, nL_ap, nD_ap, dict1_ap, new_ap, repL_ap, addD_ii, addD_ss, addD_tt, subD_ii, mulD_ii, fdivD_ii, modD_ii, powD_ii, negD_i, ltD_ii, leD_ii, gtD_ii, geD_ii, ixD_l, ixD_t, catD_ll, itemsD_l, itemsD_t, lenD_l, lenD_t, lenD_s, absD_i, maxD_ii, minD_ii, intD_i, intD_b, tupleD_l, tupleD_t, notD_b, asB_b, asI_i, eqD_ii, eqD_ss, eqD_bb, eqD_si, eqD_is, eqD_nn, eqD_nb, eqD_ni, eqD_ns, eqD_bn, eqD_in, eqD_sn, tInt_none, tInt_bool, tInt_int, tInt_str, tInt_tuple, tInt_list, tInt_dict, tBool_none, tBool_bool, tBool_int, tBool_str, tBool_tuple, tBool_list, tBool_dict, tStr_none, tStr_bool, tStr_int, tStr_str, tStr_tuple, tStr_list, tStr_dict, tTuple_none, tTuple_bool, tTuple_int, tTuple_str, tTuple_tuple, tTuple_list, tTuple_dict, tList_none, tList_bool, tList_int, tList_str, tList_tuple, tList_list, tList_dict, tSeq_none, tSeq_bool, tSeq_int, tSeq_str, tSeq_tuple, tSeq_list, tSeq_dict, isNoneB_none, scalarD_none, isNoneB_bool, scalarD_bool, isNoneB_int, scalarD_int, isNoneB_str, scalarD_str, isNoneB_tuple, scalarD_tuple, isNoneB_list, scalarD_list, isNoneB_dict, scalarD_dict, ixT0, ixT1, ixT2, ixT3, ixT4, ixT5, ixT6, ixT7, ixT8, ixT9, ixL0, ixL1, ixL2, ixL3, ixL4, ixL5, ixL6, ixL7, ixL8, ixL9, aI0, aI1, aI2, aI3, aI4, aI5, aI6, aI7, aI8, aI9, ixN1_0, ixN2_0, ixN2_1, ixN3_0, ixN3_1, ixN3_2, ixN4_0, ixN4_1, ixN4_2, ixN4_3, ixN5_0, ixN5_1, ixN5_2, ixN5_3, ixN5_4, ixN6_0, ixN6_1, ixN6_2, ixN6_3, ixN6_4, ixN6_5, List.map_cons, List.map_nil, List.cons_append, List.nil_append, List.replicate_zero, List.replicate_succ, List.length_cons, List.length_nil, List.getElem?_cons_zero, List.getElem?_cons_succ, List.set_cons_zero, List.set_cons_succ, List.getD_cons_zero, List.getD_cons_succ, Bool.and_true, Bool.true_and, Bool.not_false, Bool.not_true, Nat.sub_self, Nat.reduceSub, Nat.reduceAdd, Nat.zero_add, true_and, and_true, and_self, if_true, if_false, ite_true, ite_false, reduceCtorEq, false_implies, implies_true, forall_const, Bool.false_eq_true, Option.bind_some, Option.map_some, Option.bind_none, Option.map_none, runF_eq, okIo, datOf, lvsOf, argIo, isD, outO, isND, notND, vals2D, vals3D, eqDD, neDD, decide_true, decide_false, Bool.decide_eq_true, sz0, sz1, sz2, sz3, sz4, sz5, sz6, sz7, sz8, sz9, sz10, sz11, sz12, sz13, sz14, sz15, sz16, sz17, sz18, sz19, sz20, sz21, sz22, sz23, sz24, sz25, sz26, sz27, sz28, sz29, sz30, sz31, sz32, sz33, sz34, sz35, sz36, sz37, sz38, sz39, sz40, slice_t, all_t, all_l, any_l, all_lm, all_tm, any_lm, Function.comp_def, step_nx, step_ct, step_bk, step_rt, step_rl, step_ite, decide_eq_true_eq, Int.cast_ofNat_Int, Int.reduceLE, Int.reduceLT, Int.reduceAdd, Int.reduceSub, Int.reduceMul, Int.reduceNeg, Int.reduceEq, Int.reduceGT, Nat.reduceEqDiff, ne_eq, not_false_eq_true, Option.some.injEq, forall_eq', Nat.reduceLT, Bool.and_false, Bool.or_false, Bool.false_or, Bool.true_or, Bool.false_and, Bool.or_true, $a,*])
/-! ### plain recorders and stands -/
structure Rec where
  need : Int
  ahead : Int
  hush : Int
  most : Int
  rest : Int
structure Rec.Ok (r : Rec) : Prop where
  n1 : 1 ≤ r.need
  n3 : r.need ≤ 3
  a0 : 0 ≤ r.ahead
  a3 : r.ahead ≤ 3
  h1 : 1 ≤ r.hush
  h3 : r.hush ≤ 3
  m1 : r.need + r.ahead ≤ r.most
  m2 : r.most ≤ 10
  r0 : 0 ≤ r.rest
  r3 : r.rest ≤ 3
def encR (r : Rec) : D := .tuple [.int r.need, .int r.ahead, .int r.hush, .int r.most, .int r.rest]
def encB (h : List Bool) : D := .tuple (h.map .bool)
inductive Sd where
  | aw (h : List Bool)
  | rc (c q : Int)
  | sl (c : Int)
  deriving DecidableEq
def sAw : Str := "awake"
def sRc : Str := "records"
def sSl : Str := "sleeps"
def encS : Sd → D
  | .aw h => .tuple [.str sAw, .int 0, .int 0, encB h]
  | .rc c q => .tuple [.str sRc, .int c, .int q, .tuple []]
  | .sl c => .tuple [.str sSl, .int c, .int 0, .tuple []]
theorem cA : cst_AWAKE = .str sAw := rfl
theorem cR : cst_RECORDS = .str sRc := rfl
theorem cS : cst_SLEEPS = .str sSl := rfl
theorem cF : cst_FRESH = encS (.aw []) := rfl
theorem t_A : Str.ofString "awake" = sAw := rfl
theorem t_R : Str.ofString "records" = sRc := rfl
theorem t_S : Str.ofString "sleeps" = sSl := rfl
theorem e_AA : (sAw = sAw) = True := eq_true rfl
theorem e_AR : (sAw = sRc) = False := eq_false (by decide +kernel)
theorem e_AS : (sAw = sSl) = False := eq_false (by decide +kernel)
theorem e_RA : (sRc = sAw) = False := eq_false (by decide +kernel)
theorem e_RR : (sRc = sRc) = True := eq_true rfl
theorem e_RS : (sRc = sSl) = False := eq_false (by decide +kernel)
theorem e_SA : (sSl = sAw) = False := eq_false (by decide +kernel)
theorem e_SR : (sSl = sRc) = False := eq_false (by decide +kernel)
theorem e_SS : (sSl = sSl) = True := eq_true rfl
def isWithin (x : D) (lo hi : Int) : Bool := match x with
  | .int i => decide (lo ≤ i) && decide (i ≤ hi)
  | _ => false
theorem F_is_within_eq (x : D) (lo hi : Int) : F_is_within [.d x, .d (.int lo), .d (.int hi)] = .ret (.bool (isWithin x lo hi)) none := by
  unfold F_is_within g_is_within
  cases x <;> simp_arith only [true_and] <;> simp [isWithin]
  rename_i i
  by_cases h : lo ≤ i <;> simp [h]
def isRowOf (x : D) (n : Int) : Bool := match x with
  | .tuple xs => decide ((xs.length : Int) = n)
  | _ => false
theorem F_is_row_of_eq (x : D) (n : Int) : F_is_row_of [.d x, .d (.int n)] = .ret (.bool (isRowOf x n)) none := by
  unfold F_is_row_of g_is_row_of
  cases x <;> simp_arith only [true_and] <;> simp [isRowOf]
theorem F_is_recorder_ok {r : Rec} (h : r.Ok) : F_is_recorder [.d (encR r)] = .ret (.bool true) none := by
  obtain ⟨h1, h2, h3, h4, h5, h6, h7, h8, h9, h10⟩ := h
  unfold F_is_recorder g_is_recorder encR
  simp_arith only [F_is_row_of_eq, F_is_within_eq, isRowOf, isWithin]
  simp [*]
/-! ### lists of truth values -/
theorem all_encB (h : List Bool) : allD [encB h] = some (.bool (h.all id)) := all_t h
theorem len_encB (h : List Bool) : lenD [encB h] = some (.int (h.length : Int)) := by
  show some (PyData.int _) = _
  rw [List.length_map]
theorem slice_from (h : List Bool) {i : Int} {k : Nat} (e : i = (k : Int)) : sliceD (encB h) (some i) none = some (encB (h.drop k)) := by
  show some (PyData.tuple _) = some (PyData.tuple _)
  rw [cut_from e, List.map_drop]
theorem slice_neg (h : List Bool) {i : Int} {k : Nat} (e : i = -(k : Int)) (hk : 0 < k) : sliceD (encB h) (some i) none = some (encB (h.drop (h.length - k))) := by
  show some (PyData.tuple _) = some (PyData.tuple _)
  rw [cut_neg e hk, List.map_drop, List.length_map]
theorem add_one (h : List Bool) (b : Bool) (hl : h.length + 1 ≤ sizeLine) : addD (encB h) (.tuple [.bool b]) = some (encB (h ++ [b])) := by
  show (if (h.map PyData.bool).length + 1 ≤ sizeLine then _ else _) = _
  rw [List.length_map, if_pos hl]
  show some (PyData.tuple _) = some (PyData.tuple _)
  rw [List.map_append]
  rfl
theorem slice_max (h : List Bool) (i : Int) : sliceD (encB h) (some (if i > 0 then i else 0)) none = some (encB (h.drop i.toNat)) := slice_from h (by split <;> omega)
def isRowB (h : List Bool) : Prop := h.length + 1 ≤ sizeLine
/-! ### what a recorder does in a tick -/
def fullB (need : Int) (h : List Bool) : Bool := decide (need ≤ (h.length : Int)) && (h.drop (h.length - need.toNat)).all id
def endedS (r : Rec) : Sd := if 0 < r.rest then .sl r.rest else .aw []
def finS (r : Rec) (c q k : Int) : Sd × Int := if q = r.hush ∨ c = r.most then (endedS r, k) else (.rc c q, k)
def stepS (r : Rec) (s : Sd) (b : Bool) : Sd × Int := match s with
  | .sl c => (if 1 < c then .sl (c - 1) else .aw [], 0)
  | .aw h => if fullB r.need (h ++ [b]) = true then finS r ((h ++ [b]).length : Int) 0 ((h ++ [b]).length : Int)
      else (.aw ((h ++ [b]).drop (((h ++ [b]).length : Int) - r.need - r.ahead + 1).toNat), 0)
  | .rc c q => finS r (c + 1) (if b = true then 0 else q + 1) 1
/-! ### the program's own step -/
theorem F_ended_eq (r : Rec) : F_ended [.d (encR r)] = .ret (encS (endedS r)) none := by
  unfold F_ended g_ended encR endedS
  simp_arith only [cA, cS, cF]
  by_cases h : 0 < r.rest <;> simp [h, encS]
theorem F_step_sl (r : Rec) (c : Int) (b : Bool) : F_step [.d (encR r), .d (encS (.sl c)), .d (.bool b)] = .ret (.tuple [encS (stepS r (.sl c) b).1, .int (stepS r (.sl c) b).2]) none := by
  unfold F_step g_step encR encS stepS
  simp_arith only [cA, cS, cF, cR, e_SS]
  by_cases h : 1 < c <;> simp [h, encS]
theorem F_step_rc (r : Rec) (c q : Int) (b : Bool) : F_step [.d (encR r), .d (encS (.rc c q)), .d (.bool b)] = .ret (.tuple [encS (stepS r (.rc c q) b).1, .int (stepS r (.rc c q) b).2]) none := by
  unfold F_step g_step encS stepS finS
  have eR := F_ended_eq r
  unfold encR at eR ⊢
  simp_arith only [cA, cS, cF, cR, e_RS, e_RA, eR]
  cases b
  · by_cases h : q + 1 = r.hush <;> by_cases h' : c + 1 = r.most <;> simp [h, h', encS]
  · by_cases h : 0 = r.hush <;> by_cases h' : c + 1 = r.most <;> simp [h, h', encS]
theorem F_step_aw (r : Rec) (hr : r.Ok) (h : List Bool) (b : Bool) (hl : h.length + 1 ≤ sizeLine) : F_step [.d (encR r), .d (encS (.aw h)), .d (.bool b)] = .ret (.tuple [encS (stepS r (.aw h) b).1, .int (stepS r (.aw h) b).2]) none := by
  unfold F_step g_step stepS finS fullB
  have eR := F_ended_eq r
  have hn : -r.need = -((r.need.toNat : Nat) : Int) := by have := hr.n1; omega
  have hn' : 0 < r.need.toNat := by have := hr.n1; omega
  have h0 : ¬ (0 = r.hush) := by have := hr.h1; omega
  unfold encR at eR ⊢
  conv => lhs; unfold encS
  simp_arith only [cA, cS, cF, cR, e_AS, e_AA, eR, add_one h b hl, len_encB, slice_neg _ hn hn', all_encB, slice_max]
  by_cases h1 : ((h ++ [b]).length : Int) < r.need
  · simp only [h1, Int.not_le.mpr h1, if_true, decide_false, Bool.false_and, Bool.false_eq_true, if_false, encS]
  · have h1' := Int.not_lt.mp h1
    simp only [h1, h1', if_false, decide_true, Bool.true_and]
    cases h2 : (List.drop ((h ++ [b]).length - r.need.toNat) (h ++ [b])).all id
    · simp only [Bool.not_false, if_true, Bool.false_eq_true, if_false, encS]
    · simp only [Bool.not_true, Bool.false_eq_true, if_false, if_true, h0, false_or]
      by_cases h3 : ((h ++ [b]).length : Int) = r.most
      · simp only [h3, if_true]
      · simp only [h3, if_false, encS]
theorem F_step_eq (r : Rec) (hr : r.Ok) (s : Sd) (b : Bool) (hl : ∀ h, s = .aw h → h.length + 1 ≤ sizeLine) : F_step [.d (encR r), .d (encS s), .d (.bool b)] = .ret (.tuple [encS (stepS r s b).1, .int (stepS r s b).2]) none := by
  cases s with
  | aw h => exact F_step_aw r hr h b (hl h rfl)
  | rc c q => exact F_step_rc r c q b
  | sl c => exact F_step_sl r c b
/-! ### which stands there are -/
def heardS (r : Rec) (h : List Bool) : Prop := (h.length : Int) ≤ r.need + r.ahead - 1 ∧ ((h.length : Int) < r.need ∨ (h.drop (h.length - r.need.toNat)).all id = false)
def Sd.Ok (r : Rec) : Sd → Prop
  | .aw h => heardS r h
  | .rc c q => 1 ≤ c ∧ c ≤ r.most - 1 ∧ 0 ≤ q ∧ q ≤ (if c < r.hush then c else r.hush) - 1
  | .sl c => 1 ≤ c ∧ c ≤ r.rest
theorem Sd.Ok.short {r : Rec} (hr : r.Ok) {s : Sd} (hs : s.Ok r) : ∀ h, s = .aw h → h.length + 1 ≤ sizeLine := fun h e => by
  subst e
  have := hs.1
  have := hr.n3
  have := hr.a3
  rw [sizeLine_eq]
  omega
/-! ### a stand stays a stand -/
theorem heard_nil {r : Rec} (hr : r.Ok) : heardS r [] := ⟨by have := hr.n1; have := hr.a0; simp only [List.length_nil]; omega, .inl (by have := hr.n1; simp only [List.length_nil]; omega)⟩
theorem endedS_ok {r : Rec} (hr : r.Ok) : (endedS r).Ok r := by
  unfold endedS
  split
  · exact ⟨by omega, Int.le_refl _⟩
  · exact heard_nil hr
theorem finS_ok {r : Rec} (hr : r.Ok) {c q : Int} (k : Int) (h1 : 1 ≤ c) (h2 : c ≤ r.most) (h3 : 0 ≤ q) (h4 : q ≤ r.hush) (h5 : q < c) : (finS r c q k).1.Ok r := by
  unfold finS
  split
  · exact endedS_ok hr
  · rename_i h
    have e1 : ¬ q = r.hush := fun e => h (.inl e)
    have e2 : ¬ c = r.most := fun e => h (.inr e)
    exact ⟨h1, by omega, h3, by by_cases hc : c < r.hush <;> simp only [hc, if_true, if_false] <;> omega⟩
theorem stepS_ok {r : Rec} (hr : r.Ok) {s : Sd} (hs : s.Ok r) (b : Bool) : (stepS r s b).1.Ok r := by
  have hn1 := hr.n1
  have ha0 := hr.a0
  have hm1 := hr.m1
  cases s with
  | sl c =>
    obtain ⟨h1, h2⟩ := hs
    unfold stepS
    dsimp only
    split
    · exact ⟨by omega, by omega⟩
    · exact heard_nil hr
  | rc c q =>
    obtain ⟨h1, h2, h3, h4⟩ := hs
    have h5 := hr.h1
    refine finS_ok hr 1 (by omega) (by omega) (by split <;> omega) ?_ ?_
    · by_cases hc : c < r.hush <;> simp only [hc, if_true, if_false] at h4 <;> split <;> omega
    · by_cases hc : c < r.hush <;> simp only [hc, if_true, if_false] at h4 <;> split <;> omega
  | aw h =>
    obtain ⟨h1, h2⟩ := hs
    unfold stepS
    dsimp only
    have hl : (h ++ [b]).length = h.length + 1 := by rw [List.length_append, List.length_singleton]
    generalize h ++ [b] = g at hl
    have hg : (g.length : Int) ≤ r.need + r.ahead := by omega
    split
    · rename_i hf
      unfold fullB at hf
      rw [Bool.and_eq_true] at hf
      have := of_decide_eq_true hf.1
      have h5 := hr.h1
      exact finS_ok hr _ (by omega) (by omega) (Int.le_refl _) (by omega) (by omega)
    · rename_i hf
      refine ⟨by rw [List.length_drop]; omega, ?_⟩
      by_cases hd : ((g.drop ((g.length : Int) - r.need - r.ahead + 1).toNat).length : Int) < r.need
      · exact .inl hd
      · rw [List.length_drop] at hd
        refine .inr ?_
        rw [List.drop_drop, List.length_drop, show ((g.length : Int) - r.need - r.ahead + 1).toNat + (g.length - ((g.length : Int) - r.need - r.ahead + 1).toNat - r.need.toNat) = g.length - r.need.toNat by omega]
        unfold fullB at hf
        rw [Bool.and_eq_true] at hf
        cases ht : (g.drop (g.length - r.need.toNat)).all id with
        | false => rfl
        | true => exact absurd ⟨decide_eq_true (by omega), ht⟩ hf
/-! ### the law's own tick -/
theorem rep_true {n : Int} (h1 : 1 ≤ n) (h2 : n ≤ 1000) : repTD (.tuple [.bool true]) (.int n) = some (encB (List.replicate n.toNat true)) := by
  have e : repTD (.tuple [.bool true]) (.int n) = if ([PyData.bool true] : List D) = [] ∧ -1000 ≤ n ∧ n ≤ 1000 then some (.tuple []) else if 1 ≤ n ∧ n ≤ 1000 ∧ [PyData.bool true].length ≤ 1000 then some (.tuple (List.replicate n.toNat [PyData.bool true]).flatten) else none := rfl
  rw [e, if_neg (fun h => by cases h.1), if_pos ⟨h1, h2, by decide⟩]
  unfold encB
  congr 2
  rw [List.map_replicate]
  exact List.flatten_replicate_singleton
theorem encB_nil : encB [] = .tuple [] := rfl
theorem F_tick_sl (r : Rec) (c : Int) (b : Bool) (hs : 1 ≤ c) : F_f_law_tick [.d (encR r), .d (encS (.sl c)), .d (.bool b)] = .ret (.tuple [encS (stepS r (.sl c) b).1, .int (stepS r (.sl c) b).2]) none := by
  unfold F_f_law_tick g_f_law_tick encR encS stepS
  simp_arith only [e_SS, t_A, t_R, t_S]
  by_cases h : 1 < c
  · have h' : c ≠ 1 := by omega
    simp [h, h', encS]
  · have h' : c = 1 := by omega
    simp [h', encS, encB_nil]
theorem endD (r : Rec) : (if 0 < r.rest then encS (.sl r.rest) else encS (.aw [])) = encS (endedS r) := by
  unfold endedS
  split <;> rfl
theorem F_tick_rc (r : Rec) (hr : r.Ok) (c q : Int) (b : Bool) (hs : Sd.Ok r (.rc c q)) : F_f_law_tick [.d (encR r), .d (encS (.rc c q)), .d (.bool b)] = .ret (.tuple [encS (stepS r (.rc c q) b).1, .int (stepS r (.rc c q) b).2]) none := by
  unfold F_f_law_tick g_f_law_tick encR encS stepS
  simp_arith only [e_RS, e_RA, t_A, t_R, t_S]
  obtain ⟨h1, h2, h3, h4⟩ := hs
  have h5 := hr.h1
  have h6 := hr.r0
  have e1 : (r.hush ≤ q + 1) = (q + 1 = r.hush) := propext ⟨fun h => by split at h4 <;> omega, fun h => by omega⟩
  have e2 : (r.most ≤ c + 1) = (c + 1 = r.most) := propext ⟨fun h => by omega, fun h => by omega⟩
  have e3 : (r.hush ≤ 0) = False := eq_false (by omega)
  have e4 : (0 = r.hush) = False := eq_false (by omega)
  unfold finS endedS
  simp only [e1, e2, e3]
  by_cases g1 : 0 < r.rest <;> cases b <;> by_cases g2 : c + 1 = r.most <;> by_cases g3 : q + 1 = r.hush <;> simp [g1, g2, g3, e4, encS, encB_nil]
theorem all_true_rep : ∀ h : List Bool, h.all id = true → h = List.replicate h.length true
  | [], _ => rfl
  | b :: h, e => by
    rw [List.all_cons, Bool.and_eq_true] at e
    rw [List.length_cons, List.replicate_succ, ← all_true_rep h e.2]
    exact congrArg (· :: h) e.1
theorem tail_full (n : Int) (h1 : 1 ≤ n) (h : List Bool) : (h.drop (h.length - n.toNat) = List.replicate n.toNat true) = (fullB n h = true) := by
  unfold fullB
  refine propext ⟨fun e => ?_, fun e => ?_⟩
  · rw [Bool.and_eq_true]
    have hl := congrArg List.length e
    rw [List.length_drop, List.length_replicate] at hl
    refine ⟨decide_eq_true (by omega), ?_⟩
    rw [e]
    exact List.all_eq_true.mpr fun x hx => (List.mem_replicate.mp hx).2
  · rw [Bool.and_eq_true] at e
    have e1 := of_decide_eq_true e.1
    have := all_true_rep _ e.2
    rw [List.length_drop] at this
    rw [this]
    congr 1
    omega
theorem eqD_encB (a b : List Bool) : eqD (encB a) (encB b) = some (decide (a = b)) := eqD_en a b (by decide)
theorem tick_while {need ahead : Int} (g : List Bool) (hg : (g.length : Int) ≤ need + ahead) (h0 : 1 ≤ need + ahead) (x0 x1 x2 x5 x6 x7 x8 x9 x10 x12 x13 : Option LV) :
    S.while_ W_f_law_tick_1 B_f_law_tick_1 [x0, x1, x2, some (.d (.int need)), some (.d (.int ahead)), x5, x6, x7, x8, x9, x10, some (.d (encB g)), x12, x13]
      = .nx [x0, x1, x2, some (.d (.int need)), some (.d (.int ahead)), x5, x6, x7, x8, x9, x10, some (.d (encB (g.drop ((g.length : Int) - need - ahead + 1).toNat))), x12, x13] := by
  have e1 : ∀ g : List Bool, (g.length : Int) < need + ahead → S.while_ W_f_law_tick_1 B_f_law_tick_1 [x0, x1, x2, some (.d (.int need)), some (.d (.int ahead)), x5, x6, x7, x8, x9, x10, some (.d (encB g)), x12, x13]
      = .nx [x0, x1, x2, some (.d (.int need)), some (.d (.int ahead)), x5, x6, x7, x8, x9, x10, some (.d (encB g)), x12, x13] := fun g h => by
    refine while_done ?_
    simp_arith only [len_encB, W_f_law_tick_1]
    rw [decide_eq_false (Int.not_le.mpr h)]
  by_cases h : (g.length : Int) < need + ahead
  · rw [e1 g h, show ((g.length : Int) - need - ahead + 1).toNat = 0 by omega, List.drop_zero]
  · have h1 : ((g.length : Int) - need - ahead + 1).toNat = 1 := by omega
    have e2 := e1 (g.drop 1) (by rw [List.length_drop]; omega)
    rw [while_go (ρ2 := [x0, x1, x2, some (.d (.int need)), some (.d (.int ahead)), x5, x6, x7, x8, x9, x10, some (.d (encB (g.drop 1))), x12, x13]) (by
      simp_arith only [len_encB, W_f_law_tick_1]
      rw [decide_eq_true (Int.not_lt.mp h)]) (.inl (by simp_arith only [B_f_law_tick_1, slice_from g (i := 1) (k := 1) rfl])) (by rw [e2]; rfl), e2, h1]
theorem F_tick_aw (r : Rec) (hr : r.Ok) (h : List Bool) (b : Bool) (hs : heardS r h) : F_f_law_tick [.d (encR r), .d (encS (.aw h)), .d (.bool b)] = .ret (.tuple [encS (stepS r (.aw h) b).1, .int (stepS r (.aw h) b).2]) none := by
  unfold F_f_law_tick g_f_law_tick stepS
  have hn : -r.need = -((r.need.toNat : Nat) : Int) := by have := hr.n1; omega
  have hn' : 0 < r.need.toNat := by have := hr.n1; omega
  have hl : h.length + 1 ≤ sizeLine := Sd.Ok.short hr (s := .aw h) hs h rfl
  have hn2 : r.need ≤ 1000 := by have := hr.n3; omega
  conv => lhs; unfold encR encS
  simp_arith only [e_AS, e_AA, t_A, t_R, t_S, add_one h b hl, len_encB, slice_neg _ hn hn', rep_true hr.n1 hn2, eqD_encB, tail_full _ hr.n1]
  have h0 : (r.hush ≤ 0) = False := eq_false (by have := hr.h1; omega)
  have h00 : (0 = r.hush) = False := eq_false (by have := hr.h1; omega)
  have hg : ((h ++ [b]).length : Int) ≤ r.need + r.ahead := by
    have := hs.1
    rw [List.length_append, List.length_singleton]
    omega
  have e2 : (r.most ≤ ((h ++ [b]).length : Int)) = (((h ++ [b]).length : Int) = r.most) := propext ⟨fun e => by have := hr.m1; omega, fun e => by omega⟩
  rw [tick_while _ hg (by have := hr.n1; have := hr.a0; omega), tick_while _ hg (by have := hr.n1; have := hr.a0; omega)]
  simp_arith only [true_and]
  unfold finS endedS
  simp only [h0, e2, if_false]
  cases fullB r.need (h ++ [b])
  · simp only [Bool.not_false, if_true, Bool.false_eq_true, if_false, encS, ite_self]
  · simp only [Bool.not_true, Bool.false_eq_true, if_false, if_true, h00, false_or]
    by_cases h3 : ((h ++ [b]).length : Int) = r.most
    · simp only [h3, if_true]
      by_cases h4 : 0 < r.rest
      · simp only [h4, if_true, encS]
      · simp only [h4, if_false, encS, encB_nil]
    · simp only [h3, if_false, encS, ite_self]
theorem F_tick_eq {r : Rec} (hr : r.Ok) {s : Sd} (hs : s.Ok r) (b : Bool) : F_f_law_tick [.d (encR r), .d (encS s), .d (.bool b)] = .ret (.tuple [encS (stepS r s b).1, .int (stepS r s b).2]) none := by
  cases s with
  | aw h => exact F_tick_aw r hr h b hs
  | rc c q => exact F_tick_rc r hr c q b hs
  | sl c => exact F_tick_sl r c b hs.1
/-! ### the law's springs -/
def SpV (xs : List D) : Prop := ∃ a b : Int, xs = [.int a, .int b] ∧ 0 ≤ a ∧ 0 ≤ b ∧ b < 999999999989
theorem mulOk_small {i j : Int} {n m : Nat} (h : i.natAbs < 2 ^ n) (h2 : j.natAbs < 2 ^ m) (h3 : n + m ≤ 100000000 := by decide) (hn : n ≠ 0 := by decide) : mulOk i j = true := by
  unfold mulOk
  refine decide_eq_true ?_
  have e1 : i.natAbs.log2 < n := by
    by_cases h0 : i.natAbs = 0
    · rw [h0]; exact Nat.pos_of_ne_zero hn
    · exact (Nat.log2_lt h0).mpr h
  have e2 : j.natAbs.log2 ≤ m := by
    by_cases h0 : j.natAbs = 0
    · rw [h0]; exact Nat.zero_le _
    · exact Nat.le_of_lt ((Nat.log2_lt h0).mpr h2)
  omega
theorem divOk_small {j : Int} (h : 0 < j) (h2 : j < 1000000) : divOk j = true := by
  unfold divOk
  rw [Bool.and_eq_true]
  refine ⟨decide_eq_true h, decide_eq_true ?_⟩
  have : j.natAbs < 2 ^ 20 := by omega
  have := (Nat.log2_lt (by omega : j.natAbs ≠ 0)).mpr this
  omega
theorem F_pick_ok {xs : List D} (hx : SpV xs) {m : Int} (h0 : 0 < m) (h1 : m < 1000000) : ∃ i ys, F_f_law_pick [.own xs, .d (.int m)] = .ret (.int i) (some ys) ∧ SpV ys ∧ 0 ≤ i ∧ i < m := by
  obtain ⟨a, b, rfl, ha, hb, hb2⟩ := hx
  have e1 : mulOk b 393555900739 = true := mulOk_small (n := 40) (m := 40) (by omega) (by decide)
  have e2 : divOk m = true := divOk_small h0 h1
  have e3 : divOk 4093 = true := by decide
  unfold F_f_law_pick g_f_law_pick
  simp_arith only [e1, e2, e3, if_pos h0]
  by_cases h : 0 < a
  · rw [if_pos h]
    exact ⟨_, _, rfl, ⟨_, _, rfl, Int.ediv_nonneg ha (by omega), hb, hb2⟩, Int.emod_nonneg _ (by omega), Int.emod_lt_of_pos _ h0⟩
  · rw [if_neg h]
    exact ⟨_, _, rfl, ⟨_, _, rfl, ha, Int.emod_nonneg _ (by decide), Int.emod_lt_of_pos _ (by decide)⟩, Int.emod_nonneg _ (by omega), Int.emod_lt_of_pos _ h0⟩
theorem F_spring_ok {ns : List Int} (hb : ∀ n ∈ ns, n.natAbs.log2 ≤ 1048576) (hl : ns.length ≤ 1000) {at' : Int} (h0 : 0 ≤ at') (h1 : at' ≤ 1000) : ∃ xs, F_f_law_spring [.d (.list (ns.map .int)), .d (.int at')] = .retL xs none ∧ SpV xs := by
  have e1 : ∀ n : Int, n.natAbs.log2 ≤ 1048576 → mulOk n 863 = true := fun n h => by
    unfold mulOk
    refine decide_eq_true ?_
    have : (863 : Int).natAbs.log2 ≤ 10 := by decide
    omega
  have e2 : mulOk 524287 at' = true := mulOk_small (n := 20) (m := 10) (by decide) (by omega)
  have e3 : ∀ n : Int, (if n < 0 then -n else n) = (n.natAbs : Int) := fun n => by split <;> omega
  have e4 : ∀ c : Int, 0 ≤ c → 0 ≤ (if 10 ^ 18 ≤ c then c else 0) := fun c h => by split <;> omega
  have e5 : Int.natAbs 10 < 2 ^ 64 := by decide
  have e6 : mulOk 7 863 = true := by decide
  have e7 : ¬ ((10 : Int) ^ Int.toNat 18 ≤ 7) := by decide
  unfold F_f_law_spring
  simp_arith only [true_and]
  unfold g_f_law_spring
  simp_arith only [List.length_map, e2]
  by_cases h : at' < (ns.length : Int)
  · obtain ⟨k, hk⟩ := Int.eq_ofNat_of_zero_le h0
    have hk2 : k < ns.length := by omega
    have e8 : atI (ns.map PyData.int) at' = some (.int ns[k]) := by rw [hk]; exact atI_nat (by rw [List.getElem?_map, List.getElem?_eq_getElem hk2]; rfl)
    have hn := hb _ (List.getElem_mem hk2)
    have e9 : mulOk (ns[k].natAbs : Int) 863 = true := e1 _ (by rw [Int.natAbs_natCast]; exact hn)
    simp_arith only [if_pos h, List.length_map, e2, e8, e3, e9, e5]
    by_cases h2 : (10 : Int) ^ Int.toNat 18 ≤ (ns[k].natAbs : Int)
    · rw [if_pos h2]
      exact ⟨_, rfl, _, _, rfl, Int.natCast_nonneg _, Int.emod_nonneg _ (by decide), Int.emod_lt_of_pos _ (by decide)⟩
    · rw [if_neg h2]
      exact ⟨_, rfl, _, _, rfl, Int.le_refl _, Int.emod_nonneg _ (by decide), Int.emod_lt_of_pos _ (by decide)⟩
  · simp_arith only [if_neg h, List.length_map, e2, e6, e5, if_neg e7]
    exact ⟨_, rfl, _, _, rfl, Int.le_refl _, Int.emod_nonneg _ (by decide), Int.emod_lt_of_pos _ (by decide)⟩
theorem F_recorder_ok {xs : List D} (hx : SpV xs) : ∃ r ys, F_f_law_recorder [.own xs] = .ret (encR r) (some ys) ∧ r.Ok ∧ SpV ys := by
  obtain ⟨i1, x1, e1, h1, a1, b1⟩ := F_pick_ok hx (m := 3) (by decide) (by decide)
  obtain ⟨i2, x2, e2, h2, a2, b2⟩ := F_pick_ok h1 (m := 4) (by decide) (by decide)
  obtain ⟨i3, x3, e3, h3, a3, b3⟩ := F_pick_ok h2 (m := 11 - (1 + i1) - i2) (by omega) (by omega)
  obtain ⟨i4, x4, e4, h4, a4, b4⟩ := F_pick_ok h3 (m := 3) (by decide) (by decide)
  obtain ⟨i5, x5, e5, h5, a5, b5⟩ := F_pick_ok h4 (m := 5) (by decide) (by decide)
  unfold F_f_law_recorder g_f_law_recorder
  have e6 : ∃ j : Int, atI [PyData.int 0, PyData.int 1, PyData.int 1, PyData.int 2, PyData.int 3] i5 = some (.int j) ∧ 0 ≤ j ∧ j ≤ 3 := by
    have : i5 = 0 ∨ i5 = 1 ∨ i5 = 2 ∨ i5 = 3 ∨ i5 = 4 := by omega
    rcases this with h | h | h | h | h <;> subst h <;> exact ⟨_, rfl, by decide, by decide⟩
  obtain ⟨j, e6, j0, j3⟩ := e6
  simp_arith only [e1, e2, e3, e4, e5, e6]
  exact ⟨⟨1 + i1, i2, 1 + i4, 1 + i1 + i2 + i3, j⟩, x5, rfl, ⟨by show 1 ≤ 1 + i1; omega, by show 1 + i1 ≤ 3; omega, a2, by show i2 ≤ 3; omega, by show 1 ≤ 1 + i4; omega, by show 1 + i4 ≤ 3; omega, by show 1 + i1 + i2 ≤ 1 + i1 + i2 + i3; omega, by show 1 + i1 + i2 + i3 ≤ 10; omega, j0, j3⟩, h5⟩
/-! ### twins -/
def kindD : D → Int
  | .none => 0
  | .bool _ => 1
  | .list _ => 2
  | .tuple _ => 3
  | .int _ => 4
  | .str _ => 5
  | .dict _ => 6
theorem F_kind_eq (x : D) : F_f_law_kind [.d x] = .ret (.int (kindD x)) none := by
  unfold F_f_law_kind g_f_law_kind
  cases x <;> simp_arith only [true_and] <;> rfl
theorem F_twins_self : ∀ (n : Nat) (x : D), Sh n x → n ≤ 60 → F_f_law_twins (n + 1) [.d x, .d x] = .ret (.bool true) none
  | n, x, hx, hn => by
    have e0 := eqD_self hx (by omega)
    have key : ∀ xs : List D, (∀ y ∈ xs, F_f_law_twins n [.d y, .d y] = .ret (.bool true) none) → ∀ a b : Option LV,
      lcLoop [2, 3] (G.tup 2 (G.cons (G.nm 2) (G.cons (G.nm 3) G.nil))) (T_f_law_twins_1 (F_f_law_twins n)) (E_f_law_twins_1 (F_f_law_twins n)) (zipL xs xs) [] [a, b, none, none] = .ok [] [a, b, none, none] := fun xs h a b => by
      refine lcLoop_none _ _ ?_
      rw [zipL_self]
      intro z hz
      obtain ⟨y, hy, rfl⟩ := List.mem_map.mp hz
      refine ⟨[a, b, some (.d y), some (.d y)], [a, b, some (.d y), some (.d y)], rfl, ?_, rfl⟩
      simp_arith only [T_f_law_twins_1, h y hy]
    have zt : ∀ xs : List D, zipD [.tuple xs, .tuple xs] = some (zipL xs xs) := fun _ => rfl
    have zl : ∀ xs : List D, zipD [.list xs, .list xs] = some (zipL xs xs) := fun _ => rfl
    cases x with
    | tuple xs =>
      cases n with
      | zero => exact hx.zero_t.elim
      | succ n =>
        have e1 := key xs fun y hy => F_twins_self n y (hx.mem_t y hy) (by omega)
        unfold F_f_law_twins g_f_law_twins
        simp_arith only [F_kind_eq, kindD, inDD_i2, zt, e1, eq_nil_nil]
    | list xs =>
      cases n with
      | zero => exact hx.zero_l.elim
      | succ n =>
        have e1 := key xs fun y hy => F_twins_self n y (hx.mem_l y hy) (by omega)
        unfold F_f_law_twins g_f_law_twins
        simp_arith only [F_kind_eq, kindD, inDD_i2, zl, e1, eq_nil_nil]
    | dict kvs => exact hx.not_dict.elim
    | none =>
      unfold F_f_law_twins g_f_law_twins
      simp_arith only [F_kind_eq, kindD, inDD_i2, e0]
    | int i =>
      unfold F_f_law_twins g_f_law_twins
      simp_arith only [F_kind_eq, kindD, inDD_i2, e0]
    | bool i =>
      unfold F_f_law_twins g_f_law_twins
      simp_arith only [F_kind_eq, kindD, inDD_i2, e0]
    | str i =>
      unfold F_f_law_twins g_f_law_twins
      simp_arith only [F_kind_eq, kindD, inDD_i2, e0]
/-! ### shapes -/
theorem ss_A : PyData.strOk sAw = true := by decide +kernel
theorem ss_R : PyData.strOk sRc = true := by decide +kernel
theorem ss_S : PyData.strOk sSl = true := by decide +kernel
theorem sh_encB (h : List Bool) : Sh 1 (encB h) := sh_tup fun x hx => by
  obtain ⟨b, _, rfl⟩ := List.mem_map.mp hx
  exact sh_bool b
theorem sh_encS (s : Sd) : Sh 2 (encS s) := by
  have e : Sh 1 (.tuple []) := sh_tup (n := 0) sh_nil
  cases s with
  | aw h => exact sh_tup (sh_cons ((sh_str ss_A).up (by decide)) (sh_cons ((sh_int _).up (by decide)) (sh_cons ((sh_int _).up (by decide)) (sh_cons (sh_encB h) sh_nil))))
  | rc c q => exact sh_tup (sh_cons ((sh_str ss_R).up (by decide)) (sh_cons ((sh_int _).up (by decide)) (sh_cons ((sh_int _).up (by decide)) (sh_cons e sh_nil))))
  | sl c => exact sh_tup (sh_cons ((sh_str ss_S).up (by decide)) (sh_cons ((sh_int _).up (by decide)) (sh_cons ((sh_int _).up (by decide)) (sh_cons e sh_nil))))
theorem twins8 (n : Nat) (hn : n + 1 = 8) {x : D} (h : Sh 2 x) : F_f_law_twins 8 [.d x, .d x] = .ret (.bool true) none := by
  have : n = 7 := by omega
  subst this
  exact F_twins_self 7 x (h.up (by decide)) (by decide)
/-! ### what is a recorder, a world, a plan, a row, at any datum -/
theorem isWithin_true {x : D} {lo hi : Int} : isWithin x lo hi = true ↔ ∃ i, x = .int i ∧ lo ≤ i ∧ i ≤ hi := by
  unfold isWithin
  split
  · rw [Bool.and_eq_true, decide_eq_true_eq, decide_eq_true_eq]
    exact ⟨fun h => ⟨_, rfl, h.1, h.2⟩, fun ⟨i, e, h⟩ => by cases e; exact h⟩
  · rename_i h
    exact ⟨fun e => (by cases e), fun ⟨i, e, _⟩ => absurd e (h i)⟩
theorem isRowOf_true {x : D} {n : Int} : isRowOf x n = true ↔ ∃ xs, x = .tuple xs ∧ (xs.length : Int) = n := by
  unfold isRowOf
  split
  · rw [decide_eq_true_eq]
    exact ⟨fun h => ⟨_, rfl, h⟩, fun ⟨i, e, h⟩ => by cases e; exact h⟩
  · rename_i h
    exact ⟨fun e => (by cases e), fun ⟨i, e, _⟩ => absurd e (h i)⟩
theorem len2 {xs : List D} (h : (xs.length : Int) = 2) : ∃ a b, xs = [a, b] := by
  match xs, h with
  | [a, b], _ => exact ⟨a, b, rfl⟩
  | [], h => simp at h
  | [_], h => simp at h
  | _ :: _ :: _ :: _, h => simp only [List.length_cons] at h; omega
theorem len3 {xs : List D} (h : (xs.length : Int) = 3) : ∃ a b c, xs = [a, b, c] := by
  match xs, h with
  | [a, b, c], _ => exact ⟨a, b, c, rfl⟩
  | [], h => simp at h
  | [_], h => simp at h
  | [_, _], h => simp at h
  | _ :: _ :: _ :: _ :: _, h => simp only [List.length_cons] at h; omega
theorem len4 {xs : List D} (h : (xs.length : Int) = 4) : ∃ a b c d, xs = [a, b, c, d] := by
  match xs, h with
  | [a, b, c, d], _ => exact ⟨a, b, c, d, rfl⟩
  | [], h => simp at h
  | [_], h => simp at h
  | [_, _], h => simp at h
  | [_, _, _], h => simp at h
  | _ :: _ :: _ :: _ :: _ :: _, h => simp only [List.length_cons] at h; omega
theorem len5 {xs : List D} (h : (xs.length : Int) = 5) : ∃ a b c d e, xs = [a, b, c, d, e] := by
  match xs, h with
  | [a, b, c, d, e], _ => exact ⟨a, b, c, d, e, rfl⟩
  | [], h => simp at h
  | [_], h => simp at h
  | [_, _], h => simp at h
  | [_, _, _], h => simp at h
  | [_, _, _, _], h => simp at h
  | _ :: _ :: _ :: _ :: _ :: _ :: _, h => simp only [List.length_cons] at h; omega
def IsRec (x : D) : Prop := ∃ r : Rec, r.Ok ∧ x = encR r
structure Wl where
  least : Int
  great : Int
  hush : Int
structure Wl.Ok (w : Wl) : Prop where
  l1 : 1 ≤ w.least
  lg : w.least ≤ w.great
  g2 : w.great ≤ 12
  h1 : 1 ≤ w.hush
  h4 : w.hush ≤ 4
def encW (w : Wl) : D := .tuple [.int w.least, .int w.great, .int w.hush]
def IsWorld (x : D) : Prop := ∃ w : Wl, w.Ok ∧ x = encW w
def IsPlan (x : D) : Prop := ∃ r w, x = .tuple [encR r, encW w] ∧ r.Ok ∧ w.Ok
/-- the answer is a truth value, and it is so just where P is -/
def Says (f : FR) (P : Prop) : Prop := ∃ b, f = .ret (.bool b) none ∧ (b = true ↔ P)
theorem Says.no {P : Prop} (h : ¬ P) : Says (.ret (.bool false) none) P := ⟨false, rfl, fun e => (by cases e), fun p => absurd p h⟩
theorem Says.yes {P : Prop} (h : P) : Says (.ret (.bool true) none) P := ⟨true, rfl, fun _ => h, fun _ => rfl⟩
theorem Says.dec {P Q : Prop} [Decidable Q] (h : Q ↔ P) : Says (.ret (.bool (decide Q)) none) P := ⟨_, rfl, by rw [decide_eq_true_eq]; exact h⟩
theorem Says.bool {P : Prop} {b : Bool} (h : b = true ↔ P) : Says (.ret (.bool b) none) P := ⟨_, rfl, h⟩
theorem Says.eq {f : FR} {P Q : Prop} (h : Says f P) (e : P ↔ Q) : Says f Q := by
  obtain ⟨b, h1, h2⟩ := h
  exact ⟨b, h1, h2.trans e⟩
theorem isRec_of {a b c d e : D} : IsRec (.tuple [a, b, c, d, e]) ↔ ∃ i j k l m : Int, a = .int i ∧ b = .int j ∧ c = .int k ∧ d = .int l ∧ e = .int m ∧ (Rec.mk i j k l m).Ok :=
  ⟨fun ⟨r, hr, he⟩ => by unfold encR at he; cases he; exact ⟨_, _, _, _, _, rfl, rfl, rfl, rfl, rfl, hr⟩, fun ⟨i, j, k, l, m, h1, h2, h3, h4, h5, hr⟩ => ⟨_, hr, by rw [h1, h2, h3, h4, h5]; rfl⟩⟩
theorem within_no {x : D} {lo hi : Int} (h : isWithin x lo hi = false) (i : Int) (e : x = .int i) (h1 : lo ≤ i) (h2 : i ≤ hi) : False := by
  rw [isWithin_true.mpr ⟨i, e, h1, h2⟩] at h
  cases h
theorem F_is_recorder_says (x : D) : Says (F_is_recorder [.d x]) (IsRec x) := by
  unfold F_is_recorder g_is_recorder
  by_cases h5 : isRowOf x 5 = true
  · obtain ⟨xs, rfl, hl⟩ := isRowOf_true.mp h5
    obtain ⟨a, b, c, d, e, rfl⟩ := len5 hl
    rw [isRec_of]
    simp_arith only [F_is_row_of_eq, F_is_within_eq, h5]
    cases ha : isWithin a 1 3
    · simp_arith only [true_and]
      exact Says.no fun ⟨i, j, k, l, m, h1, h2, h3, h4, h5, o⟩ => within_no ha i h1 o.n1 o.n3
    cases hb : isWithin b 0 3
    · simp_arith only [true_and]
      exact Says.no fun ⟨i, j, k, l, m, h1, h2, h3, h4, h5, o⟩ => within_no hb j h2 o.a0 o.a3
    cases hc : isWithin c 1 3
    · simp_arith only [true_and]
      exact Says.no fun ⟨i, j, k, l, m, h1, h2, h3, h4, h5, o⟩ => within_no hc k h3 o.h1 o.h3
    cases he : isWithin e 0 3
    · simp_arith only [true_and]
      exact Says.no fun ⟨i, j, k, l, m, h1, h2, h3, h4, h5, o⟩ => within_no he m h5 o.r0 o.r3
    obtain ⟨i, rfl, i1, i2⟩ := isWithin_true.mp ha
    obtain ⟨j, rfl, j1, j2⟩ := isWithin_true.mp hb
    obtain ⟨k, rfl, k1, k2⟩ := isWithin_true.mp hc
    obtain ⟨m, rfl, m1, m2⟩ := isWithin_true.mp he
    simp_arith only [F_is_within_eq]
    refine Says.bool (isWithin_true.trans ⟨fun ⟨l, hd, l1, l2⟩ => ⟨i, j, k, l, m, rfl, rfl, rfl, hd, rfl, ⟨i1, i2, j1, j2, k1, k2, l1, l2, m1, m2⟩⟩, fun ⟨i', j', k', l, m', e1, e2, e3, e4, e5, o⟩ => ⟨l, e4, ?_, o.m2⟩⟩)
    cases e1
    cases e2
    exact o.m1
  · have h5 : isRowOf x 5 = false := by cases h : isRowOf x 5 <;> first | rfl | exact absurd h h5
    simp_arith only [F_is_row_of_eq, h5]
    exact Says.no fun ⟨r, _, e⟩ => by subst e; cases h5
theorem bool_no {b : Bool} (h : ¬ b = true) : b = false := by cases b <;> first | rfl | exact absurd rfl h
theorem isWorld_of {a b c : D} : IsWorld (.tuple [a, b, c]) ↔ ∃ i j k : Int, a = .int i ∧ b = .int j ∧ c = .int k ∧ (Wl.mk i j k).Ok :=
  ⟨fun ⟨r, hr, he⟩ => by unfold encW at he; cases he; exact ⟨_, _, _, rfl, rfl, rfl, hr⟩, fun ⟨i, j, k, h1, h2, h3, hr⟩ => ⟨_, hr, by rw [h1, h2, h3]; rfl⟩⟩
theorem Says.ite {P Q : Prop} [Decidable Q] {f : FR} (h1 : Q → Says f P) (h2 : ¬ Q → ¬ P) : Says (if Q then f else .ret (.bool false) none) P := by
  split
  · exact h1 ‹_›
  · exact Says.no (h2 ‹_›)
theorem Says.nite {P Q : Prop} [Decidable Q] {f : FR} (h1 : ¬ Q → Says f P) (h2 : Q → ¬ P) : Says (if Q then .ret (.bool false) none else f) P := by
  split
  · exact Says.no (h2 ‹_›)
  · exact h1 ‹_›
theorem okR_iff {i j k l m : Int} : (Rec.mk i j k l m).Ok ↔ 1 ≤ i ∧ i ≤ 3 ∧ 0 ≤ j ∧ j ≤ 3 ∧ 1 ≤ k ∧ k ≤ 3 ∧ i + j ≤ l ∧ l ≤ 10 ∧ 0 ≤ m ∧ m ≤ 3 :=
  ⟨fun o => ⟨o.n1, o.n3, o.a0, o.a3, o.h1, o.h3, o.m1, o.m2, o.r0, o.r3⟩, fun ⟨a, b, c, d, e, f, g, h, i, j⟩ => ⟨a, b, c, d, e, f, g, h, i, j⟩⟩
theorem isRec_ints {i j k l m : Int} : IsRec (.tuple [.int i, .int j, .int k, .int l, .int m]) ↔ 1 ≤ i ∧ i ≤ 3 ∧ 0 ≤ j ∧ j ≤ 3 ∧ 1 ≤ k ∧ k ≤ 3 ∧ i + j ≤ l ∧ l ≤ 10 ∧ 0 ≤ m ∧ m ≤ 3 :=
  ⟨fun ⟨r, hr, e⟩ => by unfold encR at e; cases e; exact okR_iff.mp hr, fun h => ⟨⟨i, j, k, l, m⟩, okR_iff.mpr h, rfl⟩⟩
theorem F_is_world_says (x : D) : Says (F_is_world [.d x]) (IsWorld x) := by
  unfold F_is_world g_is_world
  by_cases h5 : isRowOf x 3 = true
  · obtain ⟨xs, rfl, hl⟩ := isRowOf_true.mp h5
    obtain ⟨a, b, c, rfl⟩ := len3 hl
    rw [isWorld_of]
    simp_arith only [F_is_row_of_eq, F_is_within_eq, h5]
    cases ha : isWithin a 1 12
    · simp_arith only [true_and]
      exact Says.no fun ⟨i, j, k, h1, h2, h3, o⟩ => within_no ha i h1 o.l1 (by have := o.lg; have := o.g2; exact Int.le_trans o.lg o.g2)
    obtain ⟨i, rfl, i1, i2⟩ := isWithin_true.mp ha
    simp_arith only [F_is_within_eq]
    cases hb : isWithin b i 12
    · simp_arith only [true_and]
      exact Says.no fun ⟨i', j, k, h1, h2, h3, o⟩ => by cases h1; exact within_no hb j h2 o.lg o.g2
    obtain ⟨j, rfl, j1, j2⟩ := isWithin_true.mp hb
    simp_arith only [F_is_within_eq]
    exact Says.bool (isWithin_true.trans ⟨fun ⟨l, hd, l1, l2⟩ => ⟨i, j, l, rfl, rfl, hd, ⟨i1, j1, j2, l1, l2⟩⟩, fun ⟨i', j', k', e1, e2, e3, o⟩ => ⟨k', e3, o.h1, o.h4⟩⟩)
  · have h5 := bool_no h5
    simp_arith only [F_is_row_of_eq, h5]
    exact Says.no fun ⟨r, _, e⟩ => by subst e; cases h5
theorem F_is_plan_says (x : D) : Says (F_is_plan [.d x]) (IsPlan x) := by
  unfold F_is_plan g_is_plan
  by_cases h5 : isRowOf x 2 = true
  · obtain ⟨xs, rfl, hl⟩ := isRowOf_true.mp h5
    obtain ⟨a, b, rfl⟩ := len2 hl
    obtain ⟨p, e1, h1⟩ := F_is_recorder_says a
    obtain ⟨q, e2, h2⟩ := F_is_world_says b
    simp_arith only [F_is_row_of_eq, h5, e1]
    cases p
    · simp_arith only [true_and]
      refine Says.no fun ⟨r, w, e, hr, hw⟩ => ?_
      cases e
      cases h1.mpr ⟨r, hr, rfl⟩
    · simp_arith only [e2]
      refine Says.bool (h2.trans ⟨fun ⟨w, hw, e⟩ => ?_, fun ⟨r, w, e, hr, hw⟩ => ?_⟩)
      · obtain ⟨r, hr, e'⟩ := h1.mp rfl
        exact ⟨r, w, by rw [e, e'], hr, hw⟩
      · cases e
        exact ⟨w, hw, rfl⟩
  · have h5 := bool_no h5
    simp_arith only [F_is_row_of_eq, h5]
    refine Says.no fun ⟨r, w, e, _⟩ => ?_
    subst e
    cases h5
/-! ### the law's worlds -/
theorem at6 (a b c d e f : D) {i : Int} (h0 : 0 ≤ i) (h1 : i < 6) : atI [a, b, c, d, e, f] i = some (if i = 0 then a else if i = 1 then b else if i = 2 then c else if i = 3 then d else if i = 4 then e else f) := by
  have : i = 0 ∨ i = 1 ∨ i = 2 ∨ i = 3 ∨ i = 4 ∨ i = 5 := by omega
  rcases this with h | h | h | h | h | h <;> subst h <;> rfl
theorem F_world_ok {xs : List D} (hx : SpV xs) : ∃ w ys, F_f_law_world [.own xs] = .ret (encW w) (some ys) ∧ w.Ok ∧ SpV ys := by
  obtain ⟨i1, x1, e1, h1, a1, b1⟩ := F_pick_ok hx (m := 5) (by decide) (by decide)
  obtain ⟨i2, x2, e2, h2, a2, b2⟩ := F_pick_ok h1 (m := 5) (by decide) (by decide)
  obtain ⟨i3, x3, e3, h3, a3, b3⟩ := F_pick_ok h2 (m := 6) (by decide) (by decide)
  obtain ⟨i4, x4, e4, h4, a4, b4⟩ := F_pick_ok h3 (m := 4) (by decide) (by decide)
  obtain ⟨i5, x5, e5, h5, a5, b5⟩ := F_pick_ok h4 (m := 4) (by decide) (by decide)
  have f1 : ∃ j : Int, atI [PyData.int 0, PyData.int 0, PyData.int 1, PyData.int 2, PyData.int i1] i2 = some (.int j) ∧ 0 ≤ j ∧ j ≤ 4 := by
    have : i2 = 0 ∨ i2 = 1 ∨ i2 = 2 ∨ i2 = 3 ∨ i2 = 4 := by omega
    rcases this with h | h | h | h | h <;> subst h <;> exact ⟨_, rfl, by omega, by omega⟩
  have f2 : ∃ j : Int, atI [PyData.int 0, PyData.int 1, PyData.int 2, PyData.int 4, PyData.int 7, PyData.int 11] i3 = some (.int j) ∧ 0 ≤ j := by
    have : i3 = 0 ∨ i3 = 1 ∨ i3 = 2 ∨ i3 = 3 ∨ i3 = 4 ∨ i3 = 5 := by omega
    rcases this with h | h | h | h | h | h <;> subst h <;> exact ⟨_, rfl, by omega⟩
  have f3 : ∃ j : Int, atI [PyData.int 0, PyData.int 0, PyData.int 1, PyData.int i4] i5 = some (.int j) ∧ 0 ≤ j ∧ j ≤ 3 := by
    have : i5 = 0 ∨ i5 = 1 ∨ i5 = 2 ∨ i5 = 3 := by omega
    rcases this with h | h | h | h <;> subst h <;> exact ⟨_, rfl, by omega, by omega⟩
  obtain ⟨j1, f1, c1, d1⟩ := f1
  obtain ⟨j2, f2, c2⟩ := f2
  obtain ⟨j3, f3, c3, d3⟩ := f3
  unfold F_f_law_world g_f_law_world
  simp_arith only [e1, e2, e3, e4, e5, f1, f2, f3]
  exact ⟨⟨1 + j1, if 1 + j1 + j2 < 12 then 1 + j1 + j2 else 12, 1 + j3⟩, x5, rfl, ⟨by show 1 ≤ 1 + j1; omega, by show 1 + j1 ≤ _; dsimp only; split <;> omega, by dsimp only; split <;> omega, by show 1 ≤ 1 + j3; omega, by show 1 + j3 ≤ 4; omega⟩, h5⟩
end K8

set_option maxRecDepth 100000
set_option maxHeartbeats 4000000
set_option synthInstance.maxSize 8000
set_option synthInstance.maxHeartbeats 400000
namespace K8
open PySem PySem.Spec L2 PD
local macro_rules
  | `(tactic| simp_arith only [$a,*]) => `(tactic| simp only [ret_ap, lift_some, lift_none, var_ap, varR_d, ownAt_ap, ownL_own, ownL_d, ownL_n, frzAt_ap, frzL_own, frzL_d, frz_nil, frz_cons, frz1_own, frz1_d, frz1_n, wipe_nil, wipe_cons, restore_nil, restore_cons, clean_nil, clean_cons, isOwnL_own, isOwnL_d, isOwnL_k, frz1_k, frzL_k, ownL_k, isOwnL_n, bind_ap, bindR_ok, bindR_ex, bindR_bad, ofM_ap, ofR_ok, ofR_ex, ofR_bad, seq_ap, seqR_nx, seqR_rt, seqR_rl, seqR_bk, seqR_ct, seqR_ex, seqR_bad, nil_ap, pass_ap, never_ap, brk_ap, cnt_ap, retN_ap, sret_ap, sretL_ap, drop_ap, site_ap, asg_ap, own_ap, par2_ap, par3_ap, asgT_ap, asgR_some, asgR_none, gnm_ap, gnil_ap, gcons_ap, gtup_ap, andV_ap, orV_ap, andT_ap, orT_ap, notT_ap, test_ap, op1_ap, op2_ap, chain_ap, mite_ap, ite_apR, ite_apS, argN_ap, argD_ap, argS_ap, slotR_some, tup_ap, lst_ap, known_ap, call_ap, callL_ap, listL_ap, seqOf_l, seqOf_t, items_ap, part_ap, slice_ap, catL_ap, frz_ap, borrow_ap, borrowR_ok, borrowT_ap, borrowTR_ok, subO_ap, app_ap, setIx_ap, retO_ap, for_ap, lc_ap, lcR_ok, fn_ap, fnL_ap, fnR_some, fnLR_some, retR_ret, retR_retL, retLR_retL, putR_some, putO_none, putO_s0, putO_s1, putO_s2, putO_s3, putO_s4, endR_rt, endR_rl, endR_nx, endR_bad, bindR_ite, ofR_ite, seqR_ite, endR_ite, lift_ite, pop_ap, popR_snoc, dctAt_ap, dctL_k, dctL_o, dctL_d, dctL_n, inK_ap, subK_ap, slotKR_some, setK_ap, slotKF_some, setKR_some, parN_ap, parR_ok, setN_nil, setN_cons, nC_ap, nL_ap, nD_ap, dict1_ap, new_ap, repL_ap, addD_ii, addD_ss, addD_tt, subD_ii, mulD_ii, fdivD_ii, modD_ii, powD_ii, negD_i, ltD_ii, leD_ii, gtD_ii, geD_ii, ixD_l, ixD_t, catD_ll, itemsD_l, itemsD_t, lenD_l, lenD_t, lenD_s, absD_i, maxD_ii, minD_ii, intD_i, intD_b, tupleD_l, tupleD_t, notD_b, asB_b, asI_i, eqD_ii, eqD_ss, eqD_bb, eqD_si, eqD_is, eqD_nn, eqD_nb, eqD_ni, eqD_ns, eqD_bn, eqD_in, eqD_sn, tInt_none, tInt_bool, tInt_int, tInt_str, tInt_tuple, tInt_list, tInt_dict, tBool_none, tBool_bool, tBool_int, tBool_str, tBool_tuple, tBool_list, tBool_dict, tStr_none, tStr_bool, tStr_int, tStr_str, tStr_tuple, tStr_list, tStr_dict, tTuple_none, tTuple_bool, tTuple_int, tTuple_str, tTuple_tuple, tTuple_list, tTuple_dict, tList_none, tList_bool, tList_int, tList_str, tList_tuple, tList_list, tList_dict, tSeq_none, tSeq_bool, tSeq_int, tSeq_str, tSeq_tuple, tSeq_list, tSeq_dict, isNoneB_none, scalarD_none, isNoneB_bool, scalarD_bool, isNoneB_int, scalarD_int, isNoneB_str, scalarD_str, isNoneB_tuple, scalarD_tuple, isNoneB_list, scalarD_list, isNoneB_dict, scalarD_dict, ixT0, ixT1, ixT2, ixT3, ixT4, ixT5, ixT6, ixT7, ixT8, ixT9, ixL0, ixL1, ixL2, ixL3, ixL4, ixL5, ixL6, ixL7, ixL8, ixL9, aI0, aI1, aI2, aI3, aI4, aI5, aI6, aI7, aI8, aI9, ixN1_0, ixN2_0, ixN2_1, ixN3_0, ixN3_1, ixN3_2, ixN4_0, ixN4_1, ixN4_2, ixN4_3, ixN5_0, ixN5_1, ixN5_2, ixN5_3, ixN5_4, ixN6_0, ixN6_1, ixN6_2, ixN6_3, ixN6_4, ixN6_5, List.map_cons, List.map_nil, List.cons_append, List.nil_append, List.replicate_zero, List.replicate_succ, List.length_cons, List.length_nil, List.getElem?_cons_zero, List.getElem?_cons_succ, List.set_cons_zero, List.set_cons_succ, List.getD_cons_zero, List.getD_cons_succ, Bool.and_true, Bool.true_and, Bool.not_false, Bool.not_true, Nat.sub_self, Nat.reduceSub, Nat.reduceAdd, Nat.zero_add, true_and, and_true, and_self, if_true, if_false, ite_true, ite_false, reduceCtorEq, false_implies, implies_true, forall_const, Bool.false_eq_true, Option.bind_some, Option.map_some, Option.bind_none, Option.map_none, runF_eq, okIo, datOf, lvsOf, argIo, isD, outO, isND, notND, vals2D, vals3D, eqDD, neDD, decide_true, decide_false, Bool.decide_eq_true, sz0, sz1, sz2, sz3, sz4, sz5, sz6, sz7, sz8, sz9, sz10, sz11, sz12, sz13, sz14, sz15, sz16, sz17, sz18, sz19, sz20, sz21, sz22, sz23, sz24, sz25, sz26, sz27, sz28, sz29, sz30, sz31, sz32, sz33, sz34, sz35, sz36, sz37, sz38, sz39, sz40, slice_t, all_t, all_l, any_l, all_lm, all_tm, any_lm, Function.comp_def, step_nx, step_ct, step_bk, step_rt, step_rl, step_ite, decide_eq_true_eq, Int.cast_ofNat_Int, Int.reduceLE, Int.reduceLT, Int.reduceAdd, Int.reduceSub, Int.reduceMul, Int.reduceNeg, Int.reduceEq, Int.reduceGT, Nat.reduceEqDiff, ne_eq, not_false_eq_true, Option.some.injEq, forall_eq', Nat.reduceLT, Bool.and_false, Bool.or_false, Bool.false_or, Bool.true_or, Bool.false_and, Bool.or_true, $a,*])
/-! ### places in a world -/
def encP (p : Bool × Int) : D := .tuple [.bool p.1, .int p.2]
theorem F_begin_place_eq (w : Wl) : F_begin_place [.d (encW w)] = .ret (encP (false, w.hush)) none := by
  unfold F_begin_place g_begin_place encW encP
  simp_arith only [true_and]
theorem F_may_end_eq (w : Wl) (p : Bool × Int) : F_may_end [.d (encW w), .d (encP p)] = .ret (.bool (!p.1 || decide (w.least ≤ p.2))) none := by
  unfold F_may_end g_may_end encW encP
  simp_arith only [true_and]
  cases p.1 <;> simp
def nextP (w : Wl) (p : Bool × Int) (b : Bool) : Bool × Int := if b = p.1 then (b, if b = true then p.2 + 1 else if p.2 + 1 < w.hush then p.2 + 1 else w.hush) else (b, 1)
theorem F_next_place_eq (w : Wl) (p : Bool × Int) (b : Bool) : F_next_place [.d (encW w), .d (encP p), .d (.bool b)] = .ret (encP (nextP w p b)) none := by
  unfold F_next_place g_next_place encW encP nextP
  simp_arith only [true_and]
  by_cases h : b = p.1
  · simp only [h, decide_true, Bool.not_true, Bool.false_eq_true, if_false, if_true]
    cases p.1 <;> simp
  · simp only [h, decide_false, Bool.not_false, if_true, if_false]
/-- which sounds may come -/
def moreP (w : Wl) (p : Bool × Int) : List Bool := if p.1 = true then (if w.least ≤ p.2 then [false] else []) ++ (if p.2 < w.great then [true] else []) else if p.2 < w.hush then [false] else [false, true]
theorem F_choices_eq (w : Wl) (p : Bool × Int) : F_choices [.d (encW w), .d (encP p)] = .ret (.list ((moreP w p).map .bool)) none := by
  unfold F_choices g_choices encW encP moreP
  have r1 : ∀ (b : Bool) (c : Prop) [Decidable c], repO [.bool b] (.int (if c then 1 else 0)) = some ((if c then [b] else []).map .bool) := fun b c _ => by
    have e : ∀ k : Int, repO [.bool b] (.int k) = if -(2 ^ 63) ≤ k ∧ k < 2 ^ 63 ∧ [PyData.bool b].length * k.toNat ≤ sizeLine then some (List.replicate k.toNat [PyData.bool b]).flatten else none := fun _ => rfl
    by_cases h : c
    · simp only [h, if_true]
      rw [e, if_pos ⟨by decide, by decide, by rw [sizeLine_eq]; show 1 * 1 ≤ 16777216; decide⟩]
      rfl
    · simp only [h, if_false]
      rw [e, if_pos ⟨by decide, by decide, by rw [sizeLine_eq]; show 1 * 0 ≤ 16777216; decide⟩]
      rfl
  have hl : ∀ (c d : Prop) [Decidable c] [Decidable d], ((if c then [false] else []).map PyData.bool).length + ((if d then [true] else []).map PyData.bool).length ≤ sizeLine := fun c d _ _ => by
    rw [sizeLine_eq]
    by_cases hc : c <;> by_cases hd : d <;> simp only [hc, hd, if_true, if_false] <;> decide
  simp_arith only [r1, hl]
  by_cases h : p.1 = true
  · simp only [h, if_true, List.map_append]
  · have h := bool_no h
    simp only [h, Bool.false_eq_true, if_false]
    split <;> rfl
theorem moreP_len (w : Wl) (p : Bool × Int) : (moreP w p).length ≤ 2 := by
  unfold moreP
  split
  · rw [List.length_append]
    split <;> split <;> simp
  · split <;> simp
theorem itemsL (l : List Bool) : itemsD (.list (l.map .bool)) = some (l.map .bool) := rfl
theorem ixP0 (p : Bool × Int) : ixD (encP p) (.int 0) = some (.bool p.1) := rfl
theorem ixP1 (p : Bool × Int) : ixD (encP p) (.int 1) = some (.int p.2) := rfl
theorem ixW0 (w : Wl) : ixD (encW w) (.int 0) = some (.int w.least) := rfl
/-! ### the law's own places -/
theorem F_more_f (w : Wl) (n : Int) : F_f_law_more [.d (encW w), .d (encP (false, n))] = .ret (.list ((moreP w (false, n)).map .bool)) none := by
  unfold F_f_law_more g_f_law_more encW encP moreP
  simp_arith only [true_and]
  by_cases h : w.hush ≤ n
  · have h' : ¬ n < w.hush := by omega
    simp [h, h']
  · have h' : n < w.hush := by omega
    simp [h, h']
theorem F_more_t (w : Wl) (n : Int) : F_f_law_more [.d (encW w), .d (encP (true, n))] = .retL ((moreP w (true, n)).map .bool) none := by
  unfold F_f_law_more g_f_law_more encW encP moreP
  simp_arith only [true_and]
  rw [lcLoop_filter (fun b => match b with | .bool b => if b = true then decide (n < w.great) else decide (w.least ≤ n) | _ => false) _ (by rw [sizeLine_eq]; decide) (by
    intro y hy
    have : y = .bool false ∨ y = .bool true := by simpa using hy
    rcases this with rfl | rfl
    · refine' ⟨_, _, rfl, ?_, ?_, ?_⟩
      rotate_left
      · simp_arith only [T_f_law_more_1]
        rfl
      · exact fun _ => ⟨_, rfl, rfl⟩
      · exact fun _ => rfl
    · refine' ⟨_, _, rfl, ?_, ?_, ?_⟩
      rotate_left
      · simp_arith only [T_f_law_more_1]
        rfl
      · exact fun _ => ⟨_, rfl, rfl⟩
      · exact fun _ => rfl)]
  simp_arith only [true_and]
  by_cases h1 : w.least ≤ n <;> by_cases h2 : n < w.great <;> simp [h1, h2]
theorem more_ret (w : Wl) (p : Bool × Int) {as : List PD.Arg} {ρ : DE} : retR none as ρ (F_f_law_more [.d (encW w), .d (encP p)]) = .ok (.list ((moreP w p).map .bool)) ρ := by
  obtain ⟨b, n⟩ := p
  cases b
  · rw [F_more_f]; rfl
  · rw [F_more_t]; rfl
def onP (p : Bool × Int) (b : Bool) : Bool × Int := if b = p.1 then (b, if b = true then p.2 + 1 else if p.2 + 1 < 4 then p.2 + 1 else 4) else (b, 1)
theorem F_on_eq (w : Wl) (p : Bool × Int) (b : Bool) : F_f_law_on [.d (encW w), .d (encP p), .d (.bool b)] = .ret (encP (onP p b)) none := by
  unfold F_f_law_on g_f_law_on encW encP onP
  simp_arith only [true_and]
  by_cases h : b = p.1
  · simp only [h, decide_true, Bool.not_true, Bool.false_eq_true, if_false, if_true]
    cases p.1 <;> simp
  · simp only [h, decide_false, Bool.not_false, if_true, if_false]
/-! ### places, stands: as keys, as numbers -/
theorem encP_enc : Enc encP 1 := (EncR.cons Enc.bool (EncR.one Enc.int)).tup
inductive Md where
  | a | r | s
  deriving DecidableEq
def enMd : Md → D
  | .a => .str sAw
  | .r => .str sRc
  | .s => .str sSl
theorem n_AR : ¬ sAw = sRc := by decide +kernel
theorem n_AS : ¬ sAw = sSl := by decide +kernel
theorem n_SR : ¬ sSl = sRc := by decide +kernel
theorem enMd_enc : Enc enMd 0 := by
  refine ⟨fun a b => ?_, fun a => ?_, fun a b e => ?_, fun a => ?_⟩
  · cases a <;> cases b <;> unfold enMd <;> rw [eqv_ss] <;> first | rfl | simp only [n_AR, n_AS, n_SR, Ne.symm n_AR, Ne.symm n_AS, Ne.symm n_SR, reduceCtorEq, decide_true, decide_false]
  · cases a <;> exact sh_str (by decide +kernel)
  · cases a <;> cases b <;> first | rfl | (unfold enMd at e; simp only [PD.nk, Option.some.injEq, NestedKey.text.injEq, n_AR, n_AS, n_SR, Ne.symm n_AR, Ne.symm n_AS, Ne.symm n_SR] at e)
  · cases a <;> exact ⟨_, rfl, by simp only [NestedKey.depth]; exact Nat.le_refl _⟩
def q4 : Sd → Md × Int × Int × List Bool
  | .aw h => (.a, 0, 0, h)
  | .rc c q => (.r, c, q, [])
  | .sl c => (.s, c, 0, [])
theorem q4_inj {s t : Sd} (e : q4 s = q4 t) : s = t := by
  cases s <;> cases t <;> unfold q4 at e <;> simp only [Prod.mk.injEq, reduceCtorEq, false_and, and_true, true_and] at e
  · rw [e]
  · rw [e.1, e.2]
  · rw [e]
def encQ4 (p : Md × Int × Int × List Bool) : D := .tuple [enMd p.1, .int p.2.1, .int p.2.2.1, encB p.2.2.2]
theorem encS_q4 (s : Sd) : encS s = encQ4 (q4 s) := by cases s <;> rfl
theorem encB_enc : Enc encB 1 := Enc.list Enc.bool
theorem encQ4_enc : Enc encQ4 2 := (EncR.cons (enMd_enc.up (by decide)) (EncR.cons (Enc.int.up (by decide)) (EncR.cons (Enc.int.up (by decide)) (EncR.one encB_enc)))).tup
theorem encS_enc : Enc encS 2 := by
  refine ⟨fun a b => ?_, fun a => ?_, fun a b e => ?_, fun a => ?_⟩
  · rw [encS_q4, encS_q4, encQ4_enc.eqv]
    exact decide_eq_decide.mpr ⟨q4_inj, fun e => by rw [e]⟩
  · rw [encS_q4]; exact encQ4_enc.sh _
  · rw [encS_q4, encS_q4] at e; exact q4_inj (encQ4_enc.nk _ _ e)
  · rw [encS_q4]; exact encQ4_enc.key _
def codS : Sd → Nat
  | .aw h => bitsC h
  | .rc c q => 64 + c.toNat * 4 + q.toNat
  | .sl c => 104 + c.toNat
theorem few_S {r : Rec} (hr : r.Ok) : Few (Sd.Ok r) codS 128 := by
  have h1 := hr.n3
  have h2 := hr.a3
  have h3 := hr.m2
  have h4 := hr.h3
  have h5 := hr.r3
  have hb : ∀ h : List Bool, heardS r h → bitsC h < 64 := fun h hh => by
    have := (Few.bools 5).lt h (by have := hh.1; omega)
    exact this
  have hq : ∀ c q : Int, (Sd.rc c q).Ok r → 1 ≤ c ∧ c ≤ 9 ∧ 0 ≤ q ∧ q ≤ 2 := fun c q ⟨a1, a2, a3, a4⟩ => ⟨a1, by omega, a3, by split at a4 <;> omega⟩
  refine ⟨fun s hs => ?_, fun s t hs ht e => ?_⟩
  · cases s with
    | aw h => have := hb h hs; simp only [codS]; omega
    | rc c q => have := hq c q hs; simp only [codS]; omega
    | sl c => have := hs.2; simp only [codS]; omega
  · cases s with
    | aw h =>
      have a1 := hb h hs
      cases t with
      | aw g => rw [bitsC_inj h g e]
      | rc c q => have := hq c q ht; simp only [codS] at e; omega
      | sl c => have := ht.1; simp only [codS] at e; omega
    | rc c q =>
      have a1 := hq c q hs
      cases t with
      | aw g => have := hb g ht; simp only [codS] at e; omega
      | rc c' q' =>
        have a2 := hq c' q' ht
        simp only [codS] at e
        have e1 : c = c' := by omega
        have e2 : q = q' := by omega
        rw [e1, e2]
      | sl c' => have := ht.1; simp only [codS] at e; omega
    | sl c =>
      have a1 := hs.1
      cases t with
      | aw g => have := hb g ht; simp only [codS] at e; omega
      | rc c' q' => have := hq c' q' ht; simp only [codS] at e; omega
      | sl c' =>
        have := ht.1
        simp only [codS] at e
        have e1 : c = c' := by omega
        rw [e1]
/-- places that come -/
structure PlOk (w : Wl) (p : Bool × Int) : Prop where
  lo : 0 ≤ p.2
  hi : p.2 ≤ 12
  gr : p.1 = true → 1 ≤ p.2 ∧ p.2 ≤ w.great
theorem few_P (w : Wl) : Few (PlOk w) (fun p => (if p.1 then 1 else 0) * 13 + p.2.toNat) 26 := (Few.bool.prod (Few.int 13)).imp fun p h => ⟨trivial, h.lo, by have := h.hi; omega⟩
theorem mem_moreP {w : Wl} {p : Bool × Int} {b : Bool} (h : b ∈ moreP w p) : (p.1 = true → b = true → p.2 < w.great) ∧ (p.1 = true → b = false → w.least ≤ p.2) ∧ (p.1 = false → b = true → w.hush ≤ p.2) := by
  unfold moreP at h
  by_cases hp : p.1 = true
  · rw [if_pos hp] at h
    rw [hp]
    refine ⟨fun _ e => ?_, fun _ e => ?_, fun e => by cases e⟩
    · subst e
      by_cases h1 : p.2 < w.great
      · exact h1
      · by_cases h2 : w.least ≤ p.2 <;> simp [h1, h2] at h
    · subst e
      by_cases h1 : w.least ≤ p.2
      · exact h1
      · by_cases h2 : p.2 < w.great <;> simp [h1, h2] at h
  · rw [if_neg hp] at h
    have hp := bool_no hp
    rw [hp]
    refine ⟨fun e => by (cases e), fun e => by (cases e), fun _ e => ?_⟩
    subst e
    by_cases h1 : p.2 < w.hush
    · simp [h1] at h
    · omega
theorem begin_ok {w : Wl} (hw : w.Ok) : PlOk w (false, w.hush) := ⟨by have := hw.h1; show 0 ≤ w.hush; omega, by have := hw.h4; show w.hush ≤ 12; omega, fun e => by cases e⟩
theorem nextP_ok {w : Wl} (hw : w.Ok) {p : Bool × Int} (hp : PlOk w p) {b : Bool} (hb : b ∈ moreP w p) : PlOk w (nextP w p b) := by
  have h1 := mem_moreP hb
  have h2 := hw.h4
  have h3 := hw.h1
  have h4 := hw.g2
  have h5 := hw.lg
  have h6 := hw.l1
  have h7 := hp.lo
  unfold nextP
  by_cases e : b = p.1
  · rw [if_pos e]
    cases hb : b
    · refine ⟨?_, ?_, fun e => by cases e⟩ <;> simp only [Bool.false_eq_true, if_false] <;> split <;> omega
    · have h8 := h1.1 (by rw [← e, hb]) hb
      have h9 := hp.gr (by rw [← e, hb])
      exact ⟨by show 0 ≤ p.2 + 1; omega, by show p.2 + 1 ≤ 12; omega, fun _ => ⟨by show 1 ≤ p.2 + 1; omega, by show p.2 + 1 ≤ w.great; omega⟩⟩
  · rw [if_neg e]
    exact ⟨by show (0 : Int) ≤ 1; omega, by show (1 : Int) ≤ 12; omega, fun _ => ⟨Int.le_refl _, by show 1 ≤ w.great; omega⟩⟩
theorem onP_ok {w : Wl} (hw : w.Ok) {p : Bool × Int} (hp : PlOk w p) {b : Bool} (hb : b ∈ moreP w p) : PlOk w (onP p b) := by
  have h1 := mem_moreP hb
  have h4 := hw.g2
  have h5 := hw.lg
  have h6 := hw.l1
  have h7 := hp.lo
  unfold onP
  by_cases e : b = p.1
  · rw [if_pos e]
    cases hb : b
    · refine ⟨?_, ?_, fun e => by cases e⟩ <;> simp only [Bool.false_eq_true, if_false] <;> split <;> omega
    · have h8 := h1.1 (by rw [← e, hb]) hb
      have h9 := hp.gr (by rw [← e, hb])
      exact ⟨by show 0 ≤ p.2 + 1; omega, by show p.2 + 1 ≤ 12; omega, fun _ => ⟨by show 1 ≤ p.2 + 1; omega, by show p.2 + 1 ≤ w.great; omega⟩⟩
  · rw [if_neg e]
    exact ⟨by show (0 : Int) ≤ 1; omega, by show (1 : Int) ≤ 12; omega, fun _ => ⟨Int.le_refl _, by show 1 ≤ w.great; omega⟩⟩
/-- the program's place and the law's -/
def PlR (w : Wl) (p q : Bool × Int) : Prop := p.1 = q.1 ∧ p.2 = if p.1 = true then q.2 else if q.2 < w.hush then q.2 else w.hush
theorem PlR.begin {w : Wl} (hw : w.Ok) : PlR w (false, w.hush) (false, 4) := ⟨rfl, by have := hw.h4; have := hw.h1; show w.hush = if (4 : Int) < w.hush then 4 else w.hush; split <;> omega⟩
theorem PlR.more {w : Wl} {p q : Bool × Int} (h : PlR w p q) : moreP w p = moreP w q := by
  obtain ⟨h1, h2⟩ := h
  unfold moreP
  rw [← h1]
  by_cases hp : p.1 = true
  · rw [if_pos hp, if_pos hp]
    rw [if_pos hp] at h2
    rw [h2]
  · rw [if_neg hp, if_neg hp]
    rw [if_neg hp] at h2
    by_cases h3 : q.2 < w.hush
    · rw [if_pos h3] at h2
      rw [h2]
    · rw [if_neg h3] at h2
      rw [if_neg h3, if_neg (by omega)]
theorem PlR.next {w : Wl} (hw : w.Ok) {p q : Bool × Int} (h : PlR w p q) (b : Bool) : PlR w (nextP w p b) (onP q b) := by
  obtain ⟨h1, h2⟩ := h
  have h3 := hw.h4
  have h4 := hw.h1
  unfold nextP onP
  rw [← h1]
  by_cases e : b = p.1
  · rw [if_pos e, if_pos e]
    refine ⟨rfl, ?_⟩
    cases hb : b
    · rw [← e, hb] at h2
      simp only [Bool.false_eq_true, if_false] at h2 ⊢
      split at h2 <;> split <;> split <;> split <;> omega
    · rw [← e, hb] at h2
      simp only [if_true] at h2 ⊢
      rw [h2]
  · rw [if_neg e, if_neg e]
    refine ⟨rfl, ?_⟩
    show (1 : Int) = if b = true then 1 else if 1 < w.hush then 1 else w.hush
    split
    · rfl
    · split <;> omega
theorem kept_range {r : Rec} (hr : r.Ok) {s : Sd} (hs : s.Ok r) (b : Bool) : 0 ≤ (stepS r s b).2 ∧ (stepS r s b).2 ≤ 6 := by
  have h1 := hr.n3
  have h2 := hr.a3
  have fin : ∀ c q k, (finS r c q k).2 = k := fun c q k => by unfold finS; split <;> rfl
  cases s with
  | sl c => exact ⟨Int.le_refl _, by show (0 : Int) ≤ 6; decide⟩
  | rc c q => show 0 ≤ (finS r _ _ 1).2 ∧ (finS r _ _ 1).2 ≤ 6; rw [fin]; exact ⟨by decide, by decide⟩
  | aw h =>
    unfold stepS
    dsimp only
    split
    · rw [fin]
      have := hs.1
      rw [List.length_append, List.length_singleton]
      omega
    · exact ⟨Int.le_refl _, by show (0 : Int) ≤ 6; decide⟩
/-! ### plans that are looked at -/
def encPl (r : Rec) (w : Wl) : D := .tuple [encR r, encW w]
theorem F_is_plan_ok {r : Rec} (hr : r.Ok) {w : Wl} (hw : w.Ok) : F_is_plan [.d (encPl r w)] = .ret (.bool true) none := by
  obtain ⟨b, e, h⟩ := F_is_plan_says (encPl r w)
  rw [e, h.mpr ⟨r, w, rfl, hr, hw⟩]
theorem F_look_at_plan_ok {r : Rec} (hr : r.Ok) {w : Wl} (hw : w.Ok) : F_look_at_plan [.d (encPl r w)] = .ret .none none := by
  unfold F_look_at_plan g_look_at_plan
  simp_arith only [F_is_plan_ok hr hw]
theorem gtup_Pl (gs : Gts) (r : Rec) (w : Wl) (ρ : DE) : G.tup 2 gs (encPl r w) ρ = gs [encR r, encW w] ρ := rfl
/-! ### what a stand tells -/
def modeS : Sd → Str
  | .aw _ => sAw
  | .rc _ _ => sRc
  | .sl _ => sSl
def heardL : Sd → List Bool
  | .aw h => h
  | _ => []
def isRc : Sd → Bool
  | .rc _ _ => true
  | _ => false
def cntS : Sd → Int
  | .rc c _ => c
  | _ => 0
def quietS : Sd → Int
  | .rc _ q => q
  | _ => 0
theorem ixS0 (s : Sd) : ixD (encS s) (.int 0) = some (.str (modeS s)) := by cases s <;> rfl
theorem ixS2 (s : Sd) : ixD (encS s) (.int 2) = some (.int (quietS s)) := by cases s <;> rfl
theorem ixS3 (s : Sd) : ixD (encS s) (.int 3) = some (encB (heardL s)) := by cases s <;> rfl
theorem modeS_rc (s : Sd) : (modeS s = sRc) = (isRc s = true) := by
  cases s
  · exact propext ⟨fun e => absurd e n_AR, fun e => by cases e⟩
  · exact propext ⟨fun _ => rfl, fun _ => rfl⟩
  · exact propext ⟨fun e => absurd e n_SR, fun e => by cases e⟩
/-- the ticks that a tick may bring into a recording -/
def newS (s : Sd) (b : Bool) : List Bool := heardL s ++ [b]
theorem newS_rc {s : Sd} (h : isRc s = true) (b : Bool) : newS s b = [b] := by cases s <;> first | rfl | cases h
theorem heardL_len {r : Rec} (hr : r.Ok) {s : Sd} (hs : s.Ok r) : (heardL s).length ≤ 5 := by
  cases s with
  | aw h => have := hs.1; have := hr.n3; have := hr.a3; show h.length ≤ 5; omega
  | rc c q => exact Nat.zero_le _
  | sl c => exact Nat.zero_le _
theorem newS_add {r : Rec} (hr : r.Ok) {s : Sd} (hs : s.Ok r) (b : Bool) : addD (encB (heardL s)) (encB [b]) = some (encB (newS s b)) := add_one _ b (by have := heardL_len hr hs; rw [sizeLine_eq]; omega)
theorem newS_len {r : Rec} (hr : r.Ok) {s : Sd} (hs : s.Ok r) (b : Bool) : (newS s b).length ≤ 6 := by
  have := heardL_len hr hs
  unfold newS
  rw [List.length_append, List.length_singleton]
  omega
theorem newS_if (s : Sd) (b : Bool) : (if (!isRc s) = true then newS s b else [b]) = newS s b := by
  by_cases h : isRc s = true
  · rw [h, newS_rc h]; rfl
  · rw [bool_no h]; rfl
theorem encB_one (b : Bool) : PyData.tuple [PyData.bool b] = encB [b] := rfl
theorem m_encB {c : Prop} [Decidable c] {a b : List Bool} : (if c then encB a else encB b) = encB (if c then a else b) := by split <;> rfl
theorem itemsB (l : List Bool) : itemsD (encB l) = some (l.map .bool) := rfl
end K8

set_option maxRecDepth 100000
set_option maxHeartbeats 4000000
set_option synthInstance.maxSize 8000
set_option synthInstance.maxHeartbeats 400000
namespace K8
open PySem PySem.Spec L2 PD
local macro_rules
  | `(tactic| simp_arith! only [$a,*]) => `(tactic| simp only [ret_ap, lift_some, lift_none, var_ap, varR_d, ownAt_ap, ownL_own, ownL_d, ownL_n, frzAt_ap, frzL_own, frzL_d, frz_nil, frz_cons, frz1_own, frz1_d, frz1_n, wipe_nil, wipe_cons, restore_nil, restore_cons, clean_nil, clean_cons, isOwnL_own, isOwnL_d, isOwnL_k, frz1_k, frzL_k, ownL_k, isOwnL_n, bind_ap, bindR_ok, bindR_ex, bindR_bad, ofM_ap, ofR_ok, ofR_ex, ofR_bad, seq_ap, seqR_nx, seqR_rt, seqR_rl, seqR_bk, seqR_ct, seqR_ex, seqR_bad, nil_ap, pass_ap, never_ap, brk_ap, cnt_ap, retN_ap, sret_ap, sretL_ap, drop_ap, site_ap, asg_ap, own_ap, par2_ap, par3_ap, asgT_ap, asgR_some, asgR_none, gnm_ap, gnil_ap, gcons_ap, gtup_ap, andV_ap, orV_ap, andT_ap, orT_ap, notT_ap, test_ap, op1_ap, op2_ap, chain_ap, mite_ap, ite_apR, ite_apS, argN_ap, argD_ap, argS_ap, slotR_some, tup_ap, lst_ap, known_ap, call_ap, callL_ap, listL_ap, seqOf_l, seqOf_t, items_ap, part_ap, slice_ap, catL_ap, frz_ap, borrow_ap, borrowR_ok, borrowT_ap, borrowTR_ok, subO_ap, app_ap, setIx_ap, retO_ap, for_ap, lc_ap, lcR_ok, fn_ap, fnL_ap, fnR_some, fnLR_some, retR_ret, retR_retL, retLR_retL, putR_some, putO_none, putO_s0, putO_s1, putO_s2, putO_s3, putO_s4, endR_rt, endR_rl, endR_nx, endR_bad, endR_ite, pop_ap, popR_snoc, dctAt_ap, dctL_k, dctL_o, dctL_d, dctL_n, inK_ap, subK_ap, slotKR_some, setK_ap, slotKF_some, setKR_some, parN_ap, parR_ok, setN_nil, setN_cons, nC_ap, nL_ap, nD_ap, dict1_ap, new_ap, repL_ap, addD_ii, addD_ss, addD_tt, subD_ii, mulD_ii, fdivD_ii, modD_ii, powD_ii, negD_i, ltD_ii, leD_ii, gtD_ii, geD_ii, ixD_l, ixD_t, catD_ll, itemsD_l, itemsD_t, lenD_l, lenD_t, lenD_s, absD_i, maxD_ii, minD_ii, intD_i, intD_b, tupleD_l, tupleD_t, notD_b, asB_b, asI_i, eqD_ii, eqD_ss, eqD_bb, eqD_si, eqD_is, eqD_nn, eqD_nb, eqD_ni, eqD_ns, eqD_bn, eqD_in, eqD_sn, tInt_none, tInt_bool, tInt_int, tInt_str, tInt_tuple, tInt_list, tInt_dict, tBool_none, tBool_bool, tBool_int, tBool_str, tBool_tuple, tBool_list, tBool_dict, tStr_none, tStr_bool, tStr_int, tStr_str, tStr_tuple, tStr_list, tStr_dict, tTuple_none, tTuple_bool, tTuple_int, tTuple_str, tTuple_tuple, tTuple_list, tTuple_dict, tList_none, tList_bool, tList_int, tList_str, tList_tuple, tList_list, tList_dict, tSeq_none, tSeq_bool, tSeq_int, tSeq_str, tSeq_tuple, tSeq_list, tSeq_dict, isNoneB_none, scalarD_none, isNoneB_bool, scalarD_bool, isNoneB_int, scalarD_int, isNoneB_str, scalarD_str, isNoneB_tuple, scalarD_tuple, isNoneB_list, scalarD_list, isNoneB_dict, scalarD_dict, ixT0, ixT1, ixT2, ixT3, ixT4, ixT5, ixT6, ixT7, ixT8, ixT9, ixL0, ixL1, ixL2, ixL3, ixL4, ixL5, ixL6, ixL7, ixL8, ixL9, aI0, aI1, aI2, aI3, aI4, aI5, aI6, aI7, aI8, aI9, ixN1_0, ixN2_0, ixN2_1, ixN3_0, ixN3_1, ixN3_2, ixN4_0, ixN4_1, ixN4_2, ixN4_3, ixN5_0, ixN5_1, ixN5_2, ixN5_3, ixN5_4, ixN6_0, ixN6_1, ixN6_2, ixN6_3, ixN6_4, ixN6_5, List.map_cons, List.map_nil, List.cons_append, List.nil_append, List.replicate_zero, List.replicate_succ, List.length_cons, List.length_nil, List.getElem?_cons_zero, List.getElem?_cons_succ, List.set_cons_zero, List.set_cons_succ, List.getD_cons_zero, List.getD_cons_succ, Bool.and_true, Bool.true_and, Bool.not_false, Bool.not_true, Nat.sub_self, Nat.reduceSub, Nat.reduceAdd, Nat.zero_add, true_and, and_true, and_self, if_true, if_false, ite_true, ite_false, reduceCtorEq, false_implies, implies_true, forall_const, Bool.false_eq_true, Option.bind_some, Option.map_some, Option.bind_none, Option.map_none, runF_eq, okIo, datOf, lvsOf, argIo, isD, outO, isND, notND, vals2D, vals3D, eqDD, neDD, decide_true, decide_false, Bool.decide_eq_true, sz0, sz1, sz2, sz3, sz4, sz5, sz6, sz7, sz8, sz9, sz10, sz11, sz12, sz13, sz14, sz15, sz16, sz17, sz18, sz19, sz20, sz21, sz22, sz23, sz24, sz25, sz26, sz27, sz28, sz29, sz30, sz31, sz32, sz33, sz34, sz35, sz36, sz37, sz38, sz39, sz40, slice_t, all_t, all_l, any_l, all_lm, all_tm, any_lm, Function.comp_def, step_nx, step_ct, step_bk, step_rt, step_rl, step_ite, decide_eq_true_eq, Int.cast_ofNat_Int, Int.reduceLE, Int.reduceLT, Int.reduceAdd, Int.reduceSub, Int.reduceMul, Int.reduceNeg, Int.reduceEq, Int.reduceGT, Nat.reduceEqDiff, ne_eq, not_false_eq_true, Option.some.injEq, forall_eq', Nat.reduceLT, Bool.and_false, Bool.or_false, Bool.false_or, Bool.true_or, Bool.false_and, Bool.or_true, m_ok, m_nx, m_rt, m_cons, m_some, m_d, m_own, m_dct, m_int, m_bool, m_list, m_ret, s_rtl, s_rtr, s_rll, s_rlr, s_bkl, s_bkr, s_ctl, s_ctr, s_exl, s_exr, b_exl, b_exr, o_exl, o_exr, m_tt, m_ft, m_dt, m_df, m_dtx, m_dfx, m_xdt, m_xdf, ite_self, Bool.decide_eq_true, Bool.not_not, Bool.decide_eq_false, $a,*])
/-! ### what is noted of a sound: the program -/
abbrev W7 : Type := Bool × Int × Int × Bool × Bool × Int × Bool
def encN (n : W7) : D := .tuple [.bool n.1, .int n.2.1, .int n.2.2.1, .bool n.2.2.2.1, .bool n.2.2.2.2.1, .int n.2.2.2.2.2.1, .bool n.2.2.2.2.2.2]
def unw : W7 := (false, 0, 0, false, false, 0, false)
def stN : W7 := (true, 0, 0, false, false, 0, false)
def min7 (x : Int) : Int := if x < 7 then x else 7
def min2 (x : Int) : Int := if x < 2 then x else 2
def b2i (b : Bool) : Int := if b = true then 1 else 0
/-- the note behind a tick -/
def watchF (n : W7) (b : Bool) (s t : Sd) (k : Int) : W7 :=
  let c := n.1 && b
  let len := if c = true then min7 (n.2.1 + 1) else n.2.1
  let gap := if c = true then n.2.2.1 else min7 (n.2.2.1 + 1)
  let la := if c = true then false else n.2.2.2.2.1
  let h := n.2.2.2.2.2.2 && isRc s
  let g := decide (gap < k)
  (c, len, gap, if g = true then n.2.2.2.1 || decide (gap + len ≤ k) else n.2.2.2.1, if g = true then true else la, if g = true then min2 (n.2.2.2.2.2.1 + b2i (!h)) else n.2.2.2.2.2.1, (if g = true then true else h) && isRc t)
theorem encN_mk (a : Bool) (b c : Int) (d e : Bool) (f : Int) (g : Bool) : PyData.tuple [.bool a, .int b, .int c, .bool d, .bool e, .int f, .bool g] = encN (a, b, c, d, e, f, g) := rfl
theorem gtup_N (gs : Gts) (n : W7) (ρ : DE) : G.tup 7 gs (encN n) ρ = gs [.bool n.1, .int n.2.1, .int n.2.2.1, .bool n.2.2.2.1, .bool n.2.2.2.2.1, .int n.2.2.2.2.2.1, .bool n.2.2.2.2.2.2] ρ := rfl
theorem cFar : cst_FAR = .int 7 := rfl
theorem cUnw : cst_UNWATCHED = encN unw := rfl
theorem F_watched_eq (n : W7) (b : Bool) (s t : Sd) (k : Int) : F_watched [.d (encN n), .d (.bool b), .d (encS s), .d (encS t), .d (.int k)] = .ret (encN (watchF n b s t k)) none := by
  unfold F_watched g_watched
  simp_arith! only [gtup_N, cFar, cR, ixS0, modeS_rc]
  unfold watchF min7 min2 b2i
  obtain ⟨on, len, gap, fi, la, many, here⟩ := n
  dsimp only
  rw [encN_mk]
  cases on <;> cases b <;> simp only [Bool.and_self, Bool.true_and, Bool.and_true, Bool.false_and, Bool.and_false, Bool.false_eq_true, if_true, if_false, Bool.not_true, Bool.not_false, decide_eq_true_eq]
  all_goals (first | (by_cases hg : gap < k <;> simp [hg]; done) | (by_cases hg : (if gap + 1 < 7 then gap + 1 else 7) < k <;> simp [hg]; done))
def startF (b : Bool) (s t : Sd) (k : Int) : W7 := watchF stN b s t k
theorem F_started_eq (b : Bool) (s t : Sd) (k : Int) : F_started [.d (.bool b), .d (encS s), .d (encS t), .d (.int k)] = .ret (encN (startF b s t k)) none := by
  unfold F_started g_started
  have e : PyData.tuple [.bool true, .int 0, .int 0, .bool false, .bool false, .int 0, .bool false] = encN stN := rfl
  simp_arith! only [e, F_watched_eq]
  rfl
theorem encN_enc : Enc encN 1 := (EncR.cons Enc.bool (EncR.cons Enc.int (EncR.cons Enc.int (EncR.cons Enc.bool (EncR.cons Enc.bool (EncR.cons Enc.int (EncR.one Enc.bool))))))).tup
theorem eqN (a b : W7) : eqD (encN a) (encN b) = some (decide (a = b)) := by
  rw [eqD_sh (encN_enc.sh a) (encN_enc.sh b) (by decide) (by decide), encN_enc.eqv]
/-- the four harms of one sound -/
inductive Hm where
  | early | late | lost | parted
  deriving DecidableEq
def sEarly : Str := "early"
def sJoined : Str := "joined"
def sLate : Str := "late"
def sLost : Str := "lost"
def sParted : Str := "parted"
def hmS : Hm → Str
  | .early => sEarly
  | .late => sLate
  | .lost => sLost
  | .parted => sParted
theorem t_early : Str.ofString "early" = sEarly := rfl
theorem t_joined : Str.ofString "joined" = sJoined := rfl
theorem t_late : Str.ofString "late" = sLate := rfl
theorem t_lost : Str.ofString "lost" = sLost := rfl
theorem t_parted : Str.ofString "parted" = sParted := rfl
theorem hm_joined (h : Hm) : (hmS h = sJoined) = False := by cases h <;> exact eq_false (by decide +kernel)
theorem hm_lost (h : Hm) : (hmS h = sLost) = (h = .lost) := by cases h <;> first | exact (eq_true rfl).trans (eq_true rfl).symm | exact (eq_false (by decide +kernel)).trans (eq_false (by decide)).symm
theorem hm_parted (h : Hm) : (hmS h = sParted) = (h = .parted) := by cases h <;> first | exact (eq_true rfl).trans (eq_true rfl).symm | exact (eq_false (by decide +kernel)).trans (eq_false (by decide)).symm
theorem hm_late (h : Hm) : (hmS h = sLate) = (h = .late) := by cases h <;> first | exact (eq_true rfl).trans (eq_true rfl).symm | exact (eq_false (by decide +kernel)).trans (eq_false (by decide)).symm
theorem hm_early (h : Hm) : (hmS h = sEarly) = (h = .early) := by cases h <;> first | exact (eq_true rfl).trans (eq_true rfl).symm | exact (eq_false (by decide +kernel)).trans (eq_false (by decide)).symm
def harmF (h : Hm) (n : W7) : Bool := if n.2.1 = 0 then false else match h with
  | .lost => decide (n.2.2.2.2.2.1 = 0)
  | .parted => decide (1 < n.2.2.2.2.2.1)
  | .late => decide (0 < n.2.2.2.2.2.1) && !n.2.2.2.1
  | .early => decide (0 < n.2.2.2.2.2.1) && !n.2.2.2.2.1
theorem F_is_harmed_eq (n : W7) (h : Hm) : F_is_harmed [.d (encN n), .d (.str (hmS h))] = .ret (.bool (harmF h n)) none := by
  unfold F_is_harmed g_is_harmed
  simp_arith! only [gtup_N, t_lost, t_parted, t_late, hm_lost, hm_parted, hm_late]
  unfold harmF
  obtain ⟨on, len, gap, fi, la, many, here⟩ := n
  dsimp only
  by_cases h0 : len = 0 <;> cases h <;> simp [h0]
def notesF (n : W7) (p : Bool × Int) (b : Bool) (s t : Sd) (k : Int) : List W7 := if n = unw then unw :: (if (b && !p.1) = true then [startF b s t k] else []) else [watchF n b s t k]
theorem F_notes_ret (n : W7) (p : Bool × Int) (b : Bool) (s t : Sd) (k : Int) {as : List PD.Arg} {ρ : DE} : retR none as ρ (F_notes_behind [.d (encN n), .d (encP p), .d (.bool b), .d (encS s), .d (encS t), .d (.int k)]) = .ok (.list ((notesF n p b s t k).map encN)) ρ := by
  unfold F_notes_behind g_notes_behind
  by_cases hu : n = unw
  · simp_arith! only [cUnw, eqN, hu, F_started_eq, ixP0]
    unfold notesF
    rw [if_pos rfl]
    cases b <;> cases p.1 <;> simp_arith! only [cUnw, eqN, F_started_eq, ixP0, Bool.not_false] <;> rfl
  · simp_arith! only [cUnw, eqN, hu, F_watched_eq, ixP0]
    unfold notesF
    rw [if_neg hu]
    rfl
/-! stretches of sound -/
def startsP : Bool → List Bool → Int
  | _, [] => 0
  | p, b :: h => b2i (b && !p) + startsP b h
theorem startsP_nn : ∀ (p : Bool) (h : List Bool), 0 ≤ startsP p h
  | _, [] => Int.le_refl _
  | p, b :: h => by have := startsP_nn b h; unfold startsP b2i; split <;> omega
/-- whether a stretch begins at a tick -/
def begAt (h : List Bool) (i : Int) (b : Bool) : Bool := b && !(decide (0 < i) && h.getD (i - 1).toNat false)
def begD (h : List Bool) (d : D) : D := match d with
  | .tuple [.int i, .bool b] => .int (b2i (begAt h i b))
  | _ => .none
theorem intsOf_map : ∀ ns : List Int, intsOf (ns.map PyData.int) = some ns
  | [] => rfl
  | n :: ns => by
    rw [List.map_cons]
    show (intsOf (ns.map PyData.int)).map (n :: ·) = _
    rw [intsOf_map ns]
    rfl
theorem begs_from (g : List Bool) : ∀ (h pre : List Bool), g = pre ++ h → ∃ ns : List Int, ((h.map PyData.bool).zipIdx pre.length).map (fun p => begD g (.tuple [.int (p.2 : Nat), p.1])) = ns.map .int ∧ ns.sum = startsP (pre.getLast?.getD false) h
  | [], pre, _ => ⟨[], rfl, rfl⟩
  | b :: h, pre, e => by
    obtain ⟨ns, h1, h2⟩ := begs_from g h (pre ++ [b]) (by rw [e, List.append_assoc]; rfl)
    rw [List.length_append, List.length_singleton] at h1
    refine ⟨b2i (b && !(pre.getLast?.getD false)) :: ns, ?_, ?_⟩
    · rw [List.map_cons, List.zipIdx_cons, List.map_cons, h1, List.map_cons]
      congr 1
      show PyData.int (b2i (begAt g (pre.length : Nat) b)) = _
      congr 3
      unfold begAt
      congr 1
      cases hp : pre with
      | nil => simp
      | cons c pre' =>
        have hl : 0 < (((c :: pre').length : Nat) : Int) := by rw [List.length_cons]; omega
        rw [decide_eq_true hl, Bool.true_and]
        congr 1
        rw [e, hp]
        have e2 : ((((c :: pre').length : Nat) : Int) - 1).toNat = (c :: pre').length - 1 := by omega
        rw [e2, List.getD_eq_getElem?_getD, List.getElem?_append_left (by rw [List.length_cons]; omega), List.getLast?_eq_getElem?]
    · rw [List.sum_cons, h2]
      show _ = b2i (b && !(pre.getLast?.getD false)) + startsP b h
      rw [List.getLast?_append, List.getLast?_singleton]
      rfl
def soundsF (h : List Bool) : Int := min2 (startsP false h)
theorem F_sounds_in_eq (h : List Bool) (hl : h.length ≤ 100) : F_sounds_in [.d (encB h)] = .ret (.int (soundsF h)) none := by
  obtain ⟨ns, h1, h2⟩ := begs_from h h [] rfl
  have e1 : enumD [encB h] = some (enumL (h.map PyData.bool)) := rfl
  have e2 : sumD [.list ((enumL (h.map PyData.bool)).map (begD h))] = some (.int (startsP false h)) := by
    show (intsOf ((enumL (h.map PyData.bool)).map (begD h))).map _ = _
    have e3 : (enumL (h.map PyData.bool)).map (begD h) = ns.map .int := by
      unfold enumL
      rw [List.map_map]
      exact h1
    rw [e3, intsOf_map, Option.map_some, h2]
    rfl
  unfold F_sounds_in g_sounds_in
  simp_arith! only [e1]
  rw [lcLoop_map (begD h) _ (by rw [enumL_len, List.length_map, sizeLine_eq]; omega) fun x hx => ?_]
  · simp_arith! only [e2]
    rfl
  · obtain ⟨i, hi⟩ := List.getElem?_of_mem hx
    obtain ⟨d, hd, rfl⟩ := enumL_get hi
    rw [List.getElem?_map] at hd
    cases hb : h[i]? with
    | none => rw [hb] at hd; cases hd
    | some b =>
      rw [hb] at hd
      cases hd
      have hil := (List.getElem?_eq_some_iff.mp hb).1
      refine ⟨[some (.d (encB h)), none, some (.d (.int (i : Nat))), some (.d (.bool b))], [some (.d (encB h)), none, some (.d (.int (i : Nat))), some (.d (.bool b))], [some (.d (encB h)), none, some (.d (.int (i : Nat))), some (.d (.bool b))], rfl, rfl, ?_, rfl⟩
      unfold E_sounds_in_1
      by_cases h0 : 0 < ((i : Nat) : Int)
      · have e4 : ixD (encB h) (.int ((i : Nat) - 1)) = some (.bool (h.getD (((i : Nat) : Int) - 1).toNat false)) := by
          have e5 : ((i : Nat) : Int) - 1 = (((i - 1 : Nat)) : Int) := by omega
          rw [e5]
          show atI (h.map PyData.bool) _ = _
          rw [atI_nat (by rw [List.getElem?_map, List.getElem?_eq_getElem (show i - 1 < h.length by omega)]; rfl)]
          rw [Int.toNat_natCast, List.getD_eq_getElem?_getD, List.getElem?_eq_getElem (show i - 1 < h.length by omega)]
          rfl
        simp_arith! only [h0, e4]
        unfold begD begAt b2i
        simp only [h0, decide_true, Bool.true_and]
        all_goals (cases b <;> cases h.getD (((i : Nat) : Int) - 1).toNat false <;> rfl)
      · simp_arith! only [h0]
        unfold begD begAt b2i
        simp only [h0, decide_false, Bool.false_and]
        all_goals (cases b <;> rfl)
def joinsF (s : Sd) (b : Bool) (m : Int) : Int := match s with
  | .aw h => soundsF (h ++ [b])
  | _ => min2 (m + b2i (b && decide (0 < quietS s)))
theorem modeS_aw (s : Sd) : (modeS s = sAw) = (match s with | .aw _ => True | _ => False) := by
  cases s
  · exact eq_true rfl
  · exact eq_false (fun e => n_AR e.symm)
  · exact eq_false (fun e => n_AS e.symm)
theorem F_joins_eq {r : Rec} (hr : r.Ok) {s : Sd} (hs : s.Ok r) (b : Bool) (m : Int) : F_joins [.d (encS s), .d (.bool b), .d (.int m)] = .ret (.int (joinsF s b m)) none := by
  have h5 := heardL_len hr hs
  unfold F_joins g_joins
  cases s with
  | aw h =>
    have h5 : h.length ≤ 5 := h5
    have e : addD (encB (heardL (Sd.aw h))) (.tuple [.bool b]) = some (encB (h ++ [b])) := add_one h b (by rw [sizeLine_eq]; omega)
    simp_arith! only [ixS0, cA, ixS3, modeS_aw, e, F_sounds_in_eq (h ++ [b]) (by rw [List.length_append, List.length_singleton]; omega)]
    rfl
  | rc c q =>
    simp_arith! only [ixS0, cA, ixS2, modeS_aw]
    unfold joinsF min2 b2i
    rfl
  | sl c =>
    simp_arith! only [ixS0, cA, ixS2, modeS_aw]
    unfold joinsF min2 b2i
    rfl
abbrev J2 : Type := Bool × Int
def joinedF (n : J2) (b : Bool) (s t : Sd) (k : Int) : J2 :=
  let m := if 0 < k then joinsF s b n.2 else 0
  (n.1 || decide (1 < m), if isRc t = true then m else 0)
theorem F_joined_eq {r : Rec} (hr : r.Ok) {s : Sd} (hs : s.Ok r) (n : J2) (b : Bool) (t : Sd) (k : Int) : F_joined_behind [.d (encP n), .d (.bool b), .d (encS s), .d (encS t), .d (.int k)] = .ret (encP (joinedF n b s t k)) none := by
  unfold F_joined_behind g_joined_behind
  have e : ∀ (a : Bool) (i : Int), PyData.tuple [.bool a, .int i] = encP (a, i) := fun _ _ => rfl
  simp_arith! only [ixP0, ixP1, F_joins_eq hr hs, ixS0, cR, modeS_rc, e]
  unfold joinedF
  rfl
end K8

set_option maxRecDepth 100000
set_option maxHeartbeats 4000000
set_option synthInstance.maxSize 8000
set_option synthInstance.maxHeartbeats 400000
namespace K8
open PySem PySem.Spec L2 PD
local macro_rules
  | `(tactic| simp_arith! only [$a,*]) => `(tactic| simp only [ret_ap, lift_some, lift_none, var_ap, varR_d, ownAt_ap, ownL_own, ownL_d, ownL_n, frzAt_ap, frzL_own, frzL_d, frz_nil, frz_cons, frz1_own, frz1_d, frz1_n, wipe_nil, wipe_cons, restore_nil, restore_cons, clean_nil, clean_cons, isOwnL_own, isOwnL_d, isOwnL_k, frz1_k, frzL_k, ownL_k, isOwnL_n, bind_ap, bindR_ok, bindR_ex, bindR_bad, ofM_ap, ofR_ok, ofR_ex, ofR_bad, seq_ap, seqR_nx, seqR_rt, seqR_rl, seqR_bk, seqR_ct, seqR_ex, seqR_bad, nil_ap, pass_ap, never_ap, brk_ap, cnt_ap, retN_ap, sret_ap, sretL_ap, drop_ap, site_ap, asg_ap, own_ap, par2_ap, par3_ap, asgT_ap, asgR_some, asgR_none, gnm_ap, gnil_ap, gcons_ap, gtup_ap, andV_ap, orV_ap, andT_ap, orT_ap, notT_ap, test_ap, op1_ap, op2_ap, chain_ap, mite_ap, ite_apR, ite_apS, argN_ap, argD_ap, argS_ap, slotR_some, tup_ap, lst_ap, known_ap, call_ap, callL_ap, listL_ap, seqOf_l, seqOf_t, items_ap, part_ap, slice_ap, catL_ap, frz_ap, borrow_ap, borrowR_ok, borrowT_ap, borrowTR_ok, subO_ap, app_ap, setIx_ap, retO_ap, for_ap, lc_ap, lcR_ok, fn_ap, fnL_ap, fnR_some, fnLR_some, retR_ret, retR_retL, retLR_retL, putR_some, putO_none, putO_s0, putO_s1, putO_s2, putO_s3, putO_s4, endR_rt, endR_rl, endR_nx, endR_bad, endR_ite, pop_ap, popR_snoc, dctAt_ap, dctL_k, dctL_o, dctL_d, dctL_n, inK_ap, subK_ap, slotKR_some, setK_ap, slotKF_some, setKR_some, parN_ap, parR_ok, setN_nil, setN_cons, nC_ap, nL_ap, nD_ap, dict1_ap, new_ap, repL_ap, addD_ii, addD_ss, addD_tt, subD_ii, mulD_ii, fdivD_ii, modD_ii, powD_ii, negD_i, ltD_ii, leD_ii, gtD_ii, geD_ii, ixD_l, ixD_t, catD_ll, itemsD_l, itemsD_t, lenD_l, lenD_t, lenD_s, absD_i, maxD_ii, minD_ii, intD_i, intD_b, tupleD_l, tupleD_t, notD_b, asB_b, asI_i, eqD_ii, eqD_ss, eqD_bb, eqD_si, eqD_is, eqD_nn, eqD_nb, eqD_ni, eqD_ns, eqD_bn, eqD_in, eqD_sn, tInt_none, tInt_bool, tInt_int, tInt_str, tInt_tuple, tInt_list, tInt_dict, tBool_none, tBool_bool, tBool_int, tBool_str, tBool_tuple, tBool_list, tBool_dict, tStr_none, tStr_bool, tStr_int, tStr_str, tStr_tuple, tStr_list, tStr_dict, tTuple_none, tTuple_bool, tTuple_int, tTuple_str, tTuple_tuple, tTuple_list, tTuple_dict, tList_none, tList_bool, tList_int, tList_str, tList_tuple, tList_list, tList_dict, tSeq_none, tSeq_bool, tSeq_int, tSeq_str, tSeq_tuple, tSeq_list, tSeq_dict, isNoneB_none, scalarD_none, isNoneB_bool, scalarD_bool, isNoneB_int, scalarD_int, isNoneB_str, scalarD_str, isNoneB_tuple, scalarD_tuple, isNoneB_list, scalarD_list, isNoneB_dict, scalarD_dict, ixT0, ixT1, ixT2, ixT3, ixT4, ixT5, ixT6, ixT7, ixT8, ixT9, ixL0, ixL1, ixL2, ixL3, ixL4, ixL5, ixL6, ixL7, ixL8, ixL9, aI0, aI1, aI2, aI3, aI4, aI5, aI6, aI7, aI8, aI9, ixN1_0, ixN2_0, ixN2_1, ixN3_0, ixN3_1, ixN3_2, ixN4_0, ixN4_1, ixN4_2, ixN4_3, ixN5_0, ixN5_1, ixN5_2, ixN5_3, ixN5_4, ixN6_0, ixN6_1, ixN6_2, ixN6_3, ixN6_4, ixN6_5, List.map_cons, List.map_nil, List.cons_append, List.nil_append, List.replicate_zero, List.replicate_succ, List.length_cons, List.length_nil, List.getElem?_cons_zero, List.getElem?_cons_succ, List.set_cons_zero, List.set_cons_succ, List.getD_cons_zero, List.getD_cons_succ, Bool.and_true, Bool.true_and, Bool.not_false, Bool.not_true, Nat.sub_self, Nat.reduceSub, Nat.reduceAdd, Nat.zero_add, true_and, and_true, and_self, if_true, if_false, ite_true, ite_false, reduceCtorEq, false_implies, implies_true, forall_const, Bool.false_eq_true, Option.bind_some, Option.map_some, Option.bind_none, Option.map_none, runF_eq, okIo, datOf, lvsOf, argIo, isD, outO, isND, notND, vals2D, vals3D, eqDD, neDD, decide_true, decide_false, Bool.decide_eq_true, sz0, sz1, sz2, sz3, sz4, sz5, sz6, sz7, sz8, sz9, sz10, sz11, sz12, sz13, sz14, sz15, sz16, sz17, sz18, sz19, sz20, sz21, sz22, sz23, sz24, sz25, sz26, sz27, sz28, sz29, sz30, sz31, sz32, sz33, sz34, sz35, sz36, sz37, sz38, sz39, sz40, slice_t, all_t, all_l, any_l, all_lm, all_tm, any_lm, Function.comp_def, step_nx, step_ct, step_bk, step_rt, step_rl, step_ite, decide_eq_true_eq, Int.cast_ofNat_Int, Int.reduceLE, Int.reduceLT, Int.reduceAdd, Int.reduceSub, Int.reduceMul, Int.reduceNeg, Int.reduceEq, Int.reduceGT, Nat.reduceEqDiff, ne_eq, not_false_eq_true, Option.some.injEq, forall_eq', Nat.reduceLT, Bool.and_false, Bool.or_false, Bool.false_or, Bool.true_or, Bool.false_and, Bool.or_true, m_ok, m_nx, m_rt, m_cons, m_some, m_d, m_own, m_dct, m_int, m_bool, m_list, m_ret, s_rtl, s_rtr, s_rll, s_rlr, s_bkl, s_bkr, s_ctl, s_ctr, s_exl, s_exr, b_exl, b_exr, o_exl, o_exr, m_tt, m_ft, m_dt, m_df, m_dtx, m_dfx, m_xdt, m_xdf, ite_self, Bool.decide_eq_true, Bool.not_not, Bool.decide_eq_false, $a,*])
/-! ### the program's search for a first row -/
section
variable {α : Type} [DecidableEq α]
abbrev NSt (α : Type) : Type := (Bool × Int) × Sd × α
def encNS (en : α → D) (x : NSt α) : D := .tuple [encP x.1, encS x.2.1, en x.2.2]
abbrev NB (α : Type) : Type := α → Bool × Int → Bool → Sd → Sd → Int → List α
def succP (r : Rec) (w : Wl) (nb : NB α) (x : NSt α) : List (Bool × NSt α) :=
  (moreP w x.1).flatMap fun b => (nb x.2.2 x.1 b x.2.1 (stepS r x.2.1 b).1 (stepS r x.2.1 b).2).map fun a => (b, (nextP w x.1 b, (stepS r x.2.1 b).1, a))
def mayEnd (w : Wl) (p : Bool × Int) : Bool := !p.1 || decide (w.least ≤ p.2)
def accP (w : Wl) (ac : α → Bool) (x : NSt α) : Bool := mayEnd w x.1 && ac x.2.2
def s0P (w : Wl) (u0 : α) : NSt α := ((false, w.hush), .aw [], u0)
/-- what the program tells of notes of a kind -/
structure NProg (r : Rec) (h : Str) (en : α → D) (u0 : α) (nb : NB α) (ac : α → Bool) (Ok : α → Prop) : Prop where
  enc : Enc en 1
  few : ∃ c, Few Ok c 3100
  ok0 : Ok u0
  okN : ∀ a, Ok a → ∀ p b s t k, ∀ a' ∈ nb a p b s t k, Ok a'
  len : ∀ a p b s t k, (nb a p b s t k).length ≤ 2
  kind : (h = sJoined ∧ en u0 = encP (false, 0) ∧ (∀ a, ixD (en a) (.int 0) = some (.bool (ac a))) ∧ ∀ a p b s t k, s.Ok r → ∃ a', nb a p b s t k = [a'] ∧ F_joined_behind [.d (en a), .d (.bool b), .d (encS s), .d (encS t), .d (.int k)] = .ret (en a') none) ∨
    (h ≠ sJoined ∧ en u0 = encN unw ∧ (∀ a, F_is_harmed [.d (en a), .d (.str h)] = .ret (.bool (ac a)) none) ∧ ∀ a p b s t k (as : List PD.Arg) (ρ : DE), s.Ok r → retR none as ρ (F_notes_behind [.d (en a), .d (encP p), .d (.bool b), .d (encS s), .d (encS t), .d (.int k)]) = .ok (.list ((nb a p b s t k).map en)) ρ)
theorem encNS_R {en : α → D} (h : Enc en 1) : EncR (fun x : NSt α => [encP x.1, encS x.2.1, en x.2.2]) 2 := EncR.cons (encP_enc.up (by decide)) (EncR.cons encS_enc (EncR.one (h.up (by decide))))
theorem encNS_mk (en : α → D) (p : Bool × Int) (s : Sd) (n : α) : PyData.tuple [encP p, encS s, en n] = encNS en (p, s, n) := rfl
theorem gtup_NS (en : α → D) (gs : Gts) (x : NSt α) (ρ : DE) : G.tup 3 gs (encNS en x) ρ = gs [encP x.1, encS x.2.1, en x.2.2] ρ := rfl
abbrev env3 (en : α → D) (P F : Option LV) (h : Str) (r : Rec) (w : Wl) (Q : List (Run (NSt α))) (at' : Option LV) (x : NSt α) (row : List Bool) (a12 a13 a14 a15 a16 a17 : Option LV) : DE :=
  [P, some (.d (.str h)), some (.d (encR r)), some (.d (encW w)), F, some (.dct (rowsR (encNS en) encB Q)), some (.own (waitR (encNS en) Q)), at', some (.d (encP x.1)), some (.d (encS x.2.1)), some (.d (en x.2.2)), some (.d (encB row)), a12, a13, a14, a15, a16, a17]
theorem turn3 {en : α → D} (he : Enc en 1) {h : Str} {r : Rec} {w : Wl} (Q : List (Run (NSt α))) (hQ : Q.length < sizeLine) (x : NSt α) (row : List Bool) (hrow : row.length + 1 ≤ sizeLine) (b : Bool) (t : Sd) (a : α) (P F at' a14 a15 a17 : Option LV) :
    ∃ b17, B_first_by_3 (env3 en P F h r w Q at' x row (some (.d (.bool b))) (some (.d (encS t))) a14 a15 (some (.d (en a))) a17) =
      .nx (env3 en P F h r w (pushR Q ((nextP w x.1 b, t, a), row ++ [b])) at' x row (some (.d (.bool b))) (some (.d (encS t))) a14 a15 (some (.d (en a))) b17) := by
  have hi := (encNS_R he).tup.nk
  have ht := (encNS_R he).tupK (by decide)
  have e1 := inO_run (en := encNS en) (va := encB) hi ht
  have e2 := setKO_run (en := encNS en) (va := encB) hi ht hQ
  have hw : (waitR (encNS en) Q).length < sizeLine := by rw [waitR_len]; exact hQ
  unfold B_first_by_3
  simp_arith! only [F_next_place_eq, encNS_mk, e1, add_one row b hrow, e2, hw, m_rows]
  have f1 := fun i => push_put Q ((nextP w x.1 b, t, a), row ++ [b]) (i := i)
  have f2 := fun i => wait_push (en := encNS en) Q ((nextP w x.1 b, t, a), row ++ [b]) (i := i)
  dsimp only at f1 f2
  simp only [f1, f2]
  exact ⟨_, rfl⟩
end
section
variable {α : Type} [DecidableEq α]
theorem inner3 {en : α → D} (he : Enc en 1) {h : Str} {r : Rec} {w : Wl} (x : NSt α) (row : List Bool) (hrow : row.length + 1 ≤ sizeLine) (b : Bool) (t : Sd) (P F at' a14 a15 : Option LV) :
    ∀ (as : List α) (Q : List (Run (NSt α))), Q.length + as.length < sizeLine → ∀ a16 a17 : Option LV, ∃ b16 b17, forD (G.nm 16) B_first_by_3 (as.map en) (env3 en P F h r w Q at' x row (some (.d (.bool b))) (some (.d (encS t))) a14 a15 a16 a17) =
      .nx (env3 en P F h r w ((as.map fun a => ((nextP w x.1 b, t, a), row ++ [b])).foldl pushR Q) at' x row (some (.d (.bool b))) (some (.d (encS t))) a14 a15 b16 b17)
  | [], Q, _, a16, a17 => ⟨a16, a17, rfl⟩
  | a :: as, Q, hl, a16, a17 => by
    rw [List.length_cons] at hl
    obtain ⟨b17, e⟩ := turn3 he (h := h) (r := r) (w := w) Q (by omega) x row hrow b t a P F at' a14 a15 a17
    have hp := push_len Q ((nextP w x.1 b, t, a), row ++ [b])
    obtain ⟨c16, c17, e2⟩ := inner3 he x row hrow b t P F at' a14 a15 as (pushR Q ((nextP w x.1 b, t, a), row ++ [b])) (by omega) (some (.d (en a))) b17
    refine ⟨c16, c17, ?_⟩
    rw [List.map_cons, List.map_cons, List.foldl_cons, ← e2]
    exact forD_nx rfl e
def extP (r : Rec) (w : Wl) (nb : NB α) (x : NSt α) (row : List Bool) (b : Bool) : List (Run (NSt α)) :=
  (nb x.2.2 x.1 b x.2.1 (stepS r x.2.1 b).1 (stepS r x.2.1 b).2).map fun a => ((nextP w x.1 b, (stepS r x.2.1 b).1, a), row ++ [b])
theorem extR_P (r : Rec) (w : Wl) (nb : NB α) (x : NSt α) (row : List Bool) : extR (succP r w nb) (x, row) = (moreP w x.1).flatMap (extP r w nb x row) := by
  unfold extR succP extP
  rw [List.map_flatMap]
  refine congrArg (fun f => List.flatMap f _) (funext fun b => ?_)
  rw [List.map_map]
  rfl
theorem turn2 {en : α → D} {r : Rec} (hr : r.Ok) {h : Str} {u0 : α} {nb : NB α} {ac : α → Bool} {Ok : α → Prop} (N : NProg r h en u0 nb ac Ok) {w : Wl} (Q : List (Run (NSt α))) (hQ : Q.length + 2 < sizeLine) (x : NSt α) (hs : x.2.1.Ok r) (row : List Bool) (hrow : row.length + 1 ≤ sizeLine) (b : Bool) (P F at' a13 a14 a15 a16 a17 : Option LV) :
    ∃ b13 b14 b15 b16 b17, B_first_by_2 (env3 en P F h r w Q at' x row (some (.d (.bool b))) a13 a14 a15 a16 a17) =
      .nx (env3 en P F h r w ((extP r w nb x row b).foldl pushR Q) at' x row (some (.d (.bool b))) b13 b14 b15 b16 b17) := by
  have hl := N.len x.2.2 x.1 b x.2.1 (stepS r x.2.1 b).1 (stepS r x.2.1 b).2
  have il : ∀ l : List D, itemsD (.list l) = some l := fun _ => rfl
  rcases N.kind with ⟨hj, _, _, k⟩ | ⟨hj, _, _, k⟩
  · obtain ⟨a', e1, e2⟩ := k x.2.2 x.1 b x.2.1 (stepS r x.2.1 b).1 (stepS r x.2.1 b).2 hs
    obtain ⟨b16, b17, e3⟩ := inner3 N.enc (h := h) (r := r) (w := w) x row hrow b (stepS r x.2.1 b).1 P F at' (some (.d (.int (stepS r x.2.1 b).2))) (some (.d (.list [en a']))) [a'] Q (by rw [List.length_singleton]; omega) a16 a17
    unfold B_first_by_2
    simp_arith! only [F_step_eq r hr x.2.1 b (hs.short hr), t_joined, hj, e2, il]
    rw [List.map_cons, List.map_nil, hj] at e3
    rw [e3]
    unfold extP
    rw [e1]
    exact ⟨_, _, _, _, _, rfl⟩
  · obtain ⟨b16, b17, e3⟩ := inner3 N.enc (h := h) (r := r) (w := w) x row hrow b (stepS r x.2.1 b).1 P F at' (some (.d (.int (stepS r x.2.1 b).2))) (some (.d (.list ((nb x.2.2 x.1 b x.2.1 (stepS r x.2.1 b).1 (stepS r x.2.1 b).2).map en)))) (nb x.2.2 x.1 b x.2.1 (stepS r x.2.1 b).1 (stepS r x.2.1 b).2) Q (by omega) a16 a17
    have k' := fun as ρ => k x.2.2 x.1 b x.2.1 (stepS r x.2.1 b).1 (stepS r x.2.1 b).2 as ρ hs
    unfold B_first_by_2
    simp_arith! only [F_step_eq r hr x.2.1 b (hs.short hr), t_joined, hj, k', il]
    rw [e3]
    exact ⟨_, _, _, _, _, rfl⟩
theorem middle2 {en : α → D} {r : Rec} (hr : r.Ok) {h : Str} {u0 : α} {nb : NB α} {ac : α → Bool} {Ok : α → Prop} (N : NProg r h en u0 nb ac Ok) {w : Wl} (x : NSt α) (hs : x.2.1.Ok r) (row : List Bool) (hrow : row.length + 1 ≤ sizeLine) (P F at' : Option LV) :
    ∀ (bs : List Bool) (Q : List (Run (NSt α))), Q.length + 2 * bs.length + 2 < sizeLine → ∀ a12 a13 a14 a15 a16 a17 : Option LV, ∃ b12 b13 b14 b15 b16 b17, forD (G.nm 12) B_first_by_2 (bs.map .bool) (env3 en P F h r w Q at' x row a12 a13 a14 a15 a16 a17) =
      .nx (env3 en P F h r w ((bs.flatMap (extP r w nb x row)).foldl pushR Q) at' x row b12 b13 b14 b15 b16 b17)
  | [], Q, _, a12, a13, a14, a15, a16, a17 => ⟨a12, a13, a14, a15, a16, a17, rfl⟩
  | b :: bs, Q, hl, a12, a13, a14, a15, a16, a17 => by
    rw [List.length_cons] at hl
    obtain ⟨b13, b14, b15, b16, b17, e⟩ := turn2 hr N (w := w) Q (by omega) x hs row hrow b P F at' a13 a14 a15 a16 a17
    have hp := pushes_len (extP r w nb x row b) Q
    have hq : (extP r w nb x row b).length ≤ 2 := by unfold extP; rw [List.length_map]; exact N.len _ _ _ _ _ _
    obtain ⟨c12, c13, c14, c15, c16, c17, e2⟩ := middle2 hr N x hs row hrow P F at' bs ((extP r w nb x row b).foldl pushR Q) (by omega) (some (.d (.bool b))) b13 b14 b15 b16 b17
    refine ⟨c12, c13, c14, c15, c16, c17, ?_⟩
    rw [List.map_cons, List.flatMap_cons, List.foldl_append, ← e2]
    exact forD_nx rfl e
/-- states that come -/
structure NOk (r : Rec) (w : Wl) (Ok : α → Prop) (x : NSt α) : Prop where
  p : PlOk w x.1
  s : x.2.1.Ok r
  a : Ok x.2.2
theorem NOk.rn {en : α → D} {r : Rec} (hr : r.Ok) {h : Str} {u0 : α} {nb : NB α} {ac : α → Bool} {Ok : α → Prop} (N : NProg r h en u0 nb ac Ok) {w : Wl} (hw : w.Ok) {x : NSt α} {l : List Bool} (hx : Rn (succP r w nb) (s0P w u0) x l) : NOk r w Ok x := by
  induction hx with
  | start => exact ⟨begin_ok hw, heard_nil hr, N.ok0⟩
  | step _ hy ih =>
    unfold succP at hy
    obtain ⟨b, hb, hy⟩ := List.mem_flatMap.mp hy
    obtain ⟨a, ha, e⟩ := List.mem_map.mp hy
    cases e
    exact ⟨nextP_ok hw ih.p hb, stepS_ok hr ih.s _, N.okN _ ih.a _ _ _ _ _ _ ha⟩
def N_N : Nat := 26 * (128 * 3100)
theorem few_N {en : α → D} {r : Rec} (hr : r.Ok) {h : Str} {u0 : α} {nb : NB α} {ac : α → Bool} {Ok : α → Prop} (N : NProg r h en u0 nb ac Ok) {w : Wl} (hw : w.Ok) (Q : List (Run (NSt α))) (hn : (Q.map (·.1)).Nodup) (hr2 : ∀ x ∈ Q, Rn (succP r w nb) (s0P w u0) x.1 x.2) : Q.length ≤ N_N := by
  obtain ⟨c, hc⟩ := N.few
  have := ((few_P w).prod ((few_S hr).prod hc)).len hn fun x hx => by
    obtain ⟨z, hz, rfl⟩ := List.mem_map.mp hx
    have o := NOk.rn hr N hw (hr2 z hz)
    exact ⟨o.p, o.s, o.a⟩
  rw [List.length_map] at this
  exact this
theorem turn1 {en : α → D} {r : Rec} (hr : r.Ok) {h : Str} {u0 : α} {nb : NB α} {ac : α → Bool} {Ok : α → Prop} (N : NProg r h en u0 nb ac Ok) {w : Wl} (hw : w.Ok) (Q : List (Run (NSt α))) (i : Nat) (x : Run (NSt α)) (hx : Q[i]? = some x) (hn : (Q.map (·.1)).Nodup) (hrn : ∀ x ∈ Q, Rn (succP r w nb) (s0P w u0) x.1 x.2) (hwl : x.2.length ≤ N_N) (hQ : Q.length ≤ N_N) (P F a8 a9 a10 a11 a12 a13 a14 a15 a16 a17 : Option LV) :
    if accP w ac x.1 = true then ∃ ρ', B_first_by_1 [P, some (.d (.str h)), some (.d (encR r)), some (.d (encW w)), F, some (.dct (rowsR (encNS en) encB Q)), some (.own (waitR (encNS en) Q)), some (.d (.int (i : Nat))), a8, a9, a10, a11, a12, a13, a14, a15, a16, a17] = .rt (encB x.2) ρ'
    else ∃ b8 b9 b10 b11 b12 b13 b14 b15 b16 b17, B_first_by_1 [P, some (.d (.str h)), some (.d (encR r)), some (.d (encW w)), F, some (.dct (rowsR (encNS en) encB Q)), some (.own (waitR (encNS en) Q)), some (.d (.int (i : Nat))), a8, a9, a10, a11, a12, a13, a14, a15, a16, a17] =
      .nx [P, some (.d (.str h)), some (.d (encR r)), some (.d (encW w)), F, some (.dct (rowsR (encNS en) encB ((extR (succP r w nb) x).foldl pushR Q))), some (.own (waitR (encNS en) ((extR (succP r w nb) x).foldl pushR Q))), some (.d (.int ((i + 1 : Nat) : Nat))), b8, b9, b10, b11, b12, b13, b14, b15, b16, b17] := by
  have hi := (encNS_R N.enc).tup.nk
  have ht := (encNS_R N.enc).tupK (by decide)
  have e1 := waitR_at (en := encNS en) hx
  have e2 := subKO_run (en := encNS en) (va := encB) hi ht hn (List.mem_of_getElem? hx)
  have ox := NOk.rn hr N hw (hrn x (List.mem_of_getElem? hx))
  have hN : N_N = 10316800 := rfl
  obtain ⟨x, row⟩ := x
  dsimp only at e1 e2 ox hwl ⊢
  have il : ∀ l : List D, itemsD (.list l) = some l := fun _ => rfl
  have ml := moreP_len w x.1
  obtain ⟨b12, b13, b14, b15, b16, b17, e3⟩ := middle2 hr N (w := w) x ox.s row (by rw [sizeLine_eq]; omega) P F (some (.d (.int ((i : Nat) + 1)))) (moreP w x.1) Q (by rw [sizeLine_eq]; omega) a12 a13 a14 a15 a16 a17
  have main : B_first_by_1 [P, some (.d (.str h)), some (.d (encR r)), some (.d (encW w)), F, some (.dct (rowsR (encNS en) encB Q)), some (.own (waitR (encNS en) Q)), some (.d (.int (i : Nat))), a8, a9, a10, a11, a12, a13, a14, a15, a16, a17] =
      if accP w ac x = true then .rt (encB row) (env3 en P F h r w Q (some (.d (.int ((i : Nat) + 1)))) x row a12 a13 a14 a15 a16 a17) else .nx (env3 en P F h r w ((extR (succP r w nb) (x, row)).foldl pushR Q) (some (.d (.int ((i : Nat) + 1)))) x row b12 b13 b14 b15 b16 b17) := by
    rcases N.kind with ⟨hj, _, k, _⟩ | ⟨hj, _, k, _⟩
    · unfold B_first_by_1
      simp_arith! only [e1, gtup_NS, e2, F_may_end_eq, t_joined, hj, k, F_choices_eq, il]
      rw [hj] at e3
      rw [e3, extR_P]
      unfold accP mayEnd
      rfl
    · unfold B_first_by_1
      simp_arith! only [e1, gtup_NS, e2, F_may_end_eq, t_joined, hj, k, F_choices_eq, il]
      rw [e3, extR_P]
      unfold accP mayEnd
      rfl
  rw [main]
  by_cases hacc : accP w ac x = true
  · rw [if_pos hacc, if_pos hacc]; exact ⟨_, rfl⟩
  · rw [if_neg hacc, if_neg hacc]
    exact ⟨_, _, _, _, _, _, _, _, _, _, rfl⟩
theorem F_first_by_eq {en : α → D} {r : Rec} (hr : r.Ok) {h : Str} {u0 : α} {nb : NB α} {ac : α → Bool} {Ok : α → Prop} (N : NProg r h en u0 nb ac Ok) {w : Wl} (hw : w.Ok) :
    ∃ res, Bfs (succP r w nb) (s0P w u0) (accP w ac) res ∧ F_first_by [.d (encPl r w), .d (.str h)] = .ret (match res with | some l => encB l | none => .none) none := by
  have hi := (encNS_R N.enc).tup.nk
  have ht := (encNS_R N.enc).tupK (by decide)
  have first : (if h = sJoined then encP (false, 0) else encN unw) = en u0 := by
    rcases N.kind with ⟨hj, k, _⟩ | ⟨hj, k, _⟩
    · rw [if_pos hj, k]
    · rw [if_neg hj, k]
  obtain ⟨res, hb, hres⟩ := bfsW (p := W_first_by_1) (g := B_first_by_1) (va := encB) (succ := succP r w nb) (s0 := s0P w u0) (acc := accP w ac)
    (fun Q i ρ => ∃ a8 a9 a10 a11 a12 a13 a14 a15 a16 a17, ρ = [some (.d (encPl r w)), some (.d (.str h)), some (.d (encR r)), some (.d (encW w)), some (.d (encNS en (s0P w u0))), some (.dct (rowsR (encNS en) encB Q)), some (.own (waitR (encNS en) Q)), some (.d (.int (i : Nat))), a8, a9, a10, a11, a12, a13, a14, a15, a16, a17])
    N_N (few_N hr N hw) (fun Q i ρ ⟨a8, a9, a10, a11, a12, a13, a14, a15, a16, a17, e⟩ hl => by
      subst e
      unfold W_first_by_1
      simp_arith! only [waitR_len]) (fun Q i x ρ hx hn hrn hwl hQ ⟨a8, a9, a10, a11, a12, a13, a14, a15, a16, a17, e⟩ => by
      subst e
      have t := turn1 hr N hw Q i x hx hn hrn hwl hQ (some (.d (encPl r w))) (some (.d (encNS en (s0P w u0)))) a8 a9 a10 a11 a12 a13 a14 a15 a16 a17
      by_cases hacc : accP w ac x.1 = true
      · rw [if_pos hacc] at t ⊢; exact t
      · rw [if_neg hacc] at t ⊢
        obtain ⟨b8, b9, b10, b11, b12, b13, b14, b15, b16, b17, e⟩ := t
        exact ⟨_, e, _, _, _, _, _, _, _, _, _, _, rfl⟩)
    (ρ := [some (.d (encPl r w)), some (.d (.str h)), some (.d (encR r)), some (.d (encW w)), some (.d (encNS en (s0P w u0))), some (.dct (rowsR (encNS en) encB [(s0P w u0, [])])), some (.own (waitR (encNS en) [(s0P w u0, [])])), some (.d (.int (0 : Nat))), none, none, none, none, none, none, none, none, none, none])
    ⟨_, _, _, _, _, _, _, _, _, _, rfl⟩
  refine ⟨res, hb, ?_⟩
  have t2 : ∀ k v, putKD [] k v = [(k, v)] := fun _ _ => rfl
  have e0 : encNS en (s0P w u0) = .tuple [encP (false, w.hush), encS (.aw []), en u0] := rfl
  have t1 : tupK (.tuple [encP (false, w.hush), encS (.aw []), en u0]) = true := ht (s0P w u0)
  have e3 : ∀ (a : Bool) (i : Int), PyData.tuple [.bool a, .int i] = encP (a, i) := fun _ _ => rfl
  have e4 : rowsR (encNS en) encB [(s0P w u0, [])] = [(.tuple [encP (false, w.hush), encS (.aw []), en u0], .tuple [])] := rfl
  have e5 : waitR (encNS en) [(s0P w u0, [])] = [.tuple [encP (false, w.hush), encS (.aw []), en u0]] := rfl
  have e6 : ((0 : Nat) : Int) = 0 := rfl
  rw [e0, e4, e5, e6] at hres
  unfold F_first_by g_first_by
  simp_arith! only [gtup_Pl, F_begin_place_eq, cF, t_joined, cUnw, e3, first, t1, t2]
  rcases hres with ⟨rfl, ρ', Q, i, h1, _, _, _, _, _, _, _, _, _, _, rfl⟩ | ⟨l, ρ', rfl, h1⟩
  · rw [h1]
    simp_arith! only [true_and]
  · rw [h1]
    simp_arith! only [true_and]
end
end K8

set_option maxRecDepth 100000
set_option maxHeartbeats 4000000
set_option synthInstance.maxSize 8000
set_option synthInstance.maxHeartbeats 400000
namespace K8
open PySem PySem.Spec L2 PD
/-! ### the notes of the program, as searched -/
structure N7Ok (n : W7) : Prop where
  l0 : 0 ≤ n.2.1
  l7 : n.2.1 ≤ 7
  g0 : 0 ≤ n.2.2.1
  g7 : n.2.2.1 ≤ 7
  m0 : 0 ≤ n.2.2.2.2.2.1
  m2 : n.2.2.2.2.2.1 ≤ 2
theorem few_le {α : Type} {P : α → Prop} {c : α → Nat} {n m : Nat} (h : Few P c n) (e : n ≤ m) : Few P c m := ⟨fun a p => Nat.lt_of_lt_of_le (h.lt a p) e, h.inj⟩
theorem few_7 : ∃ c, Few N7Ok c 3100 := by
  have := (Few.bool.prod ((Few.int 8).prod ((Few.int 8).prod (Few.bool.prod (Few.bool.prod ((Few.int 3).prod Few.bool)))))).imp (Q := N7Ok) fun n h => ⟨trivial, ⟨h.l0, by have := h.l7; omega⟩, ⟨h.g0, by have := h.g7; omega⟩, trivial, trivial, ⟨h.m0, by have := h.m2; omega⟩, trivial⟩
  exact ⟨_, few_le this (by decide)⟩
theorem watchF_ok {n : W7} (h : N7Ok n) (b : Bool) (s t : Sd) (k : Int) : N7Ok (watchF n b s t k) := by
  obtain ⟨l0, l7, g0, g7, m0, m2⟩ := h
  have e : ∀ c : Bool, 0 ≤ b2i c ∧ b2i c ≤ 1 := fun c => by cases c <;> decide
  have e1 := e (!(n.2.2.2.2.2.2 && isRc s))
  unfold watchF
  generalize decide ((if (n.1 && b) = true then n.2.2.1 else min7 (n.2.2.1 + 1)) < k) = g
  refine ⟨?_, ?_, ?_, ?_, ?_, ?_⟩ <;> dsimp only <;> (try unfold min7) <;> (try unfold min2) <;> (repeat' split) <;> omega
theorem stN_ok : N7Ok stN := ⟨by decide, by decide, by decide, by decide, by decide, by decide⟩
theorem unw_ok : N7Ok unw := ⟨by decide, by decide, by decide, by decide, by decide, by decide⟩
theorem nprog_h (r : Rec) (h : Hm) : NProg r (hmS h) encN unw notesF (harmF h) N7Ok := by
  refine ⟨encN_enc, few_7, unw_ok, fun a ha p b s t k a' hm => ?_, fun a p b s t k => ?_, .inr ⟨fun e => by have := hm_joined h; rw [this] at e; exact e, rfl, fun a => F_is_harmed_eq a h, fun a p b s t k as ρ _ => F_notes_ret a p b s t k⟩⟩
  · unfold notesF at hm
    split at hm
    · rcases List.mem_cons.mp hm with e | hm
      · rw [e]; exact unw_ok
      · split at hm
        · rw [List.mem_singleton.mp hm]
          exact watchF_ok stN_ok b s t k
        · simp at hm
    · rw [List.mem_singleton.mp hm]
      exact watchF_ok ha b s t k
  · unfold notesF
    split
    · split <;> simp
    · simp
theorem startsP_soundsF (h : List Bool) : 0 ≤ soundsF h ∧ soundsF h ≤ 2 := by
  have := startsP_nn false h
  unfold soundsF min2
  split <;> omega
def nbJ : NB J2 := fun a _ b s t k => [joinedF a b s t k]
theorem nprog_j (r : Rec) (hr : r.Ok) : NProg r sJoined encP (false, 0) nbJ (fun a => a.1) (fun a => 0 ≤ a.2 ∧ a.2 ≤ 2) := by
  refine ⟨encP_enc, ?_, ⟨by decide, by decide⟩, fun a ha p b s t k a' hm => ?_, fun a p b s t k => by unfold nbJ; simp, .inl ⟨rfl, rfl, ixP0, fun a p b s t k hs => ⟨_, rfl, F_joined_eq hr hs a b t k⟩⟩⟩
  · have := (Few.bool.prod (Few.int 3)).imp (Q := fun a : J2 => 0 ≤ a.2 ∧ a.2 ≤ 2) fun a h => ⟨trivial, by omega⟩
    exact ⟨_, few_le this (by decide)⟩
  · unfold nbJ at hm
    rw [List.mem_singleton.mp hm]
    have e : ∀ m, 0 ≤ m → m ≤ 2 → 0 ≤ joinsF s b m ∧ joinsF s b m ≤ 2 := fun m h0 h2 => by
      have e2 : ∀ c : Bool, 0 ≤ b2i c ∧ b2i c ≤ 1 := fun c => by cases c <;> decide
      cases s with
      | aw h => exact startsP_soundsF _
      | rc c q => have := e2 (b && decide (0 < quietS (.rc c q))); unfold joinsF min2; dsimp only; split <;> omega
      | sl c => have := e2 (b && decide (0 < quietS (.sl c))); unfold joinsF min2; dsimp only; split <;> omega
    have := e a.2 ha.1 ha.2
    unfold joinedF
    dsimp only
    (repeat' split) <;> omega
end K8

set_option maxRecDepth 100000
set_option maxHeartbeats 4000000
set_option synthInstance.maxSize 8000
set_option synthInstance.maxHeartbeats 400000
namespace K8
open PySem PySem.Spec L2 PD
local macro_rules
  | `(tactic| simp_arith! only [$a,*]) => `(tactic| simp only [ret_ap, lift_some, lift_none, var_ap, varR_d, ownAt_ap, ownL_own, ownL_d, ownL_n, frzAt_ap, frzL_own, frzL_d, frz_nil, frz_cons, frz1_own, frz1_d, frz1_n, wipe_nil, wipe_cons, restore_nil, restore_cons, clean_nil, clean_cons, isOwnL_own, isOwnL_d, isOwnL_k, frz1_k, frzL_k, ownL_k, isOwnL_n, bind_ap, bindR_ok, bindR_ex, bindR_bad, ofM_ap, ofR_ok, ofR_ex, ofR_bad, seq_ap, seqR_nx, seqR_rt, seqR_rl, seqR_bk, seqR_ct, seqR_ex, seqR_bad, nil_ap, pass_ap, never_ap, brk_ap, cnt_ap, retN_ap, sret_ap, sretL_ap, drop_ap, site_ap, asg_ap, own_ap, par2_ap, par3_ap, asgT_ap, asgR_some, asgR_none, gnm_ap, gnil_ap, gcons_ap, gtup_ap, andV_ap, orV_ap, andT_ap, orT_ap, notT_ap, test_ap, op1_ap, op2_ap, chain_ap, mite_ap, ite_apR, ite_apS, argN_ap, argD_ap, argS_ap, slotR_some, tup_ap, lst_ap, known_ap, call_ap, callL_ap, listL_ap, seqOf_l, seqOf_t, items_ap, part_ap, slice_ap, catL_ap, frz_ap, borrow_ap, borrowR_ok, borrowT_ap, borrowTR_ok, subO_ap, app_ap, setIx_ap, retO_ap, for_ap, lc_ap, lcR_ok, fn_ap, fnL_ap, fnR_some, fnLR_some, retR_ret, retR_retL, retLR_retL, putR_some, putO_none, putO_s0, putO_s1, putO_s2, putO_s3, putO_s4, endR_rt, endR_rl, endR_nx, endR_bad, endR_ite, pop_ap, popR_snoc, dctAt_ap, dctL_k, dctL_o, dctL_d, dctL_n, inK_ap, subK_ap, slotKR_some, setK_ap, slotKF_some, setKR_some, parN_ap, parR_ok, setN_nil, setN_cons, nC_ap, nL_ap, nD_ap, dict1_ap, new_ap, repL_ap, addD_ii, addD_ss, addD_tt, subD_ii, mulD_ii, fdivD_ii, modD_ii, powD_ii, negD_i, ltD_ii, leD_ii, gtD_ii, geD_ii, ixD_l, ixD_t, catD_ll, itemsD_l, itemsD_t, lenD_l, lenD_t, lenD_s, absD_i, maxD_ii, minD_ii, intD_i, intD_b, tupleD_l, tupleD_t, notD_b, asB_b, asI_i, eqD_ii, eqD_ss, eqD_bb, eqD_si, eqD_is, eqD_nn, eqD_nb, eqD_ni, eqD_ns, eqD_bn, eqD_in, eqD_sn, tInt_none, tInt_bool, tInt_int, tInt_str, tInt_tuple, tInt_list, tInt_dict, tBool_none, tBool_bool, tBool_int, tBool_str, tBool_tuple, tBool_list, tBool_dict, tStr_none, tStr_bool, tStr_int, tStr_str, tStr_tuple, tStr_list, tStr_dict, tTuple_none, tTuple_bool, tTuple_int, tTuple_str, tTuple_tuple, tTuple_list, tTuple_dict, tList_none, tList_bool, tList_int, tList_str, tList_tuple, tList_list, tList_dict, tSeq_none, tSeq_bool, tSeq_int, tSeq_str, tSeq_tuple, tSeq_list, tSeq_dict, isNoneB_none, scalarD_none, isNoneB_bool, scalarD_bool, isNoneB_int, scalarD_int, isNoneB_str, scalarD_str, isNoneB_tuple, scalarD_tuple, isNoneB_list, scalarD_list, isNoneB_dict, scalarD_dict, ixT0, ixT1, ixT2, ixT3, ixT4, ixT5, ixT6, ixT7, ixT8, ixT9, ixL0, ixL1, ixL2, ixL3, ixL4, ixL5, ixL6, ixL7, ixL8, ixL9, aI0, aI1, aI2, aI3, aI4, aI5, aI6, aI7, aI8, aI9, ixN1_0, ixN2_0, ixN2_1, ixN3_0, ixN3_1, ixN3_2, ixN4_0, ixN4_1, ixN4_2, ixN4_3, ixN5_0, ixN5_1, ixN5_2, ixN5_3, ixN5_4, ixN6_0, ixN6_1, ixN6_2, ixN6_3, ixN6_4, ixN6_5, List.map_cons, List.map_nil, List.cons_append, List.nil_append, List.replicate_zero, List.replicate_succ, List.length_cons, List.length_nil, List.getElem?_cons_zero, List.getElem?_cons_succ, List.set_cons_zero, List.set_cons_succ, List.getD_cons_zero, List.getD_cons_succ, Bool.and_true, Bool.true_and, Bool.not_false, Bool.not_true, Nat.sub_self, Nat.reduceSub, Nat.reduceAdd, Nat.zero_add, true_and, and_true, and_self, if_true, if_false, ite_true, ite_false, reduceCtorEq, false_implies, implies_true, forall_const, Bool.false_eq_true, Option.bind_some, Option.map_some, Option.bind_none, Option.map_none, runF_eq, okIo, datOf, lvsOf, argIo, isD, outO, isND, notND, vals2D, vals3D, eqDD, neDD, decide_true, decide_false, Bool.decide_eq_true, sz0, sz1, sz2, sz3, sz4, sz5, sz6, sz7, sz8, sz9, sz10, sz11, sz12, sz13, sz14, sz15, sz16, sz17, sz18, sz19, sz20, sz21, sz22, sz23, sz24, sz25, sz26, sz27, sz28, sz29, sz30, sz31, sz32, sz33, sz34, sz35, sz36, sz37, sz38, sz39, sz40, slice_t, all_t, all_l, any_l, all_lm, all_tm, any_lm, Function.comp_def, step_nx, step_ct, step_bk, step_rt, step_rl, step_ite, decide_eq_true_eq, Int.cast_ofNat_Int, Int.reduceLE, Int.reduceLT, Int.reduceAdd, Int.reduceSub, Int.reduceMul, Int.reduceNeg, Int.reduceEq, Int.reduceGT, Nat.reduceEqDiff, ne_eq, not_false_eq_true, Option.some.injEq, forall_eq', Nat.reduceLT, Bool.and_false, Bool.or_false, Bool.false_or, Bool.true_or, Bool.false_and, Bool.or_true, m_ok, m_nx, m_rt, m_cons, m_some, m_d, m_own, m_dct, m_int, m_bool, m_list, m_ret, s_rtl, s_rtr, s_rll, s_rlr, s_bkl, s_bkr, s_ctl, s_ctr, s_exl, s_exr, b_exl, b_exr, o_exl, o_exr, m_tt, m_ft, m_dt, m_df, m_dtx, m_dfx, m_xdt, m_xdf, ite_self, Bool.decide_eq_true, Bool.not_not, Bool.decide_eq_false, $a,*])
/-! ### what is noted of a sound: the law -/
abbrev L6 : Type := Int × Int × Bool × Bool × Int × Bool
def encM (n : L6) : D := .tuple [.int n.1, .int n.2.1, .bool n.2.2.1, .bool n.2.2.2.1, .int n.2.2.2.2.1, .bool n.2.2.2.2.2]
theorem encM_R : EncR (fun n : L6 => [PyData.int n.1, .int n.2.1, .bool n.2.2.1, .bool n.2.2.2.1, .int n.2.2.2.2.1, .bool n.2.2.2.2.2]) 0 := EncR.cons Enc.int (EncR.cons Enc.int (EncR.cons Enc.bool (EncR.cons Enc.bool (EncR.cons Enc.int (EncR.one Enc.bool)))))
theorem encM_mk (a b : Int) (c d : Bool) (e : Int) (f : Bool) : PyData.tuple [.int a, .int b, .bool c, .bool d, .int e, .bool f] = encM (a, b, c, d, e, f) := rfl
theorem gtup_M (gs : Gts) (n : L6) (ρ : DE) : G.tup 6 gs (encM n) ρ = gs [.int n.1, .int n.2.1, .bool n.2.2.1, .bool n.2.2.2.1, .int n.2.2.2.2.1, .bool n.2.2.2.2.2] ρ := rfl
def notedF (n : L6) (s t : Sd) (b : Bool) (k : Int) : L6 :=
  let old := min7 (n.1 + 1)
  let c := decide (n.2.1 = 0) && b
  let gap := if c = true then n.2.1 else min7 (n.2.1 + 1)
  let la := if c = true then false else n.2.2.2.1
  let h := n.2.2.2.2.2 && isRc s
  let g := decide (gap < k)
  (old, gap, if g = true then n.2.2.1 || decide (old < k) else n.2.2.1, if g = true then true else la, if g = true then min2 (n.2.2.2.2.1 + 1 - b2i h) else n.2.2.2.2.1, (if g = true then true else h) && isRc t)
theorem F_noted_eq (n : L6) (s t : Sd) (b : Bool) (k : Int) : F_f_law_noted [.d (encM n), .d (encS s), .d (encS t), .d (.bool b), .d (.int k)] = .ret (encM (notedF n s t b k)) none := by
  unfold F_f_law_noted g_f_law_noted
  simp_arith! only [gtup_M, ixS0, t_R, modeS_rc, encM_mk]
  unfold notedF min7 min2 b2i
  obtain ⟨old, gap, fi, la, many, here⟩ := n
  dsimp only
  by_cases h0 : gap = 0 <;> cases b <;> cases isRc s <;> cases isRc t <;> simp only [h0, decide_true, decide_false, Bool.and_self, Bool.true_and, Bool.and_true, Bool.false_and, Bool.and_false, Bool.false_eq_true, if_true, if_false, Bool.not_true, Bool.not_false, decide_eq_true_eq, not_true, not_false_eq_true]
  all_goals (first | (by_cases hg : (0 : Int) < k <;> simp [hg]; done) | (by_cases hg : (if (0 : Int) + 1 < 7 then (0 : Int) + 1 else 7) < k <;> simp [hg]; done) | (by_cases hg : (if gap + 1 < 7 then gap + 1 else 7) < k <;> simp [hg]; done))
theorem dget_ap {ps : List (Key × M D)} {f g : M D} {ρ : DE} : M.dget ps f g ρ = bindR (M.pairs ps ρ) fun kvs => M.bind f fun x => M.bind g fun d => M.lift (if scalK x = true then some ((getK (mergeKD kvs) x).getD d) else none) := rfl
theorem pairs_nil {ρ : DE} : M.pairs [] ρ = .ok [] ρ := rfl
theorem pairs_cons {k : Key} {f : M D} {r : List (Key × M D)} {ρ : DE} : M.pairs ((k, f) :: r) ρ = bindR (f ρ) fun v => M.bind (M.pairs r) fun ps => M.ret ((keyD k, v) :: ps) := rfl
theorem nk_str (a : Str) : nk (.str a) = some (.text a) := rfl
theorem look3 {a b c : Str} (h1 : a ≠ b) (h2 : a ≠ c) (h3 : b ≠ c) (x y z d : D) (h : Str) : (if scalK (.str h) = true then some ((getK (mergeKD [(keyD (.inr a), x), (keyD (.inr b), y), (keyD (.inr c), z)]) (.str h)).getD d) else none) = some (if h = a then x else if h = b then y else if h = c then z else d) := by
  have e : mergeKD [(keyD (.inr a), x), (keyD (.inr b), y), (keyD (.inr c), z)] = [(PyData.str a, x), (.str b, y), (.str c, z)] := by
    unfold mergeKD putKD keyD
    simp only [List.foldl_cons, List.foldl_nil, getK, nk_str, Option.some.injEq, NestedKey.text.injEq, Option.isSome_none, Bool.false_eq_true, if_false, List.nil_append, h1, h2, h3, List.cons_append]
  rw [e]
  show some _ = some _
  congr 1
  show ((if nk (.str a) = nk (.str h) then some x else if nk (.str b) = nk (.str h) then some y else if nk (.str c) = nk (.str h) then some z else none).getD d) = _
  simp only [nk_str, Option.some.injEq, NestedKey.text.injEq, eq_comm (b := h)]
  by_cases e1 : h = a
  · rw [if_pos e1, if_pos e1]; rfl
  · rw [if_neg e1, if_neg e1]
    by_cases e2 : h = b
    · rw [if_pos e2, if_pos e2]; rfl
    · rw [if_neg e2, if_neg e2]
      by_cases e3 : h = c
      · rw [if_pos e3, if_pos e3]; rfl
      · rw [if_neg e3, if_neg e3]; rfl
theorem n_LoLa : sLost ≠ sLate := by decide +kernel
theorem n_LoEa : sLost ≠ sEarly := by decide +kernel
theorem n_LaEa : sLate ≠ sEarly := by decide +kernel
def badF (h : Hm) (n : L6) : Bool := match h with
  | .lost => decide (n.2.2.2.2.1 = 0)
  | .parted => decide (n.2.2.2.2.1 = 2)
  | .late => decide (0 < n.2.2.2.2.1) && !n.2.2.1
  | .early => decide (0 < n.2.2.2.2.1) && !n.2.2.2.1
theorem F_bad_eq (n : L6) (h : Hm) : F_f_law_bad [.d (encM n), .d (.str (hmS h))] = .ret (.bool (badF h n)) none := by
  unfold F_f_law_bad g_f_law_bad
  simp_arith! only [gtup_M, dget_ap, pairs_nil, pairs_cons, t_lost, t_late, t_early, look3 n_LoLa n_LoEa n_LaEa, hm_lost, hm_late, hm_early]
  obtain ⟨old, gap, fi, la, many, here⟩ := n
  unfold badF
  dsimp only
  cases h <;> simp
/-! stretches, by their numbers -/
theorem begs_idx (g : List Bool) : ∀ (h pre : List Bool), g = pre ++ h → (((List.range' pre.length h.length).filter fun i => begAt g (i : Nat) (g.getD i false)).length : Int) = startsP (pre.getLast?.getD false) h
  | [], pre, _ => rfl
  | b :: h, pre, e => by
    have ih := begs_idx g h (pre ++ [b]) (by rw [e, List.append_assoc]; rfl)
    rw [List.length_append, List.length_singleton] at ih
    have hb : g.getD pre.length false = b := by
      rw [e, List.getD_eq_getElem?_getD, List.getElem?_append_right (Nat.le_refl _), Nat.sub_self]
      rfl
    have hl : (pre ++ [b]).getLast?.getD false = b := by
      rw [List.getLast?_append, List.getLast?_singleton]
      rfl
    rw [hl] at ih
    have hbeg : begAt g (pre.length : Nat) b = (b && !(pre.getLast?.getD false)) := by
      unfold begAt
      congr 1
      cases hp : pre with
      | nil => simp
      | cons c pre' =>
        have hl : 0 < (((c :: pre').length : Nat) : Int) := by rw [List.length_cons]; omega
        rw [decide_eq_true hl, Bool.true_and]
        congr 1
        rw [e, hp]
        have e2 : ((((c :: pre').length : Nat) : Int) - 1).toNat = (c :: pre').length - 1 := by omega
        rw [e2, List.getD_eq_getElem?_getD, List.getElem?_append_left (by rw [List.length_cons]; omega), List.getLast?_eq_getElem?]
    rw [List.length_cons, List.range'_succ]
    show _ = b2i (b && !(pre.getLast?.getD false)) + startsP b h
    rw [← ih, ← hbeg]
    cases hc : begAt g (pre.length : Nat) b with
    | true =>
      rw [List.filter_cons_of_pos (by rw [hb, hc]), List.length_cons]
      unfold b2i
      simp only [if_true]
      omega
    | false =>
      rw [List.filter_cons_of_neg (by rw [hb, hc]; exact Bool.false_ne_true)]
      unfold b2i
      simp only [Bool.false_eq_true, if_false]
      omega
def begI (h : List Bool) (d : D) : Bool := match d with
  | .int i => begAt h i (h.getD i.toNat false)
  | _ => false
theorem ix_encB {h : List Bool} {i : Nat} (hi : i < h.length) : ixD (encB h) (.int (i : Nat)) = some (.bool (h.getD i false)) := by
  show atI (h.map PyData.bool) _ = _
  rw [atI_nat (by rw [List.getElem?_map, List.getElem?_eq_getElem hi]; rfl), List.getD_eq_getElem?_getD, List.getElem?_eq_getElem hi]
  rfl
theorem begI_len (h : List Bool) : ((((rangeD 0 h.length).filter (begI h)).length : Nat) : Int) = startsP false h := by
  have e := begs_idx h h [] rfl
  have e2 : (rangeD 0 h.length).filter (begI h) = ((List.range' 0 h.length).filter fun i => begAt h (i : Nat) (h.getD i false)).map (fun i => PyData.int ((i : Nat) : Int)) := by
    unfold rangeD
    rw [List.filter_map, List.range_eq_range']
    have e3 : (begI h ∘ fun i => PyData.int (0 + ((i : Nat) : Int))) = fun i : Nat => begAt h (i : Nat) (h.getD i false) := by
      funext i
      show begAt h (0 + ((i : Nat) : Int)) (h.getD (0 + ((i : Nat) : Int)).toNat false) = _
      rw [Int.zero_add, Int.toNat_natCast]
    rw [e3]
    refine List.map_congr_left fun i _ => ?_
    rw [Int.zero_add]
  rw [e2, List.length_map]
  exact e
theorem groups_t (h : List Bool) (i : Nat) (hih : i < h.length) : T_f_law_groups_1 [some (.d (encB h)), some (.d (.int (i : Nat)))] = .ok (begI h (.int (i : Nat))) [some (.d (encB h)), some (.d (.int (i : Nat)))] := by
  have e0 : begI h (.int ((i : Nat) : Int)) = begAt h (i : Nat) (h.getD i false) := by
    show begAt h _ (h.getD (((i : Nat) : Int)).toNat false) = _
    rw [Int.toNat_natCast]
  have e1 := ix_encB hih
  rw [e0]
  unfold T_f_law_groups_1
  by_cases h0 : i = 0
  · subst h0
    have e1 : ixD (encB h) (.int 0) = some (.bool (h.getD 0 false)) := e1
    have e2 : ((0 : Nat) : Int) = 0 := rfl
    rw [e2]
    simp_arith! only [e1]
    unfold begAt
    simp
  · have e4 : ixD (encB h) (.int ((i : Nat) - 1)) = some (.bool (h.getD (((i : Nat) : Int) - 1).toNat false)) := by
      have e5 : ((i : Nat) : Int) - 1 = (((i - 1 : Nat)) : Int) := by omega
      rw [e5, ix_encB (by omega), Int.toNat_natCast]
    have h1 : ¬ ((i : Nat) : Int) = 0 := by omega
    simp_arith! only [e1, h1, e4]
    unfold begAt
    rw [decide_eq_true (show 0 < ((i : Nat) : Int) by omega), Bool.true_and]
theorem range_len (h : List Bool) (i : Int) (hi : i = (h.length : Int)) (e1 : range1D [.int i] = some (rangeD 0 i.toNat)) : (M.callL range1D (M.argD (M.call lenD (M.argD (M.var 0) (M.argN))) (M.argN))) [some (.d (encB h)), none] = .ok (rangeD 0 i.toNat) [some (.d (encB h)), none] := by
  have e0 : lenD [encB h] = some (.int i) := by rw [len_encB, hi]
  simp_arith! only [e0, e1]
theorem groups_lc (h : List Bool) (hl : h.length ≤ 100) : M.lc (M.callL range1D (M.argD (M.call lenD (M.argD (M.var 0) (M.argN))) (M.argN))) [1] (G.nm 1) (T_f_law_groups_1) (E_f_law_groups_1) [some (.d (encB h)), none] = .ok ((rangeD 0 h.length).filter (begI h)) [some (.d (encB h)), none] := by
  have e2 := range_len h (h.length : Int) rfl (range1_ok (j := (h.length : Int)) (by omega) (by omega))
  rw [Int.toNat_natCast] at e2
  have e3 : lcLoop [1] (G.nm 1) T_f_law_groups_1 E_f_law_groups_1 (rangeD 0 h.length) [] [some (.d (encB h)), none] = .ok ((rangeD 0 h.length).filter (begI h)) [some (.d (encB h)), none] := by
    refine lcLoop_filter (begI h) _ (by rw [rangeD_length, sizeLine_eq]; omega) fun x hx => ?_
    obtain ⟨i, hi⟩ := List.getElem?_of_mem hx
    obtain ⟨rfl, hih⟩ := get_rangeD hi
    rw [Int.zero_add]
    refine ⟨[some (.d (encB h)), some (.d (.int (i : Nat)))], [some (.d (encB h)), some (.d (.int (i : Nat)))], rfl, groups_t h i hih, fun _ => ⟨[some (.d (encB h)), some (.d (.int (i : Nat)))], ?_, rfl⟩, fun _ => rfl⟩
    unfold E_f_law_groups_1
    simp_arith! only [true_and]
  rw [lc_ap, e2]
  show (if cleanD [some (.d (encB h)), none] [1] = true then lcR [some (.d (encB h)), none] [1] (lcLoop [1] (G.nm 1) T_f_law_groups_1 E_f_law_groups_1 (rangeD 0 h.length) [] [some (.d (encB h)), none]) else .bad) = _
  rw [e3]
  rfl
theorem lenlc (m : M (List D)) (ρ ρ' : DE) (l : List D) (h : m ρ = .ok l ρ') : S.ret (M.call lenD (M.argD (M.known m) (M.argN))) ρ = .rt (.int (l.length : Nat)) ρ' := by
  simp_arith! only [h]
theorem F_groups_eq (h : List Bool) (hl : h.length ≤ 100) : F_f_law_groups [.d (encB h)] = .ret (.int (startsP false h)) none := by
  have e : g_f_law_groups [some (.d (encB h)), none] = .rt (.int (startsP false h)) [some (.d (encB h)), none] := by
    unfold g_f_law_groups
    rw [lenlc _ _ _ _ (groups_lc h hl), begI_len]
  have e3 : ([LV.d (encB h)].map some ++ List.replicate (2 - 1) none : DE) = [some (.d (encB h)), none] := rfl
  unfold F_f_law_groups
  rw [runF_eq, if_pos ⟨rfl, rfl, fun k h => by cases h⟩, e3, e, endR_rt]
  generalize startsP false h = n
  rfl
/-! the notes behind a tick -/
def encO (o : Option L6) : D := match o with
  | none => .none
  | some n => encM n
def frM : L6 := (-1, 0, false, false, 0, false)
def lnbF : NB (Option L6) := fun o p b s t k => match o with
  | some n => [some (notedF n s t b k)]
  | none => none :: (if (b && !p.1) = true then [some (notedF frM s t b k)] else [])
def lnbJ : NB Int := fun n _ b s t k => if k = 0 ∨ n = 9 then [if n = 9 then 9 else 0] else
  let m := if isRc s = true then n + b2i (b && decide (0 < quietS s)) else startsP false (newS s b)
  [if 1 < m then 9 else if isRc t = true then m else 0]
theorem F_after_note_h {r : Rec} (h : Hm) (o : Option L6) (p : Bool × Int) {s : Sd} (t : Sd) (b : Bool) (k : Int) {as : List PD.Arg} {ρ : DE} : retR none as ρ (F_f_law_after_note [.d (.str (hmS h)), .d (encO o), .d (encP p), .d (encS s), .d (encS t), .d (.bool b), .d (.int k)]) = .ok (.list ((lnbF o p b s t k).map encO)) ρ := by
  unfold F_f_law_after_note g_f_law_after_note
  cases o with
  | some n =>
    unfold encO
    have e : isNoneB (encM n) = false := rfl
    simp_arith! only [t_joined, hm_joined, e, F_noted_eq]
    rfl
  | none =>
    have e0 : ∀ (d : D), repO [d] (.int 0) = some [] := fun d => by
      show (if -(2 ^ 63) ≤ (0 : Int) ∧ (0 : Int) < 2 ^ 63 ∧ [d].length * (0 : Int).toNat ≤ sizeLine then some (List.replicate (0 : Int).toNat [d]).flatten else none) = _
      rw [if_pos ⟨by decide, by decide, by rw [sizeLine_eq]; show 1 * 0 ≤ 16777216; decide⟩]
      rfl
    have e1 : ∀ (d : D), repO [d] (.int 1) = some [d] := fun d => by
      show (if -(2 ^ 63) ≤ (1 : Int) ∧ (1 : Int) < 2 ^ 63 ∧ [d].length * (1 : Int).toNat ≤ sizeLine then some (List.replicate (1 : Int).toNat [d]).flatten else none) = _
      rw [if_pos ⟨by decide, by decide, by rw [sizeLine_eq]; show 1 * 1 ≤ 16777216; decide⟩]
      rfl
    have e2 : PyData.tuple [.int (-1), .int 0, .bool false, .bool false, .int 0, .bool false] = encM frM := rfl
    have e3 : isNoneB PyData.none = true := rfl
    have e4 : encO none = .none := rfl
    cases b <;> cases hp : p.1 <;> simp_arith! only [e4, t_joined, hm_joined, e3, negD_i, e2, F_noted_eq, ixP0, hp, e0, e1] <;> (unfold lnbF; simp only [hp]; rfl)
theorem ln_B1 (s : Sd) (X Y : D) (b : Bool) (i3 : ixD (encS s) (.int 3) = some Y) (ea : addD Y (.tuple [.bool b]) = some X) (a0 a1 a2 a4 a6 a7 a8 : Option LV) : (M.argD (M.op2 addD (M.op2 ixD (M.var 3) (M.ret (PyData.int 3))) (M.tup (M.argD (M.var 5) (M.argN)))) (M.argN)) [a0, a1, a2, some (.d (encS s)), a4, some (.d (.bool b)), a6, a7, a8] = .ok [.dat X] [a0, a1, a2, some (.d (encS s)), a4, some (.d (.bool b)), a6, a7, a8] := by
  simp_arith! only [i3, ea]
theorem ln_B2 (s : Sd) (X : D) (b : Bool) (Z : Int) (FG : List LV → FR) (eg : FG [.d X] = .ret (.int Z) none) (a0 a1 a2 a4 a6 a7 a8 : Option LV) (m : M (List PD.Arg)) (hm : m [a0, a1, a2, some (.d (encS s)), a4, some (.d (.bool b)), a6, a7, a8] = .ok [.dat X] [a0, a1, a2, some (.d (encS s)), a4, some (.d (.bool b)), a6, a7, a8]) : (M.fn none FG m) [a0, a1, a2, some (.d (encS s)), a4, some (.d (.bool b)), a6, a7, a8] = .ok (.int Z) [a0, a1, a2, some (.d (encS s)), a4, some (.d (.bool b)), a6, a7, a8] := by
  simp_arith! only [hm, eg]
theorem newS_add' {r : Rec} (hr : r.Ok) {s : Sd} (hs : s.Ok r) (b : Bool) : addD (encB (heardL s)) (.tuple [.bool b]) = some (encB (newS s b)) := newS_add hr hs b
theorem ln_B {r : Rec} (hr : r.Ok) {s : Sd} (hs : s.Ok r) (b : Bool) (a0 a1 a2 a4 a6 a7 a8 : Option LV) : (M.fn none (F_f_law_groups) (M.argD (M.op2 addD (M.op2 ixD (M.var 3) (M.ret (PyData.int 3))) (M.tup (M.argD (M.var 5) (M.argN)))) (M.argN))) [a0, a1, a2, some (.d (encS s)), a4, some (.d (.bool b)), a6, a7, a8] = .ok (.int (startsP false (newS s b))) [a0, a1, a2, some (.d (encS s)), a4, some (.d (.bool b)), a6, a7, a8] :=
  ln_B2 s (encB (newS s b)) b (startsP false (newS s b)) F_f_law_groups (F_groups_eq (newS s b) (Nat.le_trans (newS_len hr hs b) (by decide))) a0 a1 a2 a4 a6 a7 a8 _ (ln_B1 s (encB (newS s b)) (encB (heardL s)) b (ixS3 s) (newS_add' hr hs b) a0 a1 a2 a4 a6 a7 a8)
theorem ln_A (s : Sd) (b : Bool) (n : Int) (a0 a2 a4 a6 a7 a8 : Option LV) : (M.op2 addD (M.var 1) (M.call intD (M.argD (M.andV (M.var 5) (M.op2 gtD (M.op2 ixD (M.var 3) (M.ret (PyData.int 2))) (M.ret (PyData.int 0)))) (M.argN)))) [a0, some (.d (.int n)), a2, some (.d (encS s)), a4, some (.d (.bool b)), a6, a7, a8] = .ok (.int (n + b2i (b && decide (0 < quietS s)))) [a0, some (.d (.int n)), a2, some (.d (encS s)), a4, some (.d (.bool b)), a6, a7, a8] := by
  simp_arith! only [ixS2]
  unfold b2i
  rfl
theorem F_after_note_j {r : Rec} (hr : r.Ok) (n : Int) (p : Bool × Int) {s : Sd} (hs : s.Ok r) (t : Sd) (b : Bool) (k : Int) {as : List PD.Arg} {ρ : DE} : retR none as ρ (F_f_law_after_note [.d (.str sJoined), .d (.int n), .d (encP p), .d (encS s), .d (encS t), .d (.bool b), .d (.int k)]) = .ok (.list ((lnbJ n p b s t k).map PyData.int)) ρ := by
  have kA := fun a0 a2 a4 a6 a7 a8 => ln_A s b n a0 a2 a4 a6 a7 a8
  have kB := fun a0 a1 a2 a4 a6 a7 a8 => ln_B hr hs b a0 a1 a2 a4 a6 a7 a8
  unfold F_f_law_after_note g_f_law_after_note
  generalize (M.fn none (F_f_law_groups) (M.argD (M.op2 addD (M.op2 ixD (M.var 3) (M.ret (PyData.int 3))) (M.tup (M.argD (M.var 5) (M.argN)))) (M.argN))) = MB at kB ⊢
  generalize (M.op2 addD (M.var 1) (M.call intD (M.argD (M.andV (M.var 5) (M.op2 gtD (M.op2 ixD (M.var 3) (M.ret (PyData.int 2))) (M.ret (PyData.int 0)))) (M.argN)))) = MA at kA ⊢
  generalize F_f_law_noted = FN
  by_cases hk : k = 0
  · by_cases hn : n = 9 <;> simp_arith! only [t_joined, hk, hn] <;> (unfold lnbJ; simp [hk, hn])
  · by_cases hn : n = 9
    · simp_arith! only [t_joined, hk, hn]
      unfold lnbJ
      simp [hk, hn]
    · unfold lnbJ
      simp only [hk, hn, or_self, if_false]
      generalize startsP false (newS s b) = Z at kB ⊢
      generalize n + b2i (b && decide (0 < quietS s)) = Y at kA ⊢
      simp_arith! only [t_joined, hk, hn, ixS0, t_R, modeS_rc, kA, kB]
end K8

set_option maxRecDepth 100000
set_option maxHeartbeats 4000000
set_option synthInstance.maxSize 8000
set_option synthInstance.maxHeartbeats 400000
namespace K8
open PySem PySem.Spec L2 PD
local macro_rules
  | `(tactic| simp_arith! only [$a,*]) => `(tactic| simp only [ret_ap, lift_some, lift_none, var_ap, varR_d, ownAt_ap, ownL_own, ownL_d, ownL_n, frzAt_ap, frzL_own, frzL_d, frz_nil, frz_cons, frz1_own, frz1_d, frz1_n, wipe_nil, wipe_cons, restore_nil, restore_cons, clean_nil, clean_cons, isOwnL_own, isOwnL_d, isOwnL_k, frz1_k, frzL_k, ownL_k, isOwnL_n, bind_ap, bindR_ok, bindR_ex, bindR_bad, ofM_ap, ofR_ok, ofR_ex, ofR_bad, seq_ap, seqR_nx, seqR_rt, seqR_rl, seqR_bk, seqR_ct, seqR_ex, seqR_bad, nil_ap, pass_ap, never_ap, brk_ap, cnt_ap, retN_ap, sret_ap, sretL_ap, drop_ap, site_ap, asg_ap, own_ap, par2_ap, par3_ap, asgT_ap, asgR_some, asgR_none, gnm_ap, gnil_ap, gcons_ap, gtup_ap, andV_ap, orV_ap, andT_ap, orT_ap, notT_ap, test_ap, op1_ap, op2_ap, chain_ap, mite_ap, ite_apR, ite_apS, argN_ap, argD_ap, argS_ap, slotR_some, tup_ap, lst_ap, known_ap, call_ap, callL_ap, listL_ap, seqOf_l, seqOf_t, items_ap, part_ap, slice_ap, catL_ap, frz_ap, borrow_ap, borrowR_ok, borrowT_ap, borrowTR_ok, subO_ap, app_ap, setIx_ap, retO_ap, for_ap, lc_ap, lcR_ok, fn_ap, fnL_ap, fnR_some, fnLR_some, retR_ret, retR_retL, retLR_retL, putR_some, putO_none, putO_s0, putO_s1, putO_s2, putO_s3, putO_s4, endR_rt, endR_rl, endR_nx, endR_bad, endR_ite, pop_ap, popR_snoc, dctAt_ap, dctL_k, dctL_o, dctL_d, dctL_n, inK_ap, subK_ap, slotKR_some, setK_ap, slotKF_some, setKR_some, parN_ap, parR_ok, setN_nil, setN_cons, nC_ap, nL_ap, nD_ap, dict1_ap, new_ap, repL_ap, addD_ii, addD_ss, addD_tt, subD_ii, mulD_ii, fdivD_ii, modD_ii, powD_ii, negD_i, ltD_ii, leD_ii, gtD_ii, geD_ii, ixD_l, ixD_t, catD_ll, itemsD_l, itemsD_t, lenD_l, lenD_t, lenD_s, absD_i, maxD_ii, minD_ii, intD_i, intD_b, tupleD_l, tupleD_t, notD_b, asB_b, asI_i, eqD_ii, eqD_ss, eqD_bb, eqD_si, eqD_is, eqD_nn, eqD_nb, eqD_ni, eqD_ns, eqD_bn, eqD_in, eqD_sn, tInt_none, tInt_bool, tInt_int, tInt_str, tInt_tuple, tInt_list, tInt_dict, tBool_none, tBool_bool, tBool_int, tBool_str, tBool_tuple, tBool_list, tBool_dict, tStr_none, tStr_bool, tStr_int, tStr_str, tStr_tuple, tStr_list, tStr_dict, tTuple_none, tTuple_bool, tTuple_int, tTuple_str, tTuple_tuple, tTuple_list, tTuple_dict, tList_none, tList_bool, tList_int, tList_str, tList_tuple, tList_list, tList_dict, tSeq_none, tSeq_bool, tSeq_int, tSeq_str, tSeq_tuple, tSeq_list, tSeq_dict, isNoneB_none, scalarD_none, isNoneB_bool, scalarD_bool, isNoneB_int, scalarD_int, isNoneB_str, scalarD_str, isNoneB_tuple, scalarD_tuple, isNoneB_list, scalarD_list, isNoneB_dict, scalarD_dict, ixT0, ixT1, ixT2, ixT3, ixT4, ixT5, ixT6, ixT7, ixT8, ixT9, ixL0, ixL1, ixL2, ixL3, ixL4, ixL5, ixL6, ixL7, ixL8, ixL9, aI0, aI1, aI2, aI3, aI4, aI5, aI6, aI7, aI8, aI9, ixN1_0, ixN2_0, ixN2_1, ixN3_0, ixN3_1, ixN3_2, ixN4_0, ixN4_1, ixN4_2, ixN4_3, ixN5_0, ixN5_1, ixN5_2, ixN5_3, ixN5_4, ixN6_0, ixN6_1, ixN6_2, ixN6_3, ixN6_4, ixN6_5, List.map_cons, List.map_nil, List.cons_append, List.nil_append, List.replicate_zero, List.replicate_succ, List.length_cons, List.length_nil, List.getElem?_cons_zero, List.getElem?_cons_succ, List.set_cons_zero, List.set_cons_succ, List.getD_cons_zero, List.getD_cons_succ, Bool.and_true, Bool.true_and, Bool.not_false, Bool.not_true, Nat.sub_self, Nat.reduceSub, Nat.reduceAdd, Nat.zero_add, true_and, and_true, and_self, if_true, if_false, ite_true, ite_false, reduceCtorEq, false_implies, implies_true, forall_const, Bool.false_eq_true, Option.bind_some, Option.map_some, Option.bind_none, Option.map_none, runF_eq, okIo, datOf, lvsOf, argIo, isD, outO, isND, notND, vals2D, vals3D, eqDD, neDD, decide_true, decide_false, Bool.decide_eq_true, sz0, sz1, sz2, sz3, sz4, sz5, sz6, sz7, sz8, sz9, sz10, sz11, sz12, sz13, sz14, sz15, sz16, sz17, sz18, sz19, sz20, sz21, sz22, sz23, sz24, sz25, sz26, sz27, sz28, sz29, sz30, sz31, sz32, sz33, sz34, sz35, sz36, sz37, sz38, sz39, sz40, slice_t, all_t, all_l, any_l, all_lm, all_tm, any_lm, Function.comp_def, step_nx, step_ct, step_bk, step_rt, step_rl, step_ite, decide_eq_true_eq, Int.cast_ofNat_Int, Int.reduceLE, Int.reduceLT, Int.reduceAdd, Int.reduceSub, Int.reduceMul, Int.reduceNeg, Int.reduceEq, Int.reduceGT, Nat.reduceEqDiff, ne_eq, not_false_eq_true, Option.some.injEq, forall_eq', Nat.reduceLT, Bool.and_false, Bool.or_false, Bool.false_or, Bool.true_or, Bool.false_and, Bool.or_true, m_ok, m_nx, m_rt, m_cons, m_some, m_d, m_own, m_dct, m_int, m_bool, m_list, m_ret, s_rtl, s_rtr, s_rll, s_rlr, s_bkl, s_bkr, s_ctl, s_ctr, s_exl, s_exr, b_exl, b_exr, o_exl, o_exr, m_tt, m_ft, m_dt, m_df, m_dtx, m_dfx, m_xdt, m_xdf, ite_self, Bool.decide_eq_true, Bool.not_not, Bool.decide_eq_false, $a,*])
/-! ### the law's search for a first row -/
section
variable {α : Type} [DecidableEq α]
def succL (r : Rec) (w : Wl) (nb : NB α) (x : NSt α) : List (Bool × NSt α) :=
  (moreP w x.1).flatMap fun b => (nb x.2.2 x.1 b x.2.1 (stepS r x.2.1 b).1 (stepS r x.2.1 b).2).map fun a => (b, (onP x.1 b, (stepS r x.2.1 b).1, a))
def accL (w : Wl) (ac : α → Bool) (x : NSt α) : Bool := (decide (w.least ≤ x.1.2) || !x.1.1) && ac x.2.2
def s0L (w : Wl) (u0 : α) : NSt α := ((false, 4), .aw [], u0)
structure LProg (r : Rec) (h : Str) (en : α → D) (u0 : α) (nb : NB α) (ac : α → Bool) (Ok : α → Prop) : Prop where
  enc : Enc en 1
  few : ∃ c, Few Ok c 3100
  ok0 : Ok u0
  okN : ∀ a, Ok a → ∀ p b s t k, ∀ a' ∈ nb a p b s t k, Ok a'
  len : ∀ a p b s t k, (nb a p b s t k).length ≤ 2
  first : (if h = sJoined then PyData.int 0 else .none) = en u0
  kind : (h = sJoined ∧ ∀ a, eqD (en a) (.int 9) = some (ac a)) ∨ (h ≠ sJoined ∧ ∀ a, eqD (en a) (.int 9) = some false ∧ ((isNoneB (en a) = true ∧ ac a = false) ∨ (isNoneB (en a) = false ∧ F_f_law_bad [.d (en a), .d (.str h)] = .ret (.bool (ac a)) none)))
  notes : ∀ a p b s t k (as : List PD.Arg) (ρ : DE), s.Ok r → retR none as ρ (F_f_law_after_note [.d (.str h), .d (en a), .d (encP p), .d (encS s), .d (encS t), .d (.bool b), .d (.int k)]) = .ok (.list ((nb a p b s t k).map en)) ρ
abbrev envL3 (en : α → D) (P F : Option LV) (h : Str) (r : Rec) (w : Wl) (Q : List (Run (NSt α))) (at' : Option LV) (x : NSt α) (row : List Bool) (a12 a13 a14 a15 a16 : Option LV) : DE :=
  [P, some (.d (.str h)), some (.d (encR r)), some (.d (encW w)), F, some (.dct (rowsR (encNS en) encB Q)), some (.own (waitR (encNS en) Q)), at', some (.d (encP x.1)), some (.d (encS x.2.1)), some (.d (en x.2.2)), some (.d (encB row)), a12, a13, a14, a15, a16]
theorem lturn3 {en : α → D} (he : Enc en 1) {h : Str} {r : Rec} {w : Wl} (Q : List (Run (NSt α))) (hQ : Q.length < sizeLine) (x : NSt α) (row : List Bool) (hrow : row.length + 1 ≤ sizeLine) (b : Bool) (t : Sd) (a : α) (P F at' a14 a16 : Option LV) :
    ∃ b16, B_f_law_first_3 (envL3 en P F h r w Q at' x row (some (.d (.bool b))) (some (.d (encS t))) a14 (some (.d (en a))) a16) =
      .nx (envL3 en P F h r w (pushR Q ((onP x.1 b, t, a), row ++ [b])) at' x row (some (.d (.bool b))) (some (.d (encS t))) a14 (some (.d (en a))) b16) := by
  have hi := (encNS_R he).tup.nk
  have ht := (encNS_R he).tupK (by decide)
  have e1 := inO_run (en := encNS en) (va := encB) hi ht
  have e2 := setKO_run (en := encNS en) (va := encB) hi ht hQ
  have hw : (waitR (encNS en) Q).length < sizeLine := by rw [waitR_len]; exact hQ
  unfold B_f_law_first_3
  simp_arith! only [F_on_eq, encNS_mk, e1, add_one row b hrow, e2, hw, m_rows]
  have f1 := fun i => push_put Q ((onP x.1 b, t, a), row ++ [b]) (i := i)
  have f2 := fun i => wait_push (en := encNS en) Q ((onP x.1 b, t, a), row ++ [b]) (i := i)
  dsimp only at f1 f2
  simp only [f1, f2]
  exact ⟨_, rfl⟩
theorem linner3 {en : α → D} (he : Enc en 1) {h : Str} {r : Rec} {w : Wl} (x : NSt α) (row : List Bool) (hrow : row.length + 1 ≤ sizeLine) (b : Bool) (t : Sd) (P F at' a14 : Option LV) :
    ∀ (as : List α) (Q : List (Run (NSt α))), Q.length + as.length < sizeLine → ∀ a15 a16 : Option LV, ∃ b15 b16, forD (G.nm 15) B_f_law_first_3 (as.map en) (envL3 en P F h r w Q at' x row (some (.d (.bool b))) (some (.d (encS t))) a14 a15 a16) =
      .nx (envL3 en P F h r w ((as.map fun a => ((onP x.1 b, t, a), row ++ [b])).foldl pushR Q) at' x row (some (.d (.bool b))) (some (.d (encS t))) a14 b15 b16)
  | [], Q, _, a15, a16 => ⟨a15, a16, rfl⟩
  | a :: as, Q, hl, a15, a16 => by
    rw [List.length_cons] at hl
    obtain ⟨b16, e⟩ := lturn3 he (h := h) (r := r) (w := w) Q (by omega) x row hrow b t a P F at' a14 a16
    have hp := push_len Q ((onP x.1 b, t, a), row ++ [b])
    obtain ⟨c15, c16, e2⟩ := linner3 he x row hrow b t P F at' a14 as (pushR Q ((onP x.1 b, t, a), row ++ [b])) (by omega) (some (.d (en a))) b16
    refine ⟨c15, c16, ?_⟩
    rw [List.map_cons, List.map_cons, List.foldl_cons, ← e2]
    exact forD_nx rfl e
def extL (r : Rec) (w : Wl) (nb : NB α) (x : NSt α) (row : List Bool) (b : Bool) : List (Run (NSt α)) :=
  (nb x.2.2 x.1 b x.2.1 (stepS r x.2.1 b).1 (stepS r x.2.1 b).2).map fun a => ((onP x.1 b, (stepS r x.2.1 b).1, a), row ++ [b])
theorem extR_L (r : Rec) (w : Wl) (nb : NB α) (x : NSt α) (row : List Bool) : extR (succL r w nb) (x, row) = (moreP w x.1).flatMap (extL r w nb x row) := by
  unfold extR succL extL
  rw [List.map_flatMap]
  refine congrArg (fun f => List.flatMap f _) (funext fun b => ?_)
  rw [List.map_map]
  rfl
theorem lturn2 {en : α → D} {r : Rec} (hr : r.Ok) {h : Str} {u0 : α} {nb : NB α} {ac : α → Bool} {Ok : α → Prop} (N : LProg r h en u0 nb ac Ok) {w : Wl} (Q : List (Run (NSt α))) (hQ : Q.length + 2 < sizeLine) (x : NSt α) (hs : x.2.1.Ok r) (row : List Bool) (hrow : row.length + 1 ≤ sizeLine) (b : Bool) (P F at' a13 a14 a15 a16 : Option LV) :
    ∃ b13 b14 b15 b16, B_f_law_first_2 (envL3 en P F h r w Q at' x row (some (.d (.bool b))) a13 a14 a15 a16) =
      .nx (envL3 en P F h r w ((extL r w nb x row b).foldl pushR Q) at' x row (some (.d (.bool b))) b13 b14 b15 b16) := by
  have hl := N.len x.2.2 x.1 b x.2.1 (stepS r x.2.1 b).1 (stepS r x.2.1 b).2
  have il : ∀ l : List D, itemsD (.list l) = some l := fun _ => rfl
  obtain ⟨b15, b16, e3⟩ := linner3 N.enc (h := h) (r := r) (w := w) x row hrow b (stepS r x.2.1 b).1 P F at' (some (.d (.int (stepS r x.2.1 b).2))) (nb x.2.2 x.1 b x.2.1 (stepS r x.2.1 b).1 (stepS r x.2.1 b).2) Q (by omega) a15 a16
  have k' := fun as ρ => N.notes x.2.2 x.1 b x.2.1 (stepS r x.2.1 b).1 (stepS r x.2.1 b).2 as ρ hs
  unfold B_f_law_first_2
  simp_arith! only [F_tick_eq hr hs, k', il]
  rw [e3]
  exact ⟨_, _, _, _, rfl⟩
theorem lmiddle2 {en : α → D} {r : Rec} (hr : r.Ok) {h : Str} {u0 : α} {nb : NB α} {ac : α → Bool} {Ok : α → Prop} (N : LProg r h en u0 nb ac Ok) {w : Wl} (x : NSt α) (hs : x.2.1.Ok r) (row : List Bool) (hrow : row.length + 1 ≤ sizeLine) (P F at' : Option LV) :
    ∀ (bs : List Bool) (Q : List (Run (NSt α))), Q.length + 2 * bs.length + 2 < sizeLine → ∀ a12 a13 a14 a15 a16 : Option LV, ∃ b12 b13 b14 b15 b16, forD (G.nm 12) B_f_law_first_2 (bs.map .bool) (envL3 en P F h r w Q at' x row a12 a13 a14 a15 a16) =
      .nx (envL3 en P F h r w ((bs.flatMap (extL r w nb x row)).foldl pushR Q) at' x row b12 b13 b14 b15 b16)
  | [], Q, _, a12, a13, a14, a15, a16 => ⟨a12, a13, a14, a15, a16, rfl⟩
  | b :: bs, Q, hl, a12, a13, a14, a15, a16 => by
    rw [List.length_cons] at hl
    obtain ⟨b13, b14, b15, b16, e⟩ := lturn2 hr N (w := w) Q (by omega) x hs row hrow b P F at' a13 a14 a15 a16
    have hp := pushes_len (extL r w nb x row b) Q
    have hq : (extL r w nb x row b).length ≤ 2 := by unfold extL; rw [List.length_map]; exact N.len _ _ _ _ _ _
    obtain ⟨c12, c13, c14, c15, c16, e2⟩ := lmiddle2 hr N x hs row hrow P F at' bs ((extL r w nb x row b).foldl pushR Q) (by omega) (some (.d (.bool b))) b13 b14 b15 b16
    refine ⟨c12, c13, c14, c15, c16, ?_⟩
    rw [List.map_cons, List.flatMap_cons, List.foldl_append, ← e2]
    exact forD_nx rfl e
/-- states that come -/
structure LNOk (r : Rec) (w : Wl) (Ok : α → Prop) (x : NSt α) : Prop where
  p : PlOk w x.1
  s : x.2.1.Ok r
  a : Ok x.2.2
theorem LNOk.rn {en : α → D} {r : Rec} (hr : r.Ok) {h : Str} {u0 : α} {nb : NB α} {ac : α → Bool} {Ok : α → Prop} (N : LProg r h en u0 nb ac Ok) {w : Wl} (hw : w.Ok) {x : NSt α} {l : List Bool} (hx : Rn (succL r w nb) (s0L w u0) x l) : LNOk r w Ok x := by
  induction hx with
  | start => exact ⟨⟨(by decide : (0 : Int) ≤ 4), (by decide : (4 : Int) ≤ 12), fun e => by cases e⟩, heard_nil hr, N.ok0⟩
  | step _ hy ih =>
    unfold succL at hy
    obtain ⟨b, hb, hy⟩ := List.mem_flatMap.mp hy
    obtain ⟨a, ha, e⟩ := List.mem_map.mp hy
    cases e
    exact ⟨onP_ok hw ih.p hb, stepS_ok hr ih.s _, N.okN _ ih.a _ _ _ _ _ _ ha⟩
def N_NL : Nat := 26 * (128 * 3100)
theorem few_NL {en : α → D} {r : Rec} (hr : r.Ok) {h : Str} {u0 : α} {nb : NB α} {ac : α → Bool} {Ok : α → Prop} (N : LProg r h en u0 nb ac Ok) {w : Wl} (hw : w.Ok) (Q : List (Run (NSt α))) (hn : (Q.map (·.1)).Nodup) (hr2 : ∀ x ∈ Q, Rn (succL r w nb) (s0L w u0) x.1 x.2) : Q.length ≤ N_NL := by
  obtain ⟨c, hc⟩ := N.few
  have := ((few_P w).prod ((few_S hr).prod hc)).len hn fun x hx => by
    obtain ⟨z, hz, rfl⟩ := List.mem_map.mp hx
    have o := LNOk.rn hr N hw (hr2 z hz)
    exact ⟨o.p, o.s, o.a⟩
  rw [List.length_map] at this
  exact this
theorem lturn1 {en : α → D} {r : Rec} (hr : r.Ok) {h : Str} {u0 : α} {nb : NB α} {ac : α → Bool} {Ok : α → Prop} (N : LProg r h en u0 nb ac Ok) {w : Wl} (hw : w.Ok) (Q : List (Run (NSt α))) (i : Nat) (x : Run (NSt α)) (hx : Q[i]? = some x) (hn : (Q.map (·.1)).Nodup) (hrn : ∀ x ∈ Q, Rn (succL r w nb) (s0L w u0) x.1 x.2) (hwl : x.2.length ≤ N_NL) (hQ : Q.length ≤ N_NL) (P F a8 a9 a10 a11 a12 a13 a14 a15 a16 : Option LV) :
    if accL w ac x.1 = true then ∃ ρ', B_f_law_first_1 [P, some (.d (.str h)), some (.d (encR r)), some (.d (encW w)), F, some (.dct (rowsR (encNS en) encB Q)), some (.own (waitR (encNS en) Q)), some (.d (.int (i : Nat))), a8, a9, a10, a11, a12, a13, a14, a15, a16] = .rt (encB x.2) ρ'
    else ∃ b8 b9 b10 b11 b12 b13 b14 b15 b16, B_f_law_first_1 [P, some (.d (.str h)), some (.d (encR r)), some (.d (encW w)), F, some (.dct (rowsR (encNS en) encB Q)), some (.own (waitR (encNS en) Q)), some (.d (.int (i : Nat))), a8, a9, a10, a11, a12, a13, a14, a15, a16] =
      .nx [P, some (.d (.str h)), some (.d (encR r)), some (.d (encW w)), F, some (.dct (rowsR (encNS en) encB ((extR (succL r w nb) x).foldl pushR Q))), some (.own (waitR (encNS en) ((extR (succL r w nb) x).foldl pushR Q))), some (.d (.int ((i + 1 : Nat) : Nat))), b8, b9, b10, b11, b12, b13, b14, b15, b16] := by
  have hi := (encNS_R N.enc).tup.nk
  have ht := (encNS_R N.enc).tupK (by decide)
  have e1 := waitR_at (en := encNS en) hx
  have e2 := subKO_run (en := encNS en) (va := encB) hi ht hn (List.mem_of_getElem? hx)
  have ox := LNOk.rn hr N hw (hrn x (List.mem_of_getElem? hx))
  have hN : N_NL = 10316800 := rfl
  obtain ⟨x, row⟩ := x
  dsimp only at e1 e2 ox hwl ⊢
  have il : ∀ l : List D, itemsD (.list l) = some l := fun _ => rfl
  have ml := moreP_len w x.1
  obtain ⟨b12, b13, b14, b15, b16, e3⟩ := lmiddle2 hr N (w := w) x ox.s row (by rw [sizeLine_eq]; omega) P F (some (.d (.int ((i : Nat) + 1)))) (moreP w x.1) Q (by rw [sizeLine_eq]; omega) a12 a13 a14 a15 a16
  have main : B_f_law_first_1 [P, some (.d (.str h)), some (.d (encR r)), some (.d (encW w)), F, some (.dct (rowsR (encNS en) encB Q)), some (.own (waitR (encNS en) Q)), some (.d (.int (i : Nat))), a8, a9, a10, a11, a12, a13, a14, a15, a16] =
      if accL w ac x = true then .rt (encB row) (envL3 en P F h r w Q (some (.d (.int ((i : Nat) + 1)))) x row a12 a13 a14 a15 a16) else .nx (envL3 en P F h r w ((extR (succL r w nb) (x, row)).foldl pushR Q) (some (.d (.int ((i : Nat) + 1)))) x row b12 b13 b14 b15 b16) := by
    have s_nest : ∀ (A B : Prop) [Decidable A] [Decidable B] (d : D) (ρ ρ1 ρ2 : DE) (k : MS), seqR (if A then (if B then Fl.rt d ρ else Fl.nx ρ1) else Fl.nx ρ2) k = if A then (if B then Fl.rt d ρ else k ρ1) else k ρ2 := fun A B _ _ d ρ ρ1 ρ2 k => by
      by_cases hA : A <;> by_cases hB : B <;> simp only [hA, hB, if_true, if_false] <;> rfl
    rcases N.kind with ⟨hj, k⟩ | ⟨hj, k⟩
    · unfold B_f_law_first_1
      simp_arith! only [e1, gtup_NS, e2, ixP0, ixP1, ixW0, t_joined, hj, k, more_ret, il, s_nest]
      rw [hj] at e3
      rw [e3, extR_L]
      unfold accL
      cases (decide (w.least ≤ x.1.2) || !x.1.1) <;> cases ac x.2.2 <;> rfl
    · obtain ⟨k1, k2⟩ := k x.2.2
      rcases k2 with ⟨k2, k3⟩ | ⟨k2, k3⟩
      · unfold B_f_law_first_1
        simp_arith! only [e1, gtup_NS, e2, ixP0, ixP1, ixW0, t_joined, hj, k1, k2, more_ret, il, s_nest]
        rw [e3, extR_L]
        unfold accL
        rw [k3]
        cases (decide (w.least ≤ x.1.2) || !x.1.1) <;> rfl
      · unfold B_f_law_first_1
        simp_arith! only [e1, gtup_NS, e2, ixP0, ixP1, ixW0, t_joined, hj, k1, k2, k3, more_ret, il, s_nest]
        rw [e3, extR_L]
        unfold accL
        cases (decide (w.least ≤ x.1.2) || !x.1.1) <;> cases ac x.2.2 <;> rfl
  rw [main]
  by_cases hacc : accL w ac x = true
  · rw [if_pos hacc, if_pos hacc]; exact ⟨_, rfl⟩
  · rw [if_neg hacc, if_neg hacc]
    exact ⟨_, _, _, _, _, _, _, _, _, rfl⟩
theorem F_f_law_first_eq {en : α → D} {r : Rec} (hr : r.Ok) {h : Str} {u0 : α} {nb : NB α} {ac : α → Bool} {Ok : α → Prop} (N : LProg r h en u0 nb ac Ok) {w : Wl} (hw : w.Ok) :
    ∃ res, Bfs (succL r w nb) (s0L w u0) (accL w ac) res ∧ F_f_law_first [.d (encPl r w), .d (.str h)] = .ret (match res with | some l => encB l | none => .none) none := by
  have hi := (encNS_R N.enc).tup.nk
  have ht := (encNS_R N.enc).tupK (by decide)
  have first := N.first
  obtain ⟨res, hb, hres⟩ := bfsW (p := W_f_law_first_1) (g := B_f_law_first_1) (va := encB) (succ := succL r w nb) (s0 := s0L w u0) (acc := accL w ac)
    (fun Q i ρ => ∃ a8 a9 a10 a11 a12 a13 a14 a15 a16, ρ = [some (.d (encPl r w)), some (.d (.str h)), some (.d (encR r)), some (.d (encW w)), some (.d (encNS en (s0L w u0))), some (.dct (rowsR (encNS en) encB Q)), some (.own (waitR (encNS en) Q)), some (.d (.int (i : Nat))), a8, a9, a10, a11, a12, a13, a14, a15, a16])
    N_NL (few_NL hr N hw) (fun Q i ρ ⟨a8, a9, a10, a11, a12, a13, a14, a15, a16, e⟩ hl => by
      subst e
      unfold W_f_law_first_1
      simp_arith! only [waitR_len]) (fun Q i x ρ hx hn hrn hwl hQ ⟨a8, a9, a10, a11, a12, a13, a14, a15, a16, e⟩ => by
      subst e
      have t := lturn1 hr N hw Q i x hx hn hrn hwl hQ (some (.d (encPl r w))) (some (.d (encNS en (s0L w u0)))) a8 a9 a10 a11 a12 a13 a14 a15 a16
      by_cases hacc : accL w ac x.1 = true
      · rw [if_pos hacc] at t ⊢; exact t
      · rw [if_neg hacc] at t ⊢
        obtain ⟨b8, b9, b10, b11, b12, b13, b14, b15, b16, e⟩ := t
        exact ⟨_, e, _, _, _, _, _, _, _, _, _, rfl⟩)
    (ρ := [some (.d (encPl r w)), some (.d (.str h)), some (.d (encR r)), some (.d (encW w)), some (.d (encNS en (s0L w u0))), some (.dct (rowsR (encNS en) encB [(s0L w u0, [])])), some (.own (waitR (encNS en) [(s0L w u0, [])])), some (.d (.int (0 : Nat))), none, none, none, none, none, none, none, none, none])
    ⟨_, _, _, _, _, _, _, _, _, rfl⟩
  refine ⟨res, hb, ?_⟩
  have t2 : ∀ k v, putKD [] k v = [(k, v)] := fun _ _ => rfl
  have e0 : encNS en (s0L w u0) = .tuple [encP (false, 4), encS (.aw []), en u0] := rfl
  have e7 : encS (.aw []) = .tuple [.str sAw, .int 0, .int 0, .tuple []] := rfl
  have t1 : tupK (.tuple [encP (false, 4), encS (.aw []), en u0]) = true := ht (s0L w u0)
  have e3 : ∀ (a : Bool) (i : Int), PyData.tuple [.bool a, .int i] = encP (a, i) := fun _ _ => rfl
  have e4 : rowsR (encNS en) encB [(s0L w u0, [])] = [(.tuple [encP (false, 4), encS (.aw []), en u0], .tuple [])] := rfl
  have e5 : waitR (encNS en) [(s0L w u0, [])] = [.tuple [encP (false, 4), encS (.aw []), en u0]] := rfl
  have e6 : ((0 : Nat) : Int) = 0 := rfl
  rw [e0, e4, e5, e6] at hres
  unfold F_f_law_first g_f_law_first
  simp_arith! only [gtup_Pl, t_joined, t_A, e3, ← e7, first, t1, t2]
  rcases hres with ⟨rfl, ρ', Q, i, h1, _, _, _, _, _, _, _, _, _, rfl⟩ | ⟨l, ρ', rfl, h1⟩
  · rw [h1]
    simp_arith! only [true_and]
  · rw [h1]
    simp_arith! only [true_and]
end
end K8

set_option maxRecDepth 100000
set_option maxHeartbeats 4000000
set_option synthInstance.maxSize 8000
set_option synthInstance.maxHeartbeats 400000
namespace K8
open PySem PySem.Spec L2 PD
/-! ### the law's notes, as searched -/
theorem encO_enc : Enc encO 1 := by
  have h := encM_R.tup
  have hn : ∀ a : L6, PyData.eqv .none (encM a) = false := fun a => by unfold encM; simp only [PyData.eqv]
  have hn2 : ∀ a : L6, PyData.eqv (encM a) .none = false := fun a => by unfold encM; simp only [PyData.eqv]
  have hk : ∀ a : L6, nk (encM a) ≠ some .none := fun a e => by
    obtain ⟨k, h1, _⟩ := encM_R.key a
    have : nk (encM a) = (nkAll [PyData.int a.1, .int a.2.1, .bool a.2.2.1, .bool a.2.2.2.1, .int a.2.2.2.2.1, .bool a.2.2.2.2.2]).map .tup := by unfold encM; simp only [nk]
    rw [this, h1] at e
    cases e
  refine ⟨fun a b => ?_, fun a => ?_, fun a b e => ?_, fun a => ?_⟩
  · cases a <;> cases b
    · show PyData.eqv .none .none = _
      simp only [PyData.eqv, decide_true]
    · show PyData.eqv .none (encM _) = _
      rw [hn]; rfl
    · show PyData.eqv (encM _) .none = _
      rw [hn2]; rfl
    · show PyData.eqv (encM _) (encM _) = _
      rw [show PyData.eqv (encM _) (encM _) = _ from h.eqv _ _]
      exact decide_eq_decide.mpr ⟨fun e => by rw [e], fun e => Option.some.inj e⟩
  · cases a
    · exact sh_none.up (by decide)
    · exact h.sh _
  · cases a <;> cases b
    · rfl
    · exact absurd (Eq.symm e) (hk _)
    · exact absurd e (hk _)
    · rw [h.nk _ _ e]
  · cases a
    · exact ⟨.none, rfl, by simp only [NestedKey.depth]; decide⟩
    · exact h.key _
structure L6Ok (n : L6) : Prop where
  o0 : -1 ≤ n.1
  o7 : n.1 ≤ 7
  g0 : 0 ≤ n.2.1
  g7 : n.2.1 ≤ 7
  m0 : 0 ≤ n.2.2.2.2.1
  m2 : n.2.2.2.2.1 ≤ 2
def OOk (o : Option L6) : Prop := ∀ n, o = some n → L6Ok n
theorem few_int9 : Few (fun i : Int => -1 ≤ i ∧ i ≤ 7) (fun i => (i + 1).toNat) 9 := ⟨fun a h => by omega, fun a b h g e => by omega⟩
theorem few_6 : ∃ c, Few L6Ok c 1728 := by
  have := (few_int9.prod ((Few.int 8).prod (Few.bool.prod (Few.bool.prod ((Few.int 3).prod Few.bool))))).imp (Q := L6Ok) fun n h => ⟨⟨h.o0, h.o7⟩, ⟨h.g0, by have := h.g7; omega⟩, trivial, trivial, ⟨h.m0, by have := h.m2; omega⟩, trivial⟩
  exact ⟨_, this⟩
theorem few_opt {α : Type} {P : α → Prop} {c : α → Nat} {n : Nat} (h : Few P c n) : Few (fun o : Option α => ∀ a, o = some a → P a) (fun o => match o with | none => 0 | some a => c a + 1) (n + 1) := by
  refine ⟨fun o ho => ?_, fun o p ho hp e => ?_⟩
  · cases o with
    | none => exact Nat.succ_pos _
    | some a => exact Nat.succ_lt_succ (h.lt a (ho a rfl))
  · cases o <;> cases p
    · rfl
    · simp at e
    · simp at e
    · rename_i a b
      simp only [Nat.add_right_cancel_iff] at e
      rw [h.inj a b (ho a rfl) (hp b rfl) e]
theorem notedF_ok {n : L6} (h : L6Ok n) (s t : Sd) (b : Bool) (k : Int) : L6Ok (notedF n s t b k) := by
  obtain ⟨o0, o7, g0, g7, m0, m2⟩ := h
  have e : ∀ c : Bool, 0 ≤ b2i c ∧ b2i c ≤ 1 := fun c => by cases c <;> decide
  have e1 := e (n.2.2.2.2.2 && isRc s)
  unfold notedF
  generalize decide ((if (decide (n.2.1 = 0) && b) = true then n.2.1 else min7 (n.2.1 + 1)) < k) = g
  refine ⟨?_, ?_, ?_, ?_, ?_, ?_⟩ <;> dsimp only <;> (try unfold min7) <;> (try unfold min2) <;> (repeat' split) <;> omega
theorem frM_ok : L6Ok frM := ⟨by decide, by decide, by decide, by decide, by decide, by decide⟩
theorem lprog_h (r : Rec) (h : Hm) : LProg r (hmS h) encO none lnbF (fun o => match o with | none => false | some n => badF h n) OOk := by
  have hj : hmS h ≠ sJoined := fun e => by have := hm_joined h; rw [this] at e; exact e
  refine ⟨encO_enc, ?_, (fun n e => by cases e), fun a ha p b s t k a' hm => ?_, fun a p b s t k => ?_, ?_, .inr ⟨hj, fun a => ⟨?_, ?_⟩⟩, fun a p b s t k as ρ _ => F_after_note_h (r := r) h a p t b k⟩
  · obtain ⟨c, hc⟩ := few_6
    exact ⟨_, few_le (few_opt hc) (by decide)⟩
  · unfold lnbF at hm
    cases a with
    | some n =>
      rw [List.mem_singleton.mp hm]
      intro m e
      cases e
      exact notedF_ok (ha n rfl) s t b k
    | none =>
      rcases List.mem_cons.mp hm with e | hm
      · subst e; intro m e; cases e
      · split at hm
        · rw [List.mem_singleton.mp hm]
          intro m e
          cases e
          exact notedF_ok frM_ok s t b k
        · simp at hm
  · unfold lnbF
    cases a
    · dsimp only; split <;> simp
    · simp
  · rw [if_neg hj]; rfl
  · cases a with
    | none => exact eqD_ni
    | some n =>
      show eqD (encM n) (.int 9) = _
      rw [eqD_sh (show Sh 1 (encM n) from encM_R.tup.sh n) (sh_int 9) (by decide) (by decide)]
      unfold encM
      simp only [PyData.eqv]
  · cases a with
    | none => exact .inl ⟨rfl, rfl⟩
    | some n => exact .inr ⟨rfl, F_bad_eq n h⟩
def JOk (n : Int) : Prop := 0 ≤ n ∧ n ≤ 9
theorem lprog_j (r : Rec) (hr : r.Ok) : LProg r sJoined PyData.int 0 lnbJ (fun n => decide (n = 9)) JOk := by
  refine ⟨Enc.int.up (by decide), ?_, ⟨by decide, by decide⟩, fun a ha p b s t k a' hm => ?_, fun a p b s t k => ?_, by rw [if_pos rfl], .inl ⟨rfl, fun a => eqD_ii⟩, fun a p b s t k as ρ hs => F_after_note_j hr a p hs t b k⟩
  · have := (Few.int 10).imp (Q := JOk) fun n h => ⟨h.1, by have := h.2; omega⟩
    exact ⟨_, few_le this (by decide)⟩
  · unfold lnbJ at hm
    have e2 : ∀ c : Bool, 0 ≤ b2i c ∧ b2i c ≤ 1 := fun c => by cases c <;> decide
    have e3 := e2 (b && decide (0 < quietS s))
    have e4 := startsP_nn false (newS s b)
    split at hm
    · rw [List.mem_singleton.mp hm]
      split <;> exact ⟨by decide, by decide⟩
    · dsimp only at hm
      rw [List.mem_singleton.mp hm]
      have := ha.1
      unfold JOk
      (repeat' split) <;> omega
  · unfold lnbJ
    split <;> simp
/-! ### the two searches tell the same -/
theorem All2.flatMap {α β γ : Type} {R : β → γ → Prop} (f : α → List β) (g : α → List γ) : ∀ l : List α, (∀ a ∈ l, All2 R (f a) (g a)) → All2 R (l.flatMap f) (l.flatMap g)
  | [], _ => .nil
  | a :: l, h => by
    rw [List.flatMap_cons, List.flatMap_cons]
    exact (h a List.mem_cons_self).append (All2.flatMap f g l fun b hb => h b (List.mem_cons_of_mem _ hb))
theorem same_first {α β : Type} [DecidableEq α] [DecidableEq β] {r : Rec} (hr : r.Ok) {w : Wl} (hw : w.Ok) {u0 : α} {v0 : β} {nb : NB α} {nb' : NB β} {ac : α → Bool} {ac' : β → Bool} (R : α → β → Prop) (h0 : R u0 v0)
    (hs : ∀ a a' p p' b s t k, R a a' → p.1 = p'.1 → s.Ok r → 0 ≤ k → k ≤ 6 → stepS r s b = (t, k) → All2 R (nb a p b s t k) (nb' a' p' b s t k)) (ha : ∀ a a', R a a' → ac a = ac' a') {r1 r2 : Option (List Bool)}
    (h1 : Bfs (succP r w nb) (s0P w u0) (accP w ac) r1) (h2 : Bfs (succL r w nb') (s0L w v0) (accL w ac') r2) : r1 = r2 := by
  refine h1.eq (fun x y => PlR w x.1 y.1 ∧ x.2.1 = y.2.1 ∧ x.2.1.Ok r ∧ R x.2.2 y.2.2) ⟨PlR.begin hw, rfl, heard_nil hr, h0⟩ (fun x y ⟨e1, e2, e3, e4⟩ => ?_) (fun x y ⟨e1, e2, e3, e4⟩ => ?_) h2
  · unfold succP succL
    rw [← e1.more, ← e2]
    refine All2.flatMap _ _ _ fun b hb => ?_
    obtain ⟨k1, k2⟩ := kept_range hr e3 b
    exact (hs _ _ x.1 y.1 b x.2.1 (stepS r x.2.1 b).1 (stepS r x.2.1 b).2 e4 e1.1 e3 k1 k2 rfl).mapR fun a a' h => ⟨rfl, e1.next hw b, rfl, stepS_ok hr e3 b, h⟩
  · unfold accP accL mayEnd
    rw [ha _ _ e4]
    congr 1
    obtain ⟨e5, e6⟩ := e1
    rw [← e5]
    cases hp : x.1.1
    · simp
    · rw [hp] at e6
      simp only [if_true] at e6
      rw [e6]
      simp
/-- the program's note and the law's -/
def R7 (n : W7) (o : Option L6) : Prop := (n = unw ∧ o = none) ∨ ∃ (m : L6) (L G : Int), o = some m ∧ 1 ≤ L ∧ 0 ≤ G ∧ n.1 = decide (G = 0) ∧ n.2.1 = (if L < 7 then L else 7) ∧ n.2.2.1 = (if G < 7 then G else 7) ∧ m.1 = (if L + G - 1 < 7 then L + G - 1 else 7) ∧ m.2.1 = (if G < 7 then G else 7) ∧
  n.2.2.2.1 = m.2.2.1 ∧ n.2.2.2.2.1 = m.2.2.2.1 ∧ n.2.2.2.2.2.1 = m.2.2.2.2.1 ∧ n.2.2.2.2.2.2 = m.2.2.2.2.2 ∧ 0 ≤ m.2.2.2.2.1 ∧ m.2.2.2.2.1 ≤ 2
theorem R7.step {n : W7} {m : L6} {L G : Int} (h1 : 0 ≤ L) (h1' : 0 ≤ G) (h2 : n.1 = decide (G = 0)) (h3 : n.2.1 = (if L < 7 then L else 7)) (h4 : n.2.2.1 = (if G < 7 then G else 7)) (h5 : m.1 = (if L + G - 1 < 7 then L + G - 1 else 7)) (h6 : m.2.1 = (if G < 7 then G else 7))
    (h7 : n.2.2.2.1 = m.2.2.1) (h8 : n.2.2.2.2.1 = m.2.2.2.1) (h9 : n.2.2.2.2.2.1 = m.2.2.2.2.1) (h10 : n.2.2.2.2.2.2 = m.2.2.2.2.2) (h11 : 0 ≤ m.2.2.2.2.1) (h12 : m.2.2.2.2.1 ≤ 2) (s t : Sd) (b : Bool) (k : Int) (hk : k ≤ 6) (hL : 1 ≤ L ∨ (G = 0 ∧ b = true)) : R7 (watchF n b s t k) (some (notedF m s t b k)) := by
  obtain ⟨on, len, gap, fi, la, many, here⟩ := n
  obtain ⟨old, gap', fi', la', many', here'⟩ := m
  dsimp only at h2 h3 h4 h5 h6 h7 h8 h9 h10 h11 h12
  subst h7 h8 h9 h10
  have hg : (decide (gap' = 0) && b) = (on && b) := by
    rw [h2, h6]
    congr 1
    refine decide_eq_decide.mpr ?_
    split <;> omega
  have e2 : ∀ c : Bool, 0 ≤ b2i c ∧ b2i c ≤ 1 := fun c => by cases c <;> decide
  have e3 := e2 (here && isRc s)
  have e4 : many + b2i (!(here && isRc s)) = many + 1 - b2i (here && isRc s) := by
    cases (here && isRc s) <;> (unfold b2i; simp)
  have gg : gap = gap' := by rw [h4, h6]
  subst gg
  have m2 : ∀ (c : Bool) (x : Int), 0 ≤ x → 0 ≤ (if c = true then min2 x else many) ∧ (if c = true then min2 x else many) ≤ 2 := fun c x hx => by
    unfold min2
    constructor <;> (repeat' split) <;> omega
  by_cases hc : (on && b) = true
  · have hG : G = 0 := by
      rw [Bool.and_eq_true] at hc
      rw [h2] at hc
      exact of_decide_eq_true hc.1
    subst hG
    rw [Bool.and_eq_true] at hc
    obtain ⟨ho, hbt⟩ := hc
    subst ho hbt
    have hgap : gap = 0 := by rw [h4]; rfl
    subst hgap
    have hlen : min7 (len + 1) = (if L + 1 < 7 then L + 1 else 7) := by unfold min7; rw [h3]; (repeat' split) <;> omega
    have hold : min7 (old + 1) = (if L + 1 + 0 - 1 < 7 then L + 1 + 0 - 1 else 7) := by unfold min7; rw [h5]; (repeat' split) <;> omega
    refine .inr ⟨_, L + 1, 0, rfl, by omega, by omega, ?_, ?_, ?_, ?_, ?_, ?_, ?_, ?_, ?_, ?_, ?_⟩ <;> simp only [watchF, notedF, decide_true, Bool.and_self, if_true]
    · exact hlen
    · rfl
    · exact hold
    · rfl
    · by_cases hgk : (0 : Int) < k
      · simp only [hgk, decide_true, if_true]
        congr 1
        refine decide_eq_decide.mpr ?_
        rw [hlen, hold]
        (repeat' split) <;> omega
      · simp only [hgk, decide_false, Bool.false_eq_true, if_false]
    · rw [e4]
    · exact (m2 _ _ (by omega)).1
    · exact (m2 _ _ (by omega)).2
  · have hL : 1 ≤ L := by
      rcases hL with h | ⟨h, h'⟩
      · exact h
      · exfalso
        apply hc
        rw [h2, h, h']
        rfl
    have hgap : min7 (gap + 1) = (if G + 1 < 7 then G + 1 else 7) := by unfold min7; rw [h4]; (repeat' split) <;> omega
    have hold : min7 (old + 1) = (if L + (G + 1) - 1 < 7 then L + (G + 1) - 1 else 7) := by unfold min7; rw [h5]; (repeat' split) <;> omega
    have hb : (on && b) = false := bool_no hc
    refine .inr ⟨_, L, G + 1, rfl, hL, by omega, ?_, ?_, ?_, ?_, ?_, ?_, ?_, ?_, ?_, ?_, ?_⟩ <;> simp only [watchF, notedF, hg, hb, Bool.false_eq_true, if_false]
    · rw [decide_eq_false (by omega)]
    · exact h3
    · exact hgap
    · exact hold
    · exact hgap
    · by_cases hgk : min7 (gap + 1) < k
      · simp only [hgk, decide_true, if_true]
        congr 1
        refine decide_eq_decide.mpr ?_
        rw [hgap] at hgk ⊢
        rw [hold, h3]
        split at hgk <;> (repeat' split) <;> omega
      · simp only [hgk, decide_false, Bool.false_eq_true, if_false]
    · rw [e4]
    · exact (m2 _ _ (by omega)).1
    · exact (m2 _ _ (by omega)).2
theorem same_h {r : Rec} (hr : r.Ok) {w : Wl} (hw : w.Ok) (h : Hm) {r1 r2 : Option (List Bool)} (h1 : Bfs (succP r w notesF) (s0P w unw) (accP w (harmF h)) r1)
    (h2 : Bfs (succL r w lnbF) (s0L w none) (accL w (fun o => match o with | none => false | some n => badF h n)) r2) : r1 = r2 := by
  refine same_first hr hw R7 (.inl ⟨rfl, rfl⟩) (fun a a' p p' b s t k hR hp hs k0 k6 _ => ?_) (fun a a' hR => ?_) h1 h2
  · rcases hR with ⟨rfl, rfl⟩ | ⟨m, L, G, rfl, l1, g0, h2, h3, h4, h5, h6, h7, h8, h9, h10, h11, h12⟩
    · unfold notesF lnbF
      rw [if_pos rfl, hp]
      refine .cons (.inl ⟨rfl, rfl⟩) ?_
      by_cases hb : (b && !p'.1) = true
      · rw [if_pos hb, if_pos hb]
        have hb1 : b = true := by rw [Bool.and_eq_true] at hb; exact hb.1
        exact .cons (R7.step (n := stN) (m := frM) (L := 0) (G := 0) (by decide) (by decide) rfl rfl rfl rfl rfl rfl rfl rfl rfl (by decide) (by decide) s t b k k6 (.inr ⟨rfl, hb1⟩)) .nil
      · rw [if_neg hb, if_neg hb]
        exact .nil
    · have hu : a ≠ unw := fun e => by
        rw [e] at h3
        have h3 : (0 : Int) = if L < 7 then L else 7 := h3
        split at h3 <;> omega
      unfold notesF lnbF
      rw [if_neg hu]
      exact .cons (R7.step (by omega) g0 h2 h3 h4 h5 h6 h7 h8 h9 h10 h11 h12 s t b k k6 (.inl l1)) .nil
  · rcases hR with ⟨rfl, rfl⟩ | ⟨m, L, G, rfl, l1, g0, h2, h3, h4, h5, h6, h7, h8, h9, h10, h11, h12⟩
    · rfl
    · have hu : ¬ a.2.1 = 0 := by rw [h3]; split <;> omega
      unfold harmF badF
      rw [if_neg hu, h7, h8, h9]
      cases h <;> dsimp only
      refine decide_eq_decide.mpr ?_
      omega
theorem same_j {r : Rec} (hr : r.Ok) {w : Wl} (hw : w.Ok) {r1 r2 : Option (List Bool)} (h1 : Bfs (succP r w nbJ) (s0P w ((false, 0) : J2)) (accP w (fun a => a.1)) r1) (h2 : Bfs (succL r w lnbJ) (s0L w (0 : Int)) (accL w (fun n => decide (n = 9))) r2) : r1 = r2 := by
  refine same_first hr hw (fun (a : J2) (n : Int) => (a.1 = true ∧ n = 9) ∨ (a.1 = false ∧ n = a.2 ∧ 0 ≤ n ∧ n ≤ 1)) (.inr ⟨rfl, rfl, by decide, by decide⟩) (fun a n p p' b s t k hR hp hs k0 k6 hst => ?_) (fun a n hR => ?_) h1 h2
  · unfold nbJ lnbJ joinedF
    dsimp only
    rcases hR with ⟨ha, rfl⟩ | ⟨ha, rfl, n0, n1⟩
    · rw [if_pos (show k = 0 ∨ (9 : Int) = 9 from .inr rfl), if_pos (show (9 : Int) = 9 from rfl)]
      exact .cons (.inl ⟨by rw [ha]; rfl, rfl⟩) .nil
    · by_cases hk : k = 0
      · rw [if_pos (show k = 0 ∨ a.2 = 9 from .inl hk), if_neg (by omega : ¬ (a.2 : Int) = 9), if_neg (by omega : ¬ 0 < k)]
        refine .cons (.inr ⟨by rw [ha]; rfl, ?_, by decide, by decide⟩) .nil
        split <;> rfl
      · rw [if_neg (show ¬ (k = 0 ∨ a.2 = 9) by omega), if_pos (by omega : 0 < k)]
        have key : joinsF s b a.2 = min2 (if isRc s = true then a.2 + b2i (b && decide (0 < quietS s)) else startsP false (newS s b)) := by
          cases s with
          | aw h => rfl
          | rc c q => rfl
          | sl c =>
            exfalso
            have : k = 0 := by
              have := congrArg Prod.snd hst
              exact this.symm
            exact hk this
        rw [key, ha, Bool.false_or]
        have e2 : ∀ c : Bool, 0 ≤ b2i c ∧ b2i c ≤ 1 := fun c => by cases c <;> decide
        have e3 := e2 (b && decide (0 < quietS s))
        have nn : 0 ≤ (if isRc s = true then a.2 + b2i (b && decide (0 < quietS s)) else startsP false (newS s b)) := by
          have := startsP_nn false (newS s b)
          split <;> omega
        generalize (if isRc s = true then a.2 + b2i (b && decide (0 < quietS s)) else startsP false (newS s b)) = X at nn
        by_cases hX : 1 < X
        · rw [if_pos hX]
          refine .cons (.inl ⟨decide_eq_true ?_, rfl⟩) .nil
          unfold min2; split <;> omega
        · rw [if_neg hX]
          have hm : min2 X = X := by unfold min2; split <;> omega
          rw [hm]
          refine .cons (.inr ⟨decide_eq_false hX, rfl, ?_, ?_⟩) .nil
          · split <;> omega
          · split <;> omega
  · rcases hR with ⟨ha, rfl⟩ | ⟨ha, hn, n0, n1⟩
    · rw [ha]; rfl
    · rw [ha, decide_eq_false (by omega)]
/-- each harm: what the program finds is what the law finds -/
def encW0 (res : Option (List Bool)) : D := match res with | some l => encB l | none => .none
theorem first_h {r : Rec} (hr : r.Ok) {w : Wl} (hw : w.Ok) (h : Hm) : ∃ res, F_first_by [.d (encPl r w), .d (.str (hmS h))] = .ret (encW0 res) none ∧ F_f_law_first [.d (encPl r w), .d (.str (hmS h))] = .ret (encW0 res) none := by
  obtain ⟨r1, b1, e1⟩ := F_first_by_eq hr (nprog_h r h) hw
  obtain ⟨r2, b2, e2⟩ := F_f_law_first_eq hr (lprog_h r h) hw
  have := same_h hr hw h b1 b2
  subst this
  exact ⟨r1, e1, e2⟩
theorem first_j {r : Rec} (hr : r.Ok) {w : Wl} (hw : w.Ok) : ∃ res, F_first_by [.d (encPl r w), .d (.str sJoined)] = .ret (encW0 res) none ∧ F_f_law_first [.d (encPl r w), .d (.str sJoined)] = .ret (encW0 res) none := by
  obtain ⟨r1, b1, e1⟩ := F_first_by_eq hr (nprog_j r hr) hw
  obtain ⟨r2, b2, e2⟩ := F_f_law_first_eq hr (lprog_j r hr) hw
  have := same_j hr hw b1 b2
  subst this
  exact ⟨r1, e1, e2⟩
end K8

set_option maxRecDepth 100000
set_option maxHeartbeats 4000000
set_option synthInstance.maxSize 8000
set_option synthInstance.maxHeartbeats 400000
namespace K8
open PySem PySem.Spec L2 PD
local macro_rules
  | `(tactic| simp_arith only [$a,*]) => `(tactic| simp only [ret_ap, lift_some, lift_none, var_ap, varR_d, ownAt_ap, ownL_own, ownL_d, ownL_n, frzAt_ap, frzL_own, frzL_d, frz_nil, frz_cons, frz1_own, frz1_d, frz1_n, wipe_nil, wipe_cons, restore_nil, restore_cons, clean_nil, clean_cons, isOwnL_own, isOwnL_d, isOwnL_k, frz1_k, frzL_k, ownL_k, isOwnL_n, bind_ap, bindR_ok, bindR_ex, bindR_bad, ofM_ap, ofR_ok, ofR_ex, ofR_bad, seq_ap, seqR_nx, seqR_rt, seqR_rl, seqR_bk, seqR_ct, seqR_ex, seqR_bad, nil_ap, pass_ap, never_ap, brk_ap, cnt_ap, retN_ap, sret_ap, sretL_ap, drop_ap, site_ap, asg_ap, own_ap, par2_ap, par3_ap, asgT_ap, asgR_some, asgR_none, gnm_ap, gnil_ap, gcons_ap, gtup_ap, andV_ap, orV_ap, andT_ap, orT_ap, notT_ap, test_ap, op1_ap, op2_ap, chain_ap, mite_ap, ite_apR, ite_apS, argN_ap, argD_ap, argS_ap, slotR_some, tup_ap, lst_ap, known_ap, call_ap, callL_ap, listL_ap, seqOf_l, seqOf_t, items_ap, part_ap, slice_ap, catL_ap, frz_ap, borrow_ap, borrowR_ok, borrowT_ap, borrowTR_ok, subO_ap, app_ap, setIx_ap, retO_ap, for_ap, lc_ap, lcR_ok, fn_ap, fnL_ap, fnR_some, fnLR_some, retR_ret, retR_retL, retLR_retL, putR_some, putO_none, putO_s0, putO_s1, putO_s2, putO_s3, putO_s4, endR_rt, endR_rl, endR_nx, endR_bad, bindR_ite, ofR_ite, seqR_ite, endR_ite, lift_ite, pop_ap, popR_snoc, dctAt_ap, dctL_k, dctL_o, dctL_d, dctL_n, inK_ap, subK_ap, slotKR_some, setK_ap, slotKF_some, setKR_some, parN_ap, parR_ok, setN_nil, setN_cons, nC_ap, nL_ap, nD_ap, dict1_ap, new_ap, repL_ap, addD_ii, addD_ss, addD_tt, subD_ii, mulD_ii, fdivD_ii, modD_ii, powD_ii, negD_i, ltD_ii, leD_ii, gtD_ii, geD_ii, ixD_l, ixD_t, catD_ll, itemsD_l, itemsD_t, lenD_l, lenD_t, lenD_s, absD_i, maxD_ii, minD_ii, intD_i, intD_b, tupleD_l, tupleD_t, notD_b, asB_b, asI_i, eqD_ii, eqD_ss, eqD_bb, eqD_si, eqD_is, eqD_nn, eqD_nb, eqD_ni, eqD_ns, eqD_bn, eqD_in, eqD_sn, tInt_none, tInt_bool, tInt_int, tInt_str, tInt_tuple, tInt_list, tInt_dict, tBool_none, tBool_bool, tBool_int, tBool_str, tBool_tuple, tBool_list, tBool_dict, tStr_none, tStr_bool, tStr_int, tStr_str, tStr_tuple, tStr_list, tStr_dict, tTuple_none, tTuple_bool, tTuple_int, tTuple_str, tTuple_tuple, tTuple_list, tTuple_dict, tList_none, tList_bool, tList_int, tList_str, tList_tuple, tList_list, tList_dict, tSeq_none, tSeq_bool, tSeq_int, tSeq_str, tSeq_tuple, tSeq_list, tSeq_dict, isNoneB_none, scalarD_none, isNoneB_bool, scalarD_bool, isNoneB_int, scalarD_int, isNoneB_str, scalarD_str, isNoneB_tuple, scalarD_tuple, isNoneB_list, scalarD_list, isNoneB_dict, scalarD_dict, ixT0, ixT1, ixT2, ixT3, ixT4, ixT5, ixT6, ixT7, ixT8, ixT9, ixL0, ixL1, ixL2, ixL3, ixL4, ixL5, ixL6, ixL7, ixL8, ixL9, aI0, aI1, aI2, aI3, aI4, aI5, aI6, aI7, aI8, aI9, ixN1_0, ixN2_0, ixN2_1, ixN3_0, ixN3_1, ixN3_2, ixN4_0, ixN4_1, ixN4_2, ixN4_3, ixN5_0, ixN5_1, ixN5_2, ixN5_3, ixN5_4, ixN6_0, ixN6_1, ixN6_2, ixN6_3, ixN6_4, ixN6_5, List.map_cons, List.map_nil, List.cons_append, List.nil_append, List.replicate_zero, List.replicate_succ, List.length_cons, List.length_nil, List.getElem?_cons_zero, List.getElem?_cons_succ, List.set_cons_zero, List.set_cons_succ, List.getD_cons_zero, List.getD_cons_succ, Bool.and_true, Bool.true_and, Bool.not_false, Bool.not_true, Nat.sub_self, Nat.reduceSub, Nat.reduceAdd, Nat.zero_add, true_and, and_true, and_self, if_true, if_false, ite_true, ite_false, reduceCtorEq, false_implies, implies_true, forall_const, Bool.false_eq_true, Option.bind_some, Option.map_some, Option.bind_none, Option.map_none, runF_eq, okIo, datOf, lvsOf, argIo, isD, outO, isND, notND, vals2D, vals3D, eqDD, neDD, decide_true, decide_false, Bool.decide_eq_true, sz0, sz1, sz2, sz3, sz4, sz5, sz6, sz7, sz8, sz9, sz10, sz11, sz12, sz13, sz14, sz15, sz16, sz17, sz18, sz19, sz20, sz21, sz22, sz23, sz24, sz25, sz26, sz27, sz28, sz29, sz30, sz31, sz32, sz33, sz34, sz35, sz36, sz37, sz38, sz39, sz40, slice_t, all_t, all_l, any_l, all_lm, all_tm, any_lm, Function.comp_def, step_nx, step_ct, step_bk, step_rt, step_rl, step_ite, decide_eq_true_eq, Int.cast_ofNat_Int, Int.reduceLE, Int.reduceLT, Int.reduceAdd, Int.reduceSub, Int.reduceMul, Int.reduceNeg, Int.reduceEq, Int.reduceGT, Nat.reduceEqDiff, ne_eq, not_false_eq_true, Option.some.injEq, forall_eq', Nat.reduceLT, Bool.and_false, Bool.or_false, Bool.false_or, Bool.true_or, Bool.false_and, Bool.or_true, $a,*])
local macro_rules
  | `(tactic| simp_arith! only [$a,*]) => `(tactic| simp only [ret_ap, lift_some, lift_none, var_ap, varR_d, ownAt_ap, ownL_own, ownL_d, ownL_n, frzAt_ap, frzL_own, frzL_d, frz_nil, frz_cons, frz1_own, frz1_d, frz1_n, wipe_nil, wipe_cons, restore_nil, restore_cons, clean_nil, clean_cons, isOwnL_own, isOwnL_d, isOwnL_k, frz1_k, frzL_k, ownL_k, isOwnL_n, bind_ap, bindR_ok, bindR_ex, bindR_bad, ofM_ap, ofR_ok, ofR_ex, ofR_bad, seq_ap, seqR_nx, seqR_rt, seqR_rl, seqR_bk, seqR_ct, seqR_ex, seqR_bad, nil_ap, pass_ap, never_ap, brk_ap, cnt_ap, retN_ap, sret_ap, sretL_ap, drop_ap, site_ap, asg_ap, own_ap, par2_ap, par3_ap, asgT_ap, asgR_some, asgR_none, gnm_ap, gnil_ap, gcons_ap, gtup_ap, andV_ap, orV_ap, andT_ap, orT_ap, notT_ap, test_ap, op1_ap, op2_ap, chain_ap, mite_ap, ite_apR, ite_apS, argN_ap, argD_ap, argS_ap, slotR_some, tup_ap, lst_ap, known_ap, call_ap, callL_ap, listL_ap, seqOf_l, seqOf_t, items_ap, part_ap, slice_ap, catL_ap, frz_ap, borrow_ap, borrowR_ok, borrowT_ap, borrowTR_ok, subO_ap, app_ap, setIx_ap, retO_ap, for_ap, lc_ap, lcR_ok, fn_ap, fnL_ap, fnR_some, fnLR_some, retR_ret, retR_retL, retLR_retL, putR_some, putO_none, putO_s0, putO_s1, putO_s2, putO_s3, putO_s4, endR_rt, endR_rl, endR_nx, endR_bad, endR_ite, pop_ap, popR_snoc, dctAt_ap, dctL_k, dctL_o, dctL_d, dctL_n, inK_ap, subK_ap, slotKR_some, setK_ap, slotKF_some, setKR_some, parN_ap, parR_ok, setN_nil, setN_cons, nC_ap, nL_ap, nD_ap, dict1_ap, new_ap, repL_ap, addD_ii, addD_ss, addD_tt, subD_ii, mulD_ii, fdivD_ii, modD_ii, powD_ii, negD_i, ltD_ii, leD_ii, gtD_ii, geD_ii, ixD_l, ixD_t, catD_ll, itemsD_l, itemsD_t, lenD_l, lenD_t, lenD_s, absD_i, maxD_ii, minD_ii, intD_i, intD_b, tupleD_l, tupleD_t, notD_b, asB_b, asI_i, eqD_ii, eqD_ss, eqD_bb, eqD_si, eqD_is, eqD_nn, eqD_nb, eqD_ni, eqD_ns, eqD_bn, eqD_in, eqD_sn, tInt_none, tInt_bool, tInt_int, tInt_str, tInt_tuple, tInt_list, tInt_dict, tBool_none, tBool_bool, tBool_int, tBool_str, tBool_tuple, tBool_list, tBool_dict, tStr_none, tStr_bool, tStr_int, tStr_str, tStr_tuple, tStr_list, tStr_dict, tTuple_none, tTuple_bool, tTuple_int, tTuple_str, tTuple_tuple, tTuple_list, tTuple_dict, tList_none, tList_bool, tList_int, tList_str, tList_tuple, tList_list, tList_dict, tSeq_none, tSeq_bool, tSeq_int, tSeq_str, tSeq_tuple, tSeq_list, tSeq_dict, isNoneB_none, scalarD_none, isNoneB_bool, scalarD_bool, isNoneB_int, scalarD_int, isNoneB_str, scalarD_str, isNoneB_tuple, scalarD_tuple, isNoneB_list, scalarD_list, isNoneB_dict, scalarD_dict, ixT0, ixT1, ixT2, ixT3, ixT4, ixT5, ixT6, ixT7, ixT8, ixT9, ixL0, ixL1, ixL2, ixL3, ixL4, ixL5, ixL6, ixL7, ixL8, ixL9, aI0, aI1, aI2, aI3, aI4, aI5, aI6, aI7, aI8, aI9, ixN1_0, ixN2_0, ixN2_1, ixN3_0, ixN3_1, ixN3_2, ixN4_0, ixN4_1, ixN4_2, ixN4_3, ixN5_0, ixN5_1, ixN5_2, ixN5_3, ixN5_4, ixN6_0, ixN6_1, ixN6_2, ixN6_3, ixN6_4, ixN6_5, List.map_cons, List.map_nil, List.cons_append, List.nil_append, List.replicate_zero, List.replicate_succ, List.length_cons, List.length_nil, List.getElem?_cons_zero, List.getElem?_cons_succ, List.set_cons_zero, List.set_cons_succ, List.getD_cons_zero, List.getD_cons_succ, Bool.and_true, Bool.true_and, Bool.not_false, Bool.not_true, Nat.sub_self, Nat.reduceSub, Nat.reduceAdd, Nat.zero_add, true_and, and_true, and_self, if_true, if_false, ite_true, ite_false, reduceCtorEq, false_implies, implies_true, forall_const, Bool.false_eq_true, Option.bind_some, Option.map_some, Option.bind_none, Option.map_none, runF_eq, okIo, datOf, lvsOf, argIo, isD, outO, isND, notND, vals2D, vals3D, eqDD, neDD, decide_true, decide_false, Bool.decide_eq_true, sz0, sz1, sz2, sz3, sz4, sz5, sz6, sz7, sz8, sz9, sz10, sz11, sz12, sz13, sz14, sz15, sz16, sz17, sz18, sz19, sz20, sz21, sz22, sz23, sz24, sz25, sz26, sz27, sz28, sz29, sz30, sz31, sz32, sz33, sz34, sz35, sz36, sz37, sz38, sz39, sz40, slice_t, all_t, all_l, any_l, all_lm, all_tm, any_lm, Function.comp_def, step_nx, step_ct, step_bk, step_rt, step_rl, step_ite, decide_eq_true_eq, Int.cast_ofNat_Int, Int.reduceLE, Int.reduceLT, Int.reduceAdd, Int.reduceSub, Int.reduceMul, Int.reduceNeg, Int.reduceEq, Int.reduceGT, Nat.reduceEqDiff, ne_eq, not_false_eq_true, Option.some.injEq, forall_eq', Nat.reduceLT, Bool.and_false, Bool.or_false, Bool.false_or, Bool.true_or, Bool.false_and, Bool.or_true, m_ok, m_nx, m_rt, m_cons, m_some, m_d, m_own, m_dct, m_int, m_bool, m_list, m_ret, s_rtl, s_rtr, s_rll, s_rlr, s_bkl, s_bkr, s_ctl, s_ctr, s_exl, s_exr, b_exl, b_exr, o_exl, o_exr, m_tt, m_ft, m_dt, m_df, m_dtx, m_dfx, m_xdt, m_xdf, ite_self, Bool.decide_eq_true, Bool.not_not, Bool.decide_eq_false, $a,*])
/-! ### harms, first_harm -/
def fiveS : List Str := [sEarly, sJoined, sLate, sLost, sParted]
theorem cH : cst_HARMS = .tuple (fiveS.map .str) := rfl
theorem mem5 {h : Str} (hm : h ∈ fiveS) : h = sJoined ∨ ∃ k : Hm, h = hmS k := by
  unfold fiveS at hm
  simp only [List.mem_cons, List.not_mem_nil, or_false] at hm
  rcases hm with e | e | e | e | e
  · exact .inr ⟨.early, e⟩
  · exact .inl e
  · exact .inr ⟨.late, e⟩
  · exact .inr ⟨.lost, e⟩
  · exact .inr ⟨.parted, e⟩
theorem notIn5 {h : Str} (hm : h ∈ fiveS) : notInDD (.str h) cst_HARMS = some (.bool false) := by
  unfold fiveS at hm
  simp only [List.mem_cons, List.not_mem_nil, or_false] at hm
  rcases hm with e | e | e | e | e <;> subst e <;> rfl
theorem strOk5 {h : Str} (hm : h ∈ fiveS) : PyData.strOk h = true := by
  unfold fiveS at hm
  simp only [List.mem_cons, List.not_mem_nil, or_false] at hm
  rcases hm with e | e | e | e | e <;> subst e <;> decide +kernel
theorem F_look_at_harm_ok {h : Str} (hm : h ∈ fiveS) : F_look_at_harm [.d (.str h)] = .ret .none none := by
  have e := notIn5 hm
  unfold F_look_at_harm g_look_at_harm
  generalize cst_HARMS = H at e ⊢
  simp_arith only [e]
theorem first_ok {r : Rec} (hr : r.Ok) {w : Wl} (hw : w.Ok) {h : Str} (hm : h ∈ fiveS) : ∃ res, F_first_by [.d (encPl r w), .d (.str h)] = .ret (encW0 res) none := by
  rcases mem5 hm with rfl | ⟨k, rfl⟩
  · obtain ⟨res, _, e⟩ := F_first_by_eq hr (nprog_j r hr) hw
    exact ⟨res, e⟩
  · obtain ⟨res, _, e⟩ := F_first_by_eq hr (nprog_h r k) hw
    exact ⟨res, e⟩
noncomputable def resF (r : Rec) (w : Wl) (d : D) : D := match d with
  | .str s => (match F_first_by [.d (encPl r w), .d (.str s)] with | .ret x _ => x | _ => .none)
  | _ => .none
noncomputable def hasF (r : Rec) (w : Wl) (d : D) : Bool := !isNoneB (resF r w d)
theorem resF_eq {r : Rec} {w : Wl} {h : Str} {res : Option (List Bool)} (e : F_first_by [.d (encPl r w), .d (.str h)] = .ret (encW0 res) none) : resF r w (.str h) = encW0 res := by
  unfold resF
  dsimp only
  rw [e]
theorem sh_W0 (res : Option (List Bool)) : Sh 2 (encW0 res) := by
  cases res
  · exact sh_none.up (by decide)
  · exact (sh_encB _).up (by decide)
/-! ### the law of good values -/
theorem sortset_ap (f : M D) (ρ : DE) : M.sortset f ρ = M.bind f (fun x => M.lift (sortsetD x)) ρ := rfl
theorem tidx_ap (d : D) (f : M D) (ρ : DE) : M.tidx d f ρ = M.bind f (fun z => M.lift (tidxD d z)) ρ := rfl
theorem twins2 {x : D} (h : Sh 2 x) : F_f_law_twins 8 [.d x, .d x] = .ret (.bool true) none := twins8 7 rfl h
theorem first_both {r : Rec} (hr : r.Ok) {w : Wl} (hw : w.Ok) {h : Str} (hm : h ∈ fiveS) : ∃ res, F_first_by [.d (encPl r w), .d (.str h)] = .ret (encW0 res) none ∧ F_f_law_first [.d (encPl r w), .d (.str h)] = .ret (encW0 res) none := by
  rcases mem5 hm with rfl | ⟨k, rfl⟩
  · exact first_j hr hw
  · exact first_h hr hw k
theorem rep01 (d : D) (c : Bool) : repO [d] (.int (if c = true then 1 else 0)) = some (if c = true then [d] else []) := by
  have e : ∀ k : Int, repO [d] (.int k) = if -(2 ^ 63) ≤ k ∧ k < 2 ^ 63 ∧ [d].length * k.toNat ≤ sizeLine then some (List.replicate k.toNat [d]).flatten else none := fun _ => rfl
  cases c
  · show repO [d] (.int 0) = some []
    rw [e, if_pos ⟨by decide, by decide, by rw [sizeLine_eq]; show 1 * 0 ≤ 16777216; decide⟩]
    rfl
  · show repO [d] (.int 1) = some [d]
    rw [e, if_pos ⟨by decide, by decide, by rw [sizeLine_eq]; show 1 * 1 ≤ 16777216; decide⟩]
    rfl
theorem catD_ll' (xs ys : List D) (h : xs.length + ys.length ≤ sizeLine) : catD (.list xs) (.list ys) = some (xs ++ ys) := by
  show (if xs.length + ys.length ≤ sizeLine then _ else _) = _
  rw [if_pos h]
theorem filter_take (p : D → Bool) (l : List D) (i : Nat) (x : D) (h : l[i]? = some x) : (l.take (i + 1)).filter p = (l.take i).filter p ++ if p x = true then [x] else [] := by
  rw [List.take_add_one, h, List.filter_append]
  congr 1
  show List.filter p [x] = _
  by_cases hp : p x = true
  · rw [if_pos hp, List.filter_cons_of_pos hp]; rfl
  · rw [if_neg hp, List.filter_cons_of_neg hp]; rfl
/-- another number in the place of one -/
def putR (r : Rec) (k : Nat) (n : Int) : Rec := match k with
  | 0 => ⟨n, r.ahead, r.hush, r.most, r.rest⟩
  | 1 => ⟨r.need, n, r.hush, r.most, r.rest⟩
  | 2 => ⟨r.need, r.ahead, n, r.most, r.rest⟩
  | 3 => ⟨r.need, r.ahead, r.hush, n, r.rest⟩
  | _ => ⟨r.need, r.ahead, r.hush, r.most, n⟩
def okB (r : Rec) : Bool := decide (1 ≤ r.need ∧ r.need ≤ 3 ∧ 0 ≤ r.ahead ∧ r.ahead ≤ 3 ∧ 1 ≤ r.hush ∧ r.hush ≤ 3 ∧ r.need + r.ahead ≤ r.most ∧ r.most ≤ 10 ∧ 0 ≤ r.rest ∧ r.rest ≤ 3)
theorem okB_iff {r : Rec} : okB r = true ↔ r.Ok := by
  unfold okB
  rw [decide_eq_true_eq]
  exact okR_iff.symm
def partS (k : Nat) : Str := match k with
  | 0 => ("need" : Str)
  | 1 => ("ahead" : Str)
  | 2 => ("after" : Str)
  | 3 => ("most" : Str)
  | _ => ("rest" : Str)
def listR (r : Rec) : List D := [.int r.need, .int r.ahead, .int r.hush, .int r.most, .int r.rest]
theorem slice_to (r : Rec) (k : Nat) : sliceD (encR r) none (some (k : Int)) = some (.tuple ((listR r).take k)) := congrArg (fun l => some (PyData.tuple l)) (cut_to (xs := listR r) rfl)
theorem slice_fr (r : Rec) (k : Nat) : sliceD (encR r) (some ((k : Int) + 1)) none = some (.tuple ((listR r).drop (k + 1))) := congrArg (fun l => some (PyData.tuple l)) (cut_from (xs := listR r) (k := k + 1) rfl)
theorem put_slices (r : Rec) (n : Int) {k : Nat} (hk : k < 5) : ∃ A B C, sliceD (encR r) none (some (k : Int)) = some A ∧ sliceD (encR r) (some ((k : Int) + 1)) none = some B ∧ addD A (.tuple [.int n]) = some C ∧ addD C B = some (encR (putR r k n)) := by
  have h : ∃ C, addD (.tuple ((listR r).take k)) (.tuple [.int n]) = some C ∧ addD C (.tuple ((listR r).drop (k + 1))) = some (encR (putR r k n)) := by
    match k, hk with
    | 0, _ => exact ⟨_, rfl, rfl⟩
    | 1, _ => exact ⟨_, rfl, rfl⟩
    | 2, _ => exact ⟨_, rfl, rfl⟩
    | 3, _ => exact ⟨_, rfl, rfl⟩
    | 4, _ => exact ⟨_, rfl, rfl⟩
    | k + 5, h => omega
  obtain ⟨C, h1, h2⟩ := h
  exact ⟨_, _, C, slice_to r k, slice_fr r k, h1, h2⟩
theorem F_with_part_ok (r : Rec) (w : Wl) {k : Nat} (hk : k < 5) (n : Int) : F_with_part [.d (encPl r w), .d (.int (k : Int)), .d (.int n)] = .ret (encPl (putR r k n) w) none := by
  obtain ⟨A, B, C, e1, e2, e3, e4⟩ := put_slices r n hk
  unfold F_with_part g_with_part encPl
  generalize encR r = ER at *
  generalize encR (putR r k n) = EP at *
  generalize encW w = EW
  simp_arith only [e1, e2, e3, e4]
/-- none of some harms comes -/
noncomputable def okW (r : Rec) (w : Wl) (S : List Str) : Bool := (S.map PyData.str).all fun d => !hasF r w d
theorem F_is_good_ok {r : Rec} {w : Wl} (hw : w.Ok) {S : List Str} (hS : ∀ h ∈ S, h ∈ fiveS) (hl : S.length ≤ 5) : F_is_good [.d (encPl r w), .d (.tuple (S.map .str))] = .ret (.bool (okB r && okW r w S)) none := by
  obtain ⟨b, e, hb⟩ := F_is_plan_says (encPl r w)
  have eb : b = okB r := by
    have h1 : IsPlan (encPl r w) ↔ r.Ok := ⟨fun ⟨r', w', e, h1, _⟩ => by
      have e : PyData.tuple [encR r, encW w] = PyData.tuple [encR r', encW w'] := e
      have e2 : encR r = encR r' := by injection e with e; injection e
      have : r = r' := by
        unfold encR at e2
        obtain ⟨a, b, c, d, f⟩ := r
        obtain ⟨a', b', c', d', f'⟩ := r'
        injection e2 with e2
        injection e2 with z1 e2
        injection e2 with z2 e2
        injection e2 with z3 e2
        injection e2 with z4 e2
        injection e2 with z5 e2
        injection z1 with z1
        injection z2 with z2
        injection z3 with z3
        injection z4 with z4
        injection z5 with z5
        simp only at z1 z2 z3 z4 z5
        subst z1 z2 z3 z4 z5
        rfl
      rw [this]; exact h1, fun h => ⟨r, w, rfl, h, hw⟩⟩
    cases q : okB r with
    | true => exact hb.mpr (h1.mpr (okB_iff.mp q))
    | false =>
      cases b with
      | false => rfl
      | true =>
        have := okB_iff.mpr (h1.mp (hb.mp rfl))
        rw [q] at this
        cases this
  subst eb
  have il : itemsD (.tuple (S.map PyData.str)) = some (S.map PyData.str) := rfl
  unfold F_is_good g_is_good
  cases q : okB r with
  | false =>
    rw [q] at e
    generalize encPl r w = PL at e
    simp_arith only [e]
  | true =>
    have hr := okB_iff.mp q
    rw [q] at e
    have key : lcLoop [2] (G.nm 2) (M.ret true) E_is_good_1 (S.map PyData.str) [] [some (.d (encPl r w)), some (.d (.tuple (S.map .str))), none] = .ok ((S.map PyData.str).map fun d => .bool (!hasF r w d)) [some (.d (encPl r w)), some (.d (.tuple (S.map .str))), none] := by
      refine lcLoop_map _ _ (by rw [List.length_map, sizeLine_eq]; omega) fun x hx => ?_
      obtain ⟨h, hm, rfl⟩ := List.mem_map.mp hx
      obtain ⟨res, e1, _⟩ := first_both hr hw (hS h hm)
      have e5 : hasF r w (.str h) = !isNoneB (encW0 res) := by unfold hasF; rw [resF_eq e1]
      refine ⟨[some (.d (encPl r w)), some (.d (.tuple (S.map .str))), some (.d (.str h))], [some (.d (encPl r w)), some (.d (.tuple (S.map .str))), some (.d (.str h))], [some (.d (encPl r w)), some (.d (.tuple (S.map .str))), some (.d (.str h))], rfl, rfl, ?_, rfl⟩
      unfold E_is_good_1
      rw [e5]
      generalize encW0 res = X at e1
      generalize PyData.tuple (S.map PyData.str) = TS
      generalize F_first_by = FF at e1
      simp_arith only [e1]
      rw [Bool.not_not]
    unfold okW
    have al : allD [.list ((S.map PyData.str).map fun d => .bool (!hasF r w d))] = some (.bool ((S.map PyData.str).all fun d => !hasF r w d)) := all_lm _ _
    generalize hasF r w = HF at *
    generalize encPl r w = PL at *
    generalize (S.map PyData.str).map (fun d => PyData.bool (!HF d)) = R at *
    generalize ((S.map PyData.str).all fun d => !HF d) = RB at *
    generalize S.map PyData.str = L at *
    simp_arith only [e, il, key, al]
/-- the wishes -/
theorem sub5 {S : List Str} (h : S.Sublist fiveS) : ascA liS S = S := by
  have p5 : fiveS.Pairwise fun a b => liS a b = true := by decide +kernel
  exact asc_uniq slin_S (ascA_asc slin_S S) (p5.sublist h) fun z => mem_ascA z S
theorem ksS_map (S : List Str) : ksS (S.map .str) = some S := by
  induction S with
  | nil => rfl
  | cons x r ih => show (ksS (r.map .str)).map (x :: ·) = _; rw [ih]; rfl
theorem sortset_S {S : List Str} (h : S.Sublist fiveS) : sortsetD (.tuple (S.map .str)) = some (S.map .str) := by
  have hl : (S.map PyData.str).length < 60 := by have := h.length_le; rw [List.length_map]; exact Nat.lt_of_le_of_lt this (by decide)
  show sortsetL _ = _
  unfold sortsetL
  rw [if_pos hl]
  cases S with
  | nil => rfl
  | cons x r =>
    rw [show ksI ((x :: r).map PyData.str) = none from rfl]
    dsimp only
    rw [ksS_map, Option.map_some, sub5 h]
theorem sh_strs {S : List Str} (h : ∀ x ∈ S, x ∈ fiveS) : Sh 1 (.list (S.map .str)) := sh_lst (n := 0) fun x hx => by
  obtain ⟨h0, hm, rfl⟩ := List.mem_map.mp hx
  exact sh_str (strOk5 (h _ hm))
theorem wishes_turn (a : D) {h : Str} (hm : h ∈ fiveS) : B_look_at_wishes_1 [some (.d a), some (.d (.str h))] = .nx [some (.d a), some (.d (.str h))] := by
  have e := F_look_at_harm_ok hm
  unfold B_look_at_wishes_1
  generalize F_look_at_harm = FL at e
  simp_arith only [e]
theorem wishes_loop {S : List Str} (h : ∀ x ∈ S, x ∈ fiveS) (a : D) : ∃ b, forD (G.nm 1) B_look_at_wishes_1 (S.map .str) [some (.d a), none] = .nx [some (.d a), b] := by
  obtain ⟨ρ', e1, b, e2⟩ := forD_invN (G := G.nm 1) (g := B_look_at_wishes_1) (fun i ρ => ∃ b, ρ = [some (.d a), b]) (S.map .str) [some (.d a), none] ⟨none, rfl⟩ (fun i x ρ hx ⟨b, e⟩ => by
    subst e
    obtain ⟨h0, hm, rfl⟩ := List.mem_map.mp (List.mem_of_getElem? hx)
    refine ⟨_, rfl, ?_⟩
    show StepR _ _ (B_look_at_wishes_1 [some (.d a), some (.d (.str h0))])
    rw [wishes_turn a (h _ hm)]
    exact ⟨_, rfl⟩)
  rw [e1, e2]
  exact ⟨_, rfl⟩
theorem F_look_at_wishes_ok {S : List Str} (h : S.Sublist fiveS) : F_look_at_wishes [.d (.tuple (S.map .str))] = .ret .none none := by
  have hS : ∀ x ∈ S, x ∈ fiveS := fun x hx => h.subset hx
  obtain ⟨b, e1⟩ := wishes_loop hS (.tuple (S.map .str))
  have e2 := sortset_S h
  have il : itemsD (.tuple (S.map PyData.str)) = some (S.map PyData.str) := rfl
  have sl : seqOf [.tuple (S.map PyData.str)] = some (S.map PyData.str) := rfl
  have e3 := eqD_self (sh_strs hS) (by decide)
  have tt : tTuple (.tuple (S.map PyData.str)) = true := rfl
  unfold F_look_at_wishes g_look_at_wishes
  generalize S.map PyData.str = L at *
  simp_arith only [il]
  rw [e1]
  simp_arith only [sortset_ap, e2, e3, sl]
/-- good_values -/
noncomputable def goodD (r : Rec) (w : Wl) (k : Nat) (S : List Str) (d : D) : Bool := match d with
  | .int n => okB (putR r k n) && okW (putR r k n) w S
  | _ => false
theorem part_in {k : Nat} (hk : k < 5) : notInDD (.str (partS k)) cst_PARTS = some (.bool false) ∧ tidxD cst_PARTS (.str (partS k)) = some (.int (k : Int)) := by
  match k, hk with
  | 0, _ => exact ⟨rfl, rfl⟩
  | 1, _ => exact ⟨rfl, rfl⟩
  | 2, _ => exact ⟨rfl, rfl⟩
  | 3, _ => exact ⟨rfl, rfl⟩
  | 4, _ => exact ⟨rfl, rfl⟩
  | k + 5, h => omega
theorem F_look_at_part_ok {k : Nat} (hk : k < 5) : F_look_at_part [.d (.str (partS k))] = .ret .none none := by
  have e := (part_in hk).1
  unfold F_look_at_part g_look_at_part
  generalize cst_PARTS = H at e ⊢
  simp_arith only [e]
theorem range11 : range1D [.int 11] = some (rangeD 0 11) := range1_ok (j := 11)
theorem F_good_ok {r : Rec} (hr : r.Ok) {w : Wl} (hw : w.Ok) {k : Nat} (hk : k < 5) {S : List Str} (h : S.Sublist fiveS) : F_good_values [.d (encPl r w), .d (.str (partS k)), .d (.tuple (S.map .str))] = .retL ((rangeD 0 11).filter (goodD r w k S)) none := by
  have e1 := F_look_at_plan_ok hr hw
  have e2 := F_look_at_part_ok hk
  have e3 := F_look_at_wishes_ok h
  have e4 := (part_in hk).2
  have hS : ∀ x ∈ S, x ∈ fiveS := fun x hx => h.subset hx
  have key : lcLoop [4] (G.nm 4) T_good_values_1 E_good_values_1 (rangeD 0 11) [] [some (.d (encPl r w)), some (.d (.str (partS k))), some (.d (.tuple (S.map .str))), some (.d (.int (k : Int))), none] = .ok ((rangeD 0 11).filter (goodD r w k S)) [some (.d (encPl r w)), some (.d (.str (partS k))), some (.d (.tuple (S.map .str))), some (.d (.int (k : Int))), none] := by
    refine lcLoop_filter _ _ (by rw [rangeD_length, sizeLine_eq]; decide) fun x hx => ?_
    obtain ⟨i, rfl, h0, h1⟩ := mem_rangeD hx
    have f1 := F_with_part_ok r w hk i
    have f2 := F_is_good_ok (r := putR r k i) hw hS (by have := h.length_le; exact this)
    refine ⟨[some (.d (encPl r w)), some (.d (.str (partS k))), some (.d (.tuple (S.map .str))), some (.d (.int (k : Int))), some (.d (.int i))], [some (.d (encPl r w)), some (.d (.str (partS k))), some (.d (.tuple (S.map .str))), some (.d (.int (k : Int))), some (.d (.int i))], rfl, ?_, fun _ => ⟨[some (.d (encPl r w)), some (.d (.str (partS k))), some (.d (.tuple (S.map .str))), some (.d (.int (k : Int))), some (.d (.int i))], ?_, rfl⟩, fun _ => rfl⟩
    · unfold T_good_values_1
      show _ = R.ok (okB (putR r k i) && okW (putR r k i) w S) _
      generalize (okB (putR r k i) && okW (putR r k i) w S) = BB at *
      generalize encPl (putR r k i) w = PP at *
      generalize encPl r w = PL at *
      generalize PyData.tuple (S.map PyData.str) = TS at *
      simp_arith only [f1, f2]
    · unfold E_good_values_1
      simp_arith only [true_and]
  unfold F_good_values g_good_values
  generalize encPl r w = PL at *
  generalize PyData.tuple (S.map PyData.str) = TS at *
  generalize (rangeD 0 11).filter (goodD r w k S) = RR at *
  generalize partS k = ps at *
  generalize cst_PARTS = CP at *
  simp_arith only [e1, e2, e3, tidx_ap, e4, range11, key]
/-! ### the law's side -/
theorem F_lets_ok (r : Rec) : F_f_law_lets [.d (encR r)] = .ret (.bool (okB r)) none := by
  have h : okB r = ((decide (1 ≤ r.need) && decide (r.need ≤ 3)) && ((decide (0 ≤ r.ahead) && decide (r.ahead ≤ 3)) && ((decide (1 ≤ r.hush) && decide (r.hush ≤ 3)) && ((decide (r.need + r.ahead ≤ r.most) && decide (r.most ≤ 10)) && (decide (0 ≤ r.rest) && decide (r.rest ≤ 3)))))) := by
    rw [Bool.eq_iff_iff]
    unfold okB
    simp only [decide_eq_true_eq, Bool.and_eq_true]
    omega
  rw [h]
  unfold F_f_law_lets g_f_law_lets encR
  obtain ⟨a, b, c, d, e⟩ := r
  dsimp only
  by_cases h1 : 1 ≤ a <;> by_cases h2 : a ≤ 3 <;> by_cases h3 : 0 ≤ b <;> by_cases h4 : b ≤ 3 <;> by_cases h5 : 1 ≤ c <;> by_cases h6 : c ≤ 3 <;> simp_arith only [h1, h2, h3, h4, h5, h6]
  by_cases h7 : a + b ≤ d <;> by_cases h8 : d ≤ 10 <;> by_cases h9 : 0 ≤ e <;> simp_arith only [h7, h8, h9]
theorem part_ix {k : Nat} (hk : k < 5) : ixD (.list [PyData.str ("need" : Str), .str ("ahead" : Str), .str ("after" : Str), .str ("most" : Str), .str ("rest" : Str)]) (.int (k : Int)) = some (.str (partS k)) := by
  match k, hk with
  | 0, _ => rfl
  | 1, _ => rfl
  | 2, _ => rfl
  | 3, _ => rfl
  | 4, _ => rfl
  | k + 5, h => omega
theorem filter_empty (p : D → Bool) : ∀ l : List D, (l.filter p).isEmpty = l.all fun d => !p d
  | [] => rfl
  | x :: l => by
    cases q : p x with
    | true => rw [List.filter_cons_of_pos q, List.all_cons, q]; rfl
    | false => rw [List.filter_cons_of_neg (by rw [q]; decide), List.all_cons, q, filter_empty p l]; rfl
theorem bad_loop {r : Rec} (hr : r.Ok) {w : Wl} (hw : w.Ok) {S : List Str} (hS : ∀ x ∈ S, x ∈ fiveS) (hl : S.length ≤ 5) (a0 a1 a2 a3 a4 a6 a7 a8 a9 a10 a12 : Option LV) :
    lcLoop [13] (G.nm 13) T_law_4 E_law_4 (S.map .str) [] [a0, a1, a2, a3, a4, some (.d (encW w)), a6, a7, a8, a9, a10, some (.d (encR r)), a12, none] =
      .ok ((S.map PyData.str).filter (hasF r w)) [a0, a1, a2, a3, a4, some (.d (encW w)), a6, a7, a8, a9, a10, some (.d (encR r)), a12, none] := by
  refine lcLoop_filter _ _ (by rw [List.length_map, sizeLine_eq]; omega) fun x hx => ?_
  obtain ⟨h, hm, rfl⟩ := List.mem_map.mp hx
  obtain ⟨res, e1, e2⟩ := first_both hr hw (hS h hm)
  have e5 : hasF r w (.str h) = !isNoneB (encW0 res) := by unfold hasF; rw [resF_eq e1]
  have ep : PyData.tuple [encR r, encW w] = encPl r w := rfl
  refine ⟨[a0, a1, a2, a3, a4, some (.d (encW w)), a6, a7, a8, a9, a10, some (.d (encR r)), a12, some (.d (.str h))], [a0, a1, a2, a3, a4, some (.d (encW w)), a6, a7, a8, a9, a10, some (.d (encR r)), a12, some (.d (.str h))], rfl, ?_, fun _ => ⟨[a0, a1, a2, a3, a4, some (.d (encW w)), a6, a7, a8, a9, a10, some (.d (encR r)), a12, some (.d (.str h))], ?_, rfl⟩, fun _ => rfl⟩
  · rw [e5]
    unfold T_law_4
    generalize encW0 res = X at e2
    generalize F_f_law_first = FF at e2
    simp_arith only [ep, e2]
  · unfold E_law_4
    simp_arith only [true_and]
theorem turn3w {r : Rec} {w : Wl} (hw : w.Ok) {k : Nat} (hk : k < 5) {S : List Str} (hS : ∀ x ∈ S, x ∈ fiveS) (hl : S.length ≤ 5) (L : List D) (hL : L.length ≤ 100) (i : Int) (a0 a1 a2 a3 a6 a11 a12 : Option LV) :
    ∃ b11 b12, B_law_3 [a0, a1, a2, a3, some (.d (encR r)), some (.d (encW w)), a6, some (.d (.int (k : Int))), some (.d (.list (S.map .str))), some (.d (.list L)), some (.d (.int i)), a11, a12, none] =
      .nx [a0, a1, a2, a3, some (.d (encR r)), some (.d (encW w)), a6, some (.d (.int (k : Int))), some (.d (.list (S.map .str))), some (.d (.list (L ++ if goodD r w k S (.int i) = true then [.int i] else []))), some (.d (.int i)), b11, b12, none] := by
  obtain ⟨A, B, C, e1, e2, e3, e4⟩ := put_slices r i hk
  have e5 := F_lets_ok (putR r k i)
  have eg : goodD r w k S (.int i) = (okB (putR r k i) && okW (putR r k i) w S) := rfl
  rw [eg]
  cases q : okB (putR r k i) with
  | false =>
    rw [q] at e5
    unfold B_law_3
    generalize encR r = ER at *
    generalize encR (putR r k i) = EP at *
    simp_arith only [e1, e2, e3, e4, e5, List.append_nil]
    exact ⟨_, _, rfl⟩
  | true =>
    rw [q] at e5
    have hr := okB_iff.mp q
    have e6 := bad_loop hr hw hS hl a0 a1 a2 a3 (some (.d (encR r))) a6 (some (.d (.int (k : Int)))) (some (.d (.list (S.map .str)))) (some (.d (.list L))) (some (.d (.int i))) a12
    have il : itemsD (.list (S.map PyData.str)) = some (S.map PyData.str) := rfl
    have e7 : eqD (.list ((S.map PyData.str).filter (hasF (putR r k i) w))) (.list []) = some (okW (putR r k i) w S) := by
      rw [eqD_lnil (n := 1) (sh_lst (n := 0) fun x hx => ?_) (by decide), filter_empty]
      · rfl
      · obtain ⟨h, hm, rfl⟩ := List.mem_map.mp (List.mem_filter.mp hx).1
        exact sh_str (strOk5 (hS _ hm))
    have e8 := rep01 (.int i) (okW (putR r k i) w S)
    have e9 := catD_ll' L (if (okW (putR r k i) w S) = true then [PyData.int i] else []) (by rw [sizeLine_eq]; split <;> simp <;> omega)
    unfold B_law_3
    generalize okW (putR r k i) w S = OW at *
    generalize hasF (putR r k i) w = HF at *
    generalize encR r = ER at *
    generalize encR (putR r k i) = EP at *
    generalize (S.map PyData.str).filter HF = FL at *
    generalize S.map PyData.str = SL at *
    simp_arith! only [e1, e2, e3, e4, e5, il, e6, e7, e8, e9]
    exact ⟨_, _, rfl⟩
end K8

set_option maxRecDepth 100000
set_option maxHeartbeats 4000000
set_option synthInstance.maxSize 8000
set_option synthInstance.maxHeartbeats 400000
namespace K8
open PySem PySem.Spec L2 PD
local macro_rules
  | `(tactic| simp_arith only [$a,*]) => `(tactic| simp only [ret_ap, lift_some, lift_none, var_ap, varR_d, ownAt_ap, ownL_own, ownL_d, ownL_n, frzAt_ap, frzL_own, frzL_d, frz_nil, frz_cons, frz1_own, frz1_d, frz1_n, wipe_nil, wipe_cons, restore_nil, restore_cons, clean_nil, clean_cons, isOwnL_own, isOwnL_d, isOwnL_k, frz1_k, frzL_k, ownL_k, isOwnL_n, bind_ap, bindR_ok, bindR_ex, bindR_bad, ofM_ap, ofR_ok, ofR_ex, ofR_bad, seq_ap, seqR_nx, seqR_rt, seqR_rl, seqR_bk, seqR_ct, seqR_ex, seqR_bad, nil_ap, pass_ap, never_ap, brk_ap, cnt_ap, retN_ap, sret_ap, sretL_ap, drop_ap, site_ap, asg_ap, own_ap, par2_ap, par3_ap, asgT_ap, asgR_some, asgR_none, gnm_ap, gnil_ap, gcons_ap, gtup_ap, andV_ap, orV_ap, andT_ap, orT_ap, notT_ap, test_ap, op1_ap, op2_ap, chain_ap, mite_ap, ite_apR, ite_apS, argN_ap, argD_ap, argS_ap, slotR_some, tup_ap, lst_ap, known_ap, call_ap, callL_ap, listL_ap, seqOf_l, seqOf_t, items_ap, part_ap, slice_ap, catL_ap, frz_ap, borrow_ap, borrowR_ok, borrowT_ap, borrowTR_ok, subO_ap, app_ap, setIx_ap, retO_ap, for_ap, lc_ap, lcR_ok, fn_ap, fnL_ap, fnR_some, fnLR_some, retR_ret, retR_retL, retLR_retL, putR_some, putO_none, putO_s0, putO_s1, putO_s2, putO_s3, putO_s4, endR_rt, endR_rl, endR_nx, endR_bad, bindR_ite, ofR_ite, seqR_ite, endR_ite, lift_ite, pop_ap, popR_snoc, dctAt_ap, dctL_k, dctL_o, dctL_d, dctL_n, inK_ap, subK_ap, slotKR_some, setK_ap, slotKF_some, setKR_some, parN_ap, parR_ok, setN_nil, setN_cons, nC_ap, nL_ap, nD_ap, dict1_ap, new_ap, repL_ap, addD_ii, addD_ss, addD_tt, subD_ii, mulD_ii, fdivD_ii, modD_ii, powD_ii, negD_i, ltD_ii, leD_ii, gtD_ii, geD_ii, ixD_l, ixD_t, catD_ll, itemsD_l, itemsD_t, lenD_l, lenD_t, lenD_s, absD_i, maxD_ii, minD_ii, intD_i, intD_b, tupleD_l, tupleD_t, notD_b, asB_b, asI_i, eqD_ii, eqD_ss, eqD_bb, eqD_si, eqD_is, eqD_nn, eqD_nb, eqD_ni, eqD_ns, eqD_bn, eqD_in, eqD_sn, tInt_none, tInt_bool, tInt_int, tInt_str, tInt_tuple, tInt_list, tInt_dict, tBool_none, tBool_bool, tBool_int, tBool_str, tBool_tuple, tBool_list, tBool_dict, tStr_none, tStr_bool, tStr_int, tStr_str, tStr_tuple, tStr_list, tStr_dict, tTuple_none, tTuple_bool, tTuple_int, tTuple_str, tTuple_tuple, tTuple_list, tTuple_dict, tList_none, tList_bool, tList_int, tList_str, tList_tuple, tList_list, tList_dict, tSeq_none, tSeq_bool, tSeq_int, tSeq_str, tSeq_tuple, tSeq_list, tSeq_dict, isNoneB_none, scalarD_none, isNoneB_bool, scalarD_bool, isNoneB_int, scalarD_int, isNoneB_str, scalarD_str, isNoneB_tuple, scalarD_tuple, isNoneB_list, scalarD_list, isNoneB_dict, scalarD_dict, ixT0, ixT1, ixT2, ixT3, ixT4, ixT5, ixT6, ixT7, ixT8, ixT9, ixL0, ixL1, ixL2, ixL3, ixL4, ixL5, ixL6, ixL7, ixL8, ixL9, aI0, aI1, aI2, aI3, aI4, aI5, aI6, aI7, aI8, aI9, ixN1_0, ixN2_0, ixN2_1, ixN3_0, ixN3_1, ixN3_2, ixN4_0, ixN4_1, ixN4_2, ixN4_3, ixN5_0, ixN5_1, ixN5_2, ixN5_3, ixN5_4, ixN6_0, ixN6_1, ixN6_2, ixN6_3, ixN6_4, ixN6_5, List.map_cons, List.map_nil, List.cons_append, List.nil_append, List.replicate_zero, List.replicate_succ, List.length_cons, List.length_nil, List.getElem?_cons_zero, List.getElem?_cons_succ, List.set_cons_zero, List.set_cons_succ, List.getD_cons_zero, List.getD_cons_succ, Bool.and_true, Bool.true_and, Bool.not_false, Bool.not_true, Nat.sub_self, Nat.reduceSub, Nat.reduceAdd, Nat.zero_add, true_and, and_true, and_self, if_true, if_false, ite_true, ite_false, reduceCtorEq, false_implies, implies_true, forall_const, Bool.false_eq_true, Option.bind_some, Option.map_some, Option.bind_none, Option.map_none, runF_eq, okIo, datOf, lvsOf, argIo, isD, outO, isND, notND, vals2D, vals3D, eqDD, neDD, decide_true, decide_false, Bool.decide_eq_true, sz0, sz1, sz2, sz3, sz4, sz5, sz6, sz7, sz8, sz9, sz10, sz11, sz12, sz13, sz14, sz15, sz16, sz17, sz18, sz19, sz20, sz21, sz22, sz23, sz24, sz25, sz26, sz27, sz28, sz29, sz30, sz31, sz32, sz33, sz34, sz35, sz36, sz37, sz38, sz39, sz40, slice_t, all_t, all_l, any_l, all_lm, all_tm, any_lm, Function.comp_def, step_nx, step_ct, step_bk, step_rt, step_rl, step_ite, decide_eq_true_eq, Int.cast_ofNat_Int, Int.reduceLE, Int.reduceLT, Int.reduceAdd, Int.reduceSub, Int.reduceMul, Int.reduceNeg, Int.reduceEq, Int.reduceGT, Nat.reduceEqDiff, ne_eq, not_false_eq_true, Option.some.injEq, forall_eq', Nat.reduceLT, Bool.and_false, Bool.or_false, Bool.false_or, Bool.true_or, Bool.false_and, Bool.or_true, $a,*])
/-! ### the law's loops -/
theorem sliceL_ap' (f : M D) (l u : M (Option Int)) (ρ : DE) : M.sliceL f l u ρ = M.bind f (fun x => M.bind l fun a => M.bind u fun b => M.lift (match x with | .list xs => some (cutD xs a b) | _ => none)) ρ := rfl
theorem lcLoop_sub {vs : List Nat} {G : Gt} {tt : M Bool} {te : M D} (I : DE → Prop) : ∀ (xs acc : List D) (ρ : DE), I ρ → acc.length + xs.length ≤ sizeLine →
    (∀ x ∈ xs, ∀ ρ, I ρ → ∃ ρ1 b ρ2, G x ρ = some ρ1 ∧ tt ρ1 = .ok b ρ2 ∧ (b = true → ∃ ρ3, te ρ2 = .ok x ρ3 ∧ I (wipeD ρ3 vs)) ∧ (b = false → I (wipeD ρ2 vs))) →
    ∃ ys ρ', lcLoop vs G tt te xs acc ρ = .ok (acc ++ ys) ρ' ∧ I ρ' ∧ ys.Sublist xs
  | [], acc, ρ, hI, _, _ => ⟨[], ρ, by simp [lcLoop], hI, List.Sublist.slnil⟩
  | x :: r, acc, ρ, hI, hl, h => by
    obtain ⟨ρ1, b, ρ2, h1, h2, h3, h4⟩ := h x List.mem_cons_self ρ hI
    rw [List.length_cons] at hl
    cases b with
    | true =>
      obtain ⟨ρ3, h5, h6⟩ := h3 rfl
      obtain ⟨ys, ρ', e, hI', sb⟩ := lcLoop_sub I r (acc ++ [x]) (wipeD ρ3 vs) h6 (by rw [List.length_append, List.length_singleton]; omega) fun y hy => h y (List.mem_cons_of_mem _ hy)
      refine ⟨x :: ys, ρ', ?_, hI', sb.cons₂ x⟩
      unfold lcLoop
      simp only [h1, h2, if_true, h5]
      rw [if_pos (by omega), e, List.append_assoc]
      rfl
    | false =>
      obtain ⟨ys, ρ', e, hI', sb⟩ := lcLoop_sub I r acc (wipeD ρ2 vs) (h4 rfl) (by omega) fun y hy => h y (List.mem_cons_of_mem _ hy)
      refine ⟨ys, ρ', ?_, hI', sb.cons x⟩
      unfold lcLoop
      simp only [h1, h2, Bool.false_eq_true, if_false]
      exact e
theorem some_loop {xs : List D} (hx : SpV xs) (a0 a1 a2 a4 a5 a6 a7 a8 a9 a10 a11 a12 : Option LV) :
    ∃ ys zs, lcLoop [13] (G.nm 13) T_law_5 E_law_5 (fiveS.map .str) [] [a0, a1, a2, some (.own xs), a4, a5, a6, a7, a8, a9, a10, a11, a12, none] = .ok ys [a0, a1, a2, some (.own zs), a4, a5, a6, a7, a8, a9, a10, a11, a12, none] ∧ SpV zs ∧ ys.Sublist (fiveS.map .str) := by
  obtain ⟨ys, ρ', e, ⟨zs, hz, e2⟩, sb⟩ := lcLoop_sub (vs := [13]) (G := G.nm 13) (tt := T_law_5) (te := E_law_5) (fun ρ => ∃ zs, SpV zs ∧ ρ = [a0, a1, a2, some (.own zs), a4, a5, a6, a7, a8, a9, a10, a11, a12, none]) (fiveS.map .str) [] _ ⟨xs, hx, rfl⟩ (by rw [List.length_map, sizeLine_eq]; decide) (by
    intro x _ ρ ⟨zs, hz, e⟩
    subst e
    obtain ⟨i, us, e1, hu, h0, h1⟩ := F_pick_ok hz (m := 3) (by decide) (by decide)
    refine ⟨[a0, a1, a2, some (.own zs), a4, a5, a6, a7, a8, a9, a10, a11, a12, some (.d x)], decide (i = 0), [a0, a1, a2, some (.own us), a4, a5, a6, a7, a8, a9, a10, a11, a12, some (.d x)], rfl, ?_, fun _ => ⟨[a0, a1, a2, some (.own us), a4, a5, a6, a7, a8, a9, a10, a11, a12, some (.d x)], ?_, us, hu, rfl⟩, fun _ => ⟨us, hu, rfl⟩⟩
    · unfold T_law_5
      simp_arith only [e1]
    · unfold E_law_5
      simp_arith only [true_and])
  subst e2
  exact ⟨ys, zs, e, hz, sb⟩
theorem sub_strs {ys : List D} (h : ys.Sublist (fiveS.map PyData.str)) : ∃ S : List Str, ys.take 2 = S.map .str ∧ S.Sublist fiveS := by
  obtain ⟨S, hS, e⟩ := List.sublist_map_iff.mp ((List.take_sublist 2 ys).trans h)
  exact ⟨S, e, hS⟩
theorem loop3 {r : Rec} {w : Wl} (hw : w.Ok) {k : Nat} (hk : k < 5) {S : List Str} (h : S.Sublist fiveS) (a0 a1 a2 a3 a6 a10 a11 a12 : Option LV) :
    ∃ b10 b11 b12, forD (G.nm 10) B_law_3 (rangeD 0 11) [a0, a1, a2, a3, some (.d (encR r)), some (.d (encW w)), a6, some (.d (.int (k : Int))), some (.d (.list (S.map .str))), some (.d (.list [])), a10, a11, a12, none] =
      .nx [a0, a1, a2, a3, some (.d (encR r)), some (.d (encW w)), a6, some (.d (.int (k : Int))), some (.d (.list (S.map .str))), some (.d (.list ((rangeD 0 11).filter (goodD r w k S)))), b10, b11, b12, none] := by
  have hS : ∀ x ∈ S, x ∈ fiveS := fun x hx => h.subset hx
  obtain ⟨ρ', e1, b10, b11, b12, e2⟩ := forD_invN (G := G.nm 10) (g := B_law_3) (fun i ρ => ∃ b10 b11 b12, ρ = [a0, a1, a2, a3, some (.d (encR r)), some (.d (encW w)), a6, some (.d (.int (k : Int))), some (.d (.list (S.map .str))), some (.d (.list (((rangeD 0 11).take i).filter (goodD r w k S)))), b10, b11, b12, none]) (rangeD 0 11) _ ⟨a10, a11, a12, rfl⟩ (fun i x ρ hx ⟨b10, b11, b12, e⟩ => by
    subst e
    obtain ⟨rfl, hi⟩ := get_rangeD hx
    refine ⟨_, rfl, ?_⟩
    obtain ⟨c11, c12, e3⟩ := turn3w (r := r) hw hk hS (by have := h.length_le; exact this) (((rangeD 0 11).take i).filter (goodD r w k S)) (by
      have h1 := List.length_filter_le (goodD r w k S) ((rangeD 0 11).take i)
      have h2 : ((rangeD 0 11).take i).length ≤ 11 := by rw [List.length_take]; exact Nat.le_trans (Nat.min_le_right _ _) (by rw [rangeD_length]; decide)
      omega) ((0 : Int) + i) a0 a1 a2 a3 a6 b11 b12
    rw [filter_take _ _ _ _ hx]
    show StepR _ _ (B_law_3 [a0, a1, a2, a3, some (.d (encR r)), some (.d (encW w)), a6, some (.d (.int (k : Int))), some (.d (.list (S.map .str))), some (.d (.list (((rangeD 0 11).take i).filter (goodD r w k S)))), some (.d (.int ((0 : Int) + i))), b11, b12, none])
    rw [e3]
    exact ⟨_, _, _, rfl⟩)
  rw [List.take_zero, List.filter_nil] at e1
  rw [e1, e2, List.take_length]
  exact ⟨_, _, _, rfl⟩
def partsL : List D := [PyData.str ("need" : Str), .str ("ahead" : Str), .str ("after" : Str), .str ("most" : Str), .str ("rest" : Str)]
theorem part_ixL {k : Nat} (hk : k < 5) : ixD (.list partsL) (.int (k : Int)) = some (.str (partS k)) := part_ix hk
theorem turn2w {r : Rec} (hr : r.Ok) {w : Wl} (hw : w.Ok) {xs : List D} (hx : SpV xs) (a0 a2 a6 a7 a8 a9 a10 a11 a12 : Option LV) :
    ∃ zs b7 b8 b9 b10 b11 b12, SpV zs ∧ B_law_2 [a0, some (.d (.list partsL)), a2, some (.own xs), some (.d (encR r)), some (.d (encW w)), a6, a7, a8, a9, a10, a11, a12, none] =
      .nx [a0, some (.d (.list partsL)), a2, some (.own zs), some (.d (encR r)), some (.d (encW w)), a6, b7, b8, b9, b10, b11, b12, none] := by
  obtain ⟨i, ys, e1, hy, h0, h1⟩ := F_pick_ok hx (m := 5) (by decide) (by decide)
  obtain ⟨k, rfl⟩ := Int.eq_ofNat_of_zero_le h0
  have hk : k < 5 := by omega
  obtain ⟨us, zs, e2, hz, sb⟩ := some_loop hy a0 (some (.d (.list partsL))) a2 (some (.d (encR r))) (some (.d (encW w))) a6 (some (.d (.int (k : Int)))) a8 a9 a10 a11 a12
  obtain ⟨S, e3, hS⟩ := sub_strs sb
  have cu : cutD us none (some 2) = S.map .str := by rw [cut_to (i := 2) (k := 2) rfl, e3]
  obtain ⟨b10, b11, b12, e4⟩ := loop3 (r := r) hw hk hS a0 (some (.d (.list partsL))) a2 (some (.own zs)) a6 a10 a11 a12
  have e5 := F_good_ok hr hw hk hS
  have e6 := part_ixL hk
  have ep : PyData.tuple [encR r, encW w] = encPl r w := rfl
  have t2 : F_f_law_twins 8 [.d (.list ((rangeD 0 11).filter (goodD r w k S))), .d (.list ((rangeD 0 11).filter (goodD r w k S)))] = .ret (.bool true) none := twins2 ((sh_lst (n := 0) fun x hx => by
    obtain ⟨i, rfl, _, _⟩ := mem_rangeD (List.mem_filter.mp hx).1
    exact sh_int _).up (by decide))
  have il : itemsD (.list [PyData.str ("early" : Str), .str ("joined" : Str), .str ("late" : Str), .str ("lost" : Str), .str ("parted" : Str)]) = some (fiveS.map PyData.str) := rfl
  have tl : tupleD [.list (S.map PyData.str)] = some (.tuple (S.map PyData.str)) := rfl
  generalize (rangeD 0 11).filter (goodD r w k S) = GL at *
  generalize fiveS.map PyData.str = F5 at e2 il
  generalize S.map PyData.str = SL at *
  unfold B_law_2
  generalize partsL = PP at *
  generalize encR r = ER at *
  generalize encW w = EW at *
  simp_arith only [e1, il, e2, sliceL_ap', cu, range11]
  rw [e4]
  simp_arith only [ep, e6, tl, e5, t2]
  exact ⟨zs, _, _, _, _, _, _, hz, rfl⟩
theorem range_1 : range1D [.int 1] = some [.int 0] := rfl
theorem F_turn {ns : List Int} (hb : ∀ n ∈ ns, n.natAbs.log2 ≤ 1048576) (hl : ns.length ≤ 1000) {c : Int} (h0 : 0 ≤ c) (h1 : c ≤ 1000) (a3 a4 a5 a6 a7 a8 a9 a10 a11 a12 : Option LV) :
    ∃ b3 b4 b5 b6 b7 b8 b9 b10 b11 b12, B_law_1 [some (.d (.list (ns.map .int))), some (.d (.list partsL)), some (.d (.int c)), a3, a4, a5, a6, a7, a8, a9, a10, a11, a12, none] =
      .nx [some (.d (.list (ns.map .int))), some (.d (.list partsL)), some (.d (.int c)), b3, b4, b5, b6, b7, b8, b9, b10, b11, b12, none] := by
  obtain ⟨xs, e1, s1⟩ := F_spring_ok hb hl h0 h1
  obtain ⟨r, ys, e2, hr, s2⟩ := F_recorder_ok s1
  obtain ⟨w, zs, e3, hw, s3⟩ := F_world_ok s2
  obtain ⟨us, b7, b8, b9, b10, b11, b12, _, e4⟩ := turn2w hr hw s3 (some (.d (.list (ns.map .int)))) (some (.d (.int c))) (some (.d (.int 0))) a7 a8 a9 a10 a11 a12
  have e5 : forD (G.nm 6) B_law_2 [.int 0] [some (.d (.list (ns.map .int))), some (.d (.list partsL)), some (.d (.int c)), some (.own zs), some (.d (encR r)), some (.d (encW w)), a6, a7, a8, a9, a10, a11, a12, none] =
      .nx [some (.d (.list (ns.map .int))), some (.d (.list partsL)), some (.d (.int c)), some (.own us), some (.d (encR r)), some (.d (encW w)), some (.d (.int 0)), b7, b8, b9, b10, b11, b12, none] := by
    obtain ⟨ρ', f1, f2⟩ := forD_invN (G := G.nm 6) (g := B_law_2) (fun i ρ => ρ = if i = 0 then [some (.d (.list (ns.map .int))), some (.d (.list partsL)), some (.d (.int c)), some (.own zs), some (.d (encR r)), some (.d (encW w)), a6, a7, a8, a9, a10, a11, a12, none] else [some (.d (.list (ns.map .int))), some (.d (.list partsL)), some (.d (.int c)), some (.own us), some (.d (encR r)), some (.d (encW w)), some (.d (.int 0)), b7, b8, b9, b10, b11, b12, none]) [.int 0] _ rfl (fun i x ρ hx e => by
      cases i with
      | succ i => simp at hx
      | zero =>
        cases hx
        subst e
        refine ⟨_, rfl, ?_⟩
        show StepR _ _ (B_law_2 [some (.d (.list (ns.map .int))), some (.d (.list partsL)), some (.d (.int c)), some (.own zs), some (.d (encR r)), some (.d (encW w)), some (.d (.int 0)), a7, a8, a9, a10, a11, a12, none])
        rw [e4]
        exact rfl)
    rw [if_pos rfl] at f1
    rw [f1, f2]
    rfl
  generalize partsL = PP at *
  unfold B_law_1
  simp_arith only [e1, e2, e3, range_1]
  rw [e5]
  exact ⟨_, _, _, _, _, _, _, _, _, _, rfl⟩
theorem F_law_ok {ns : List Int} (hb : ∀ n ∈ ns, n.natAbs.log2 ≤ 1048576) (hl : ns.length ≤ 1000) : F_law [.d (.list (ns.map .int))] = .ret (.bool true) none := by
  unfold F_law
  simp_arith only [true_and]
  unfold g_law
  have pl : [PyData.str ("need" : Str), .str ("ahead" : Str), .str ("after" : Str), .str ("most" : Str), .str ("rest" : Str)] = partsL := rfl
  have pz : partsL.length ≤ sizeLine := by rw [sizeLine_eq]; decide
  simp_arith only [List.length_map, pl, pz, range1_ok (j := (if (1 : Int) < ns.length then 1 else (ns.length : Int)) + 1) (by split <;> omega) (by split <;> omega)]
  obtain ⟨ρ1, e1, a2, a3, a4, a5, a6, a7, a8, a9, a10, a11, a12, rfl⟩ := forD_invN (G := G.nm 2) (g := B_law_1)
    (fun i ρ => ∃ a2 a3 a4 a5 a6 a7 a8 a9 a10 a11 a12, ρ = [some (LV.d (.list (ns.map .int))), some (.d (.list partsL)), a2, a3, a4, a5, a6, a7, a8, a9, a10, a11, a12, none]) (rangeD 0 ((if (1 : Int) < ns.length then 1 else (ns.length : Int)) + 1).toNat) [some (LV.d (.list (ns.map .int))), some (.d (.list partsL)), none, none, none, none, none, none, none, none, none, none, none, none] ⟨_, _, _, _, _, _, _, _, _, _, _, rfl⟩ (by
      intro i x ρ hx hI
      obtain ⟨rfl, hi⟩ := get_rangeD hx
      obtain ⟨a2, a3, a4, a5, a6, a7, a8, a9, a10, a11, a12, rfl⟩ := hI
      refine ⟨_, rfl, ?_⟩
      have hat : (0 : Int) + i ≤ 1000 := by split at hi <;> omega
      obtain ⟨b3, b4, b5, b6, b7, b8, b9, b10, b11, b12, e⟩ := F_turn hb hl (c := (0 : Int) + i) (by omega) hat a3 a4 a5 a6 a7 a8 a9 a10 a11 a12
      simp_arith only [e]
      exact ⟨_, _, _, _, _, _, _, _, _, _, _, rfl⟩)
  rw [e1]
  simp_arith only [pz]
end K8

set_option maxRecDepth 100000
set_option maxHeartbeats 4000000
namespace K8
open PySem PySem.Spec L2 PD
section
theorem all_mk {l : PySem.W.OpenLaw} {w : World} {K : PySem.W.Frag} {h : Heap} {mg : Str → Option Value} {fa : Addr} (X : K.In h) (G : h.Ns mainGlobals mg) (hfa : mg "law" = some (.ref fa))
    {f12 f13 f14 f15 f16 f17 f18 f19 f20 f22 f23 f27 f28 f29 f30 f31 f32 f33 f34 f35 f36 f37 f38 f40 f41 f42 f44 f45 f46 f47 f48 f49 f50 f51 f52 f53 f54 f55 f56 f57 f58 f59 : Addr} {od12 an12 od13 an13 od14 an14 od15 an15 od16 an16 od17 an17 od18 an18 od19 an19 od20 an20 od22 an22 od23 an23 od27 an27 od28 an28 od29 an29 od30 an30 od31 an31 od32 an32 od33 an33 od34 an34 od35 an35 od36 an36 od37 an37 od38 an38 od40 an40 od41 an41 od42 an42 od44 an44 od45 an45 od46 an46 od47 an47 od48 an48 od49 an49 od50 an50 od51 an51 od52 an52 od53 an53 od54 an54 od55 an55 od56 an56 od57 an57 od58 an58 od59 an59 : Option Addr} {sl12 sl13 sl14 sl15 sl16 sl17 sl18 sl19 sl20 sl22 sl23 sl27 sl28 sl29 sl30 sl31 sl32 sl33 sl34 sl35 sl36 sl37 sl38 sl40 sl41 sl42 sl44 sl45 sl46 sl47 sl48 sl49 sl50 sl51 sl52 sl53 sl54 sl55 sl56 sl57 sl58 sl59 : Array (Option Value)}
    {oc12 kV12 dc12 pm12 cd12 ct12 oc13 kV13 dc13 pm13 cd13 ct13 oc14 kV14 dc14 pm14 cd14 ct14 oc15 kV15 dc15 pm15 cd15 ct15 oc16 kV16 dc16 pm16 cd16 ct16 oc17 kV17 dc17 pm17 cd17 ct17 oc18 kV18 dc18 pm18 cd18 ct18 oc19 kV19 dc19 pm19 cd19 ct19 oc20 kV20 dc20 pm20 cd20 ct20 oc22 kV22 dc22 pm22 cd22 ct22 oc23 kV23 dc23 pm23 cd23 ct23 oc27 kV27 dc27 pm27 cd27 ct27 oc28 kV28 dc28 pm28 cd28 ct28 oc29 kV29 dc29 pm29 cd29 ct29 oc30 kV30 dc30 pm30 cd30 ct30 oc31 kV31 dc31 pm31 cd31 ct31 oc32 kV32 dc32 pm32 cd32 ct32 oc33 kV33 dc33 pm33 cd33 ct33 oc34 kV34 dc34 pm34 cd34 ct34 oc35 kV35 dc35 pm35 cd35 ct35 oc36 kV36 dc36 pm36 cd36 ct36 oc37 kV37 dc37 pm37 cd37 ct37 oc38 kV38 dc38 pm38 cd38 ct38 oc40 kV40 dc40 pm40 cd40 ct40 oc41 kV41 dc41 pm41 cd41 ct41 oc42 kV42 dc42 pm42 cd42 ct42 oc44 kV44 dc44 pm44 cd44 ct44 oc45 kV45 dc45 pm45 cd45 ct45 oc46 kV46 dc46 pm46 cd46 ct46 oc47 kV47 dc47 pm47 cd47 ct47 oc48 kV48 dc48 pm48 cd48 ct48 oc49 kV49 dc49 pm49 cd49 ct49 oc50 kV50 dc50 pm50 cd50 ct50 oc51 kV51 dc51 pm51 cd51 ct51 oc52 kV52 dc52 pm52 cd52 ct52 oc53 kV53 dc53 pm53 cd53 ct53 oc54 kV54 dc54 pm54 cd54 ct54 oc55 kV55 dc55 pm55 cd55 ct55 oc56 kV56 dc56 pm56 cd56 ct56 oc57 kV57 dc57 pm57 cd57 ct57 oc58 kV58 dc58 pm58 cd58 ct58 oc59 kV59 dc59 pm59 cd59 ct59 : Value}
    {u6 u7 u8 u9 u10 u11 u25 u26 : Value}
    (a12 : PySem.W.nsIn K mainGlobals "is_within" = some (some (.ref f12))) (l12 : K.lookup f12 = some ⟨oc12, od12, .func (PySem.W.fnOf "is_within" "is_within" (defArgs s_is_within) (defBody s_is_within) (defScope s_is_within) .none kV12 dc12 pm12 an12 cd12 ct12), sl12⟩) (c12 : PySem.W.codeIn K cd12 "is_within" = true) (k12 : PySem.W.keepIn K (.ref f12) = true)
    (a13 : PySem.W.nsIn K mainGlobals "is_row_of" = some (some (.ref f13))) (l13 : K.lookup f13 = some ⟨oc13, od13, .func (PySem.W.fnOf "is_row_of" "is_row_of" (defArgs s_is_row_of) (defBody s_is_row_of) (defScope s_is_row_of) .none kV13 dc13 pm13 an13 cd13 ct13), sl13⟩) (c13 : PySem.W.codeIn K cd13 "is_row_of" = true) (k13 : PySem.W.keepIn K (.ref f13) = true)
    (a14 : PySem.W.nsIn K mainGlobals "is_recorder" = some (some (.ref f14))) (l14 : K.lookup f14 = some ⟨oc14, od14, .func (PySem.W.fnOf "is_recorder" "is_recorder" (defArgs s_is_recorder) (defBody s_is_recorder) (defScope s_is_recorder) .none kV14 dc14 pm14 an14 cd14 ct14), sl14⟩) (c14 : PySem.W.codeIn K cd14 "is_recorder" = true) (k14 : PySem.W.keepIn K (.ref f14) = true)
    (a15 : PySem.W.nsIn K mainGlobals "is_world" = some (some (.ref f15))) (l15 : K.lookup f15 = some ⟨oc15, od15, .func (PySem.W.fnOf "is_world" "is_world" (defArgs s_is_world) (defBody s_is_world) (defScope s_is_world) .none kV15 dc15 pm15 an15 cd15 ct15), sl15⟩) (c15 : PySem.W.codeIn K cd15 "is_world" = true) (k15 : PySem.W.keepIn K (.ref f15) = true)
    (a16 : PySem.W.nsIn K mainGlobals "is_plan" = some (some (.ref f16))) (l16 : K.lookup f16 = some ⟨oc16, od16, .func (PySem.W.fnOf "is_plan" "is_plan" (defArgs s_is_plan) (defBody s_is_plan) (defScope s_is_plan) .none kV16 dc16 pm16 an16 cd16 ct16), sl16⟩) (c16 : PySem.W.codeIn K cd16 "is_plan" = true) (k16 : PySem.W.keepIn K (.ref f16) = true)
    (a17 : PySem.W.nsIn K mainGlobals "look_at_plan" = some (some (.ref f17))) (l17 : K.lookup f17 = some ⟨oc17, od17, .func (PySem.W.fnOf "look_at_plan" "look_at_plan" (defArgs s_look_at_plan) (defBody s_look_at_plan) (defScope s_look_at_plan) .none kV17 dc17 pm17 an17 cd17 ct17), sl17⟩) (c17 : PySem.W.codeIn K cd17 "look_at_plan" = true) (k17 : PySem.W.keepIn K (.ref f17) = true)
    (a18 : PySem.W.nsIn K mainGlobals "look_at_harm" = some (some (.ref f18))) (l18 : K.lookup f18 = some ⟨oc18, od18, .func (PySem.W.fnOf "look_at_harm" "look_at_harm" (defArgs s_look_at_harm) (defBody s_look_at_harm) (defScope s_look_at_harm) .none kV18 dc18 pm18 an18 cd18 ct18), sl18⟩) (c18 : PySem.W.codeIn K cd18 "look_at_harm" = true) (k18 : PySem.W.keepIn K (.ref f18) = true)
    (a19 : PySem.W.nsIn K mainGlobals "look_at_wishes" = some (some (.ref f19))) (l19 : K.lookup f19 = some ⟨oc19, od19, .func (PySem.W.fnOf "look_at_wishes" "look_at_wishes" (defArgs s_look_at_wishes) (defBody s_look_at_wishes) (defScope s_look_at_wishes) .none kV19 dc19 pm19 an19 cd19 ct19), sl19⟩) (c19 : PySem.W.codeIn K cd19 "look_at_wishes" = true) (k19 : PySem.W.keepIn K (.ref f19) = true)
    (a20 : PySem.W.nsIn K mainGlobals "look_at_part" = some (some (.ref f20))) (l20 : K.lookup f20 = some ⟨oc20, od20, .func (PySem.W.fnOf "look_at_part" "look_at_part" (defArgs s_look_at_part) (defBody s_look_at_part) (defScope s_look_at_part) .none kV20 dc20 pm20 an20 cd20 ct20), sl20⟩) (c20 : PySem.W.codeIn K cd20 "look_at_part" = true) (k20 : PySem.W.keepIn K (.ref f20) = true)
    (a22 : PySem.W.nsIn K mainGlobals "ended" = some (some (.ref f22))) (l22 : K.lookup f22 = some ⟨oc22, od22, .func (PySem.W.fnOf "ended" "ended" (defArgs s_ended) (defBody s_ended) (defScope s_ended) .none kV22 dc22 pm22 an22 cd22 ct22), sl22⟩) (c22 : PySem.W.codeIn K cd22 "ended" = true) (k22 : PySem.W.keepIn K (.ref f22) = true)
    (a23 : PySem.W.nsIn K mainGlobals "step" = some (some (.ref f23))) (l23 : K.lookup f23 = some ⟨oc23, od23, .func (PySem.W.fnOf "step" "step" (defArgs s_step) (defBody s_step) (defScope s_step) .none kV23 dc23 pm23 an23 cd23 ct23), sl23⟩) (c23 : PySem.W.codeIn K cd23 "step" = true) (k23 : PySem.W.keepIn K (.ref f23) = true)
    (a27 : PySem.W.nsIn K mainGlobals "begin_place" = some (some (.ref f27))) (l27 : K.lookup f27 = some ⟨oc27, od27, .func (PySem.W.fnOf "begin_place" "begin_place" (defArgs s_begin_place) (defBody s_begin_place) (defScope s_begin_place) .none kV27 dc27 pm27 an27 cd27 ct27), sl27⟩) (c27 : PySem.W.codeIn K cd27 "begin_place" = true) (k27 : PySem.W.keepIn K (.ref f27) = true)
    (a28 : PySem.W.nsIn K mainGlobals "choices" = some (some (.ref f28))) (l28 : K.lookup f28 = some ⟨oc28, od28, .func (PySem.W.fnOf "choices" "choices" (defArgs s_choices) (defBody s_choices) (defScope s_choices) .none kV28 dc28 pm28 an28 cd28 ct28), sl28⟩) (c28 : PySem.W.codeIn K cd28 "choices" = true) (k28 : PySem.W.keepIn K (.ref f28) = true)
    (a29 : PySem.W.nsIn K mainGlobals "next_place" = some (some (.ref f29))) (l29 : K.lookup f29 = some ⟨oc29, od29, .func (PySem.W.fnOf "next_place" "next_place" (defArgs s_next_place) (defBody s_next_place) (defScope s_next_place) .none kV29 dc29 pm29 an29 cd29 ct29), sl29⟩) (c29 : PySem.W.codeIn K cd29 "next_place" = true) (k29 : PySem.W.keepIn K (.ref f29) = true)
    (a30 : PySem.W.nsIn K mainGlobals "may_end" = some (some (.ref f30))) (l30 : K.lookup f30 = some ⟨oc30, od30, .func (PySem.W.fnOf "may_end" "may_end" (defArgs s_may_end) (defBody s_may_end) (defScope s_may_end) .none kV30 dc30 pm30 an30 cd30 ct30), sl30⟩) (c30 : PySem.W.codeIn K cd30 "may_end" = true) (k30 : PySem.W.keepIn K (.ref f30) = true)
    (a31 : PySem.W.nsIn K mainGlobals "sounds_in" = some (some (.ref f31))) (l31 : K.lookup f31 = some ⟨oc31, od31, .func (PySem.W.fnOf "sounds_in" "sounds_in" (defArgs s_sounds_in) (defBody s_sounds_in) (defScope s_sounds_in) .none kV31 dc31 pm31 an31 cd31 ct31), sl31⟩) (c31 : PySem.W.codeIn K cd31 "sounds_in" = true) (k31 : PySem.W.keepIn K (.ref f31) = true)
    (a32 : PySem.W.nsIn K mainGlobals "joins" = some (some (.ref f32))) (l32 : K.lookup f32 = some ⟨oc32, od32, .func (PySem.W.fnOf "joins" "joins" (defArgs s_joins) (defBody s_joins) (defScope s_joins) .none kV32 dc32 pm32 an32 cd32 ct32), sl32⟩) (c32 : PySem.W.codeIn K cd32 "joins" = true) (k32 : PySem.W.keepIn K (.ref f32) = true)
    (a33 : PySem.W.nsIn K mainGlobals "watched" = some (some (.ref f33))) (l33 : K.lookup f33 = some ⟨oc33, od33, .func (PySem.W.fnOf "watched" "watched" (defArgs s_watched) (defBody s_watched) (defScope s_watched) .none kV33 dc33 pm33 an33 cd33 ct33), sl33⟩) (c33 : PySem.W.codeIn K cd33 "watched" = true) (k33 : PySem.W.keepIn K (.ref f33) = true)
    (a34 : PySem.W.nsIn K mainGlobals "started" = some (some (.ref f34))) (l34 : K.lookup f34 = some ⟨oc34, od34, .func (PySem.W.fnOf "started" "started" (defArgs s_started) (defBody s_started) (defScope s_started) .none kV34 dc34 pm34 an34 cd34 ct34), sl34⟩) (c34 : PySem.W.codeIn K cd34 "started" = true) (k34 : PySem.W.keepIn K (.ref f34) = true)
    (a35 : PySem.W.nsIn K mainGlobals "is_harmed" = some (some (.ref f35))) (l35 : K.lookup f35 = some ⟨oc35, od35, .func (PySem.W.fnOf "is_harmed" "is_harmed" (defArgs s_is_harmed) (defBody s_is_harmed) (defScope s_is_harmed) .none kV35 dc35 pm35 an35 cd35 ct35), sl35⟩) (c35 : PySem.W.codeIn K cd35 "is_harmed" = true) (k35 : PySem.W.keepIn K (.ref f35) = true)
    (a36 : PySem.W.nsIn K mainGlobals "notes_behind" = some (some (.ref f36))) (l36 : K.lookup f36 = some ⟨oc36, od36, .func (PySem.W.fnOf "notes_behind" "notes_behind" (defArgs s_notes_behind) (defBody s_notes_behind) (defScope s_notes_behind) .none kV36 dc36 pm36 an36 cd36 ct36), sl36⟩) (c36 : PySem.W.codeIn K cd36 "notes_behind" = true) (k36 : PySem.W.keepIn K (.ref f36) = true)
    (a37 : PySem.W.nsIn K mainGlobals "joined_behind" = some (some (.ref f37))) (l37 : K.lookup f37 = some ⟨oc37, od37, .func (PySem.W.fnOf "joined_behind" "joined_behind" (defArgs s_joined_behind) (defBody s_joined_behind) (defScope s_joined_behind) .none kV37 dc37 pm37 an37 cd37 ct37), sl37⟩) (c37 : PySem.W.codeIn K cd37 "joined_behind" = true) (k37 : PySem.W.keepIn K (.ref f37) = true)
    (a38 : PySem.W.nsIn K mainGlobals "first_by" = some (some (.ref f38))) (l38 : K.lookup f38 = some ⟨oc38, od38, .func (PySem.W.fnOf "first_by" "first_by" (defArgs s_first_by) (defBody s_first_by) (defScope s_first_by) .none kV38 dc38 pm38 an38 cd38 ct38), sl38⟩) (c38 : PySem.W.codeIn K cd38 "first_by" = true) (k38 : PySem.W.keepIn K (.ref f38) = true)
    (a40 : PySem.W.nsIn K mainGlobals "with_part" = some (some (.ref f40))) (l40 : K.lookup f40 = some ⟨oc40, od40, .func (PySem.W.fnOf "with_part" "with_part" (defArgs s_with_part) (defBody s_with_part) (defScope s_with_part) .none kV40 dc40 pm40 an40 cd40 ct40), sl40⟩) (c40 : PySem.W.codeIn K cd40 "with_part" = true) (k40 : PySem.W.keepIn K (.ref f40) = true)
    (a41 : PySem.W.nsIn K mainGlobals "is_good" = some (some (.ref f41))) (l41 : K.lookup f41 = some ⟨oc41, od41, .func (PySem.W.fnOf "is_good" "is_good" (defArgs s_is_good) (defBody s_is_good) (defScope s_is_good) .none kV41 dc41 pm41 an41 cd41 ct41), sl41⟩) (c41 : PySem.W.codeIn K cd41 "is_good" = true) (k41 : PySem.W.keepIn K (.ref f41) = true)
    (a42 : PySem.W.nsIn K mainGlobals "good_values" = some (some (.ref f42))) (l42 : K.lookup f42 = some ⟨oc42, od42, .func (PySem.W.fnOf "good_values" "good_values" (defArgs s_good_values) (defBody s_good_values) (defScope s_good_values) .none kV42 dc42 pm42 an42 cd42 ct42), sl42⟩) (c42 : PySem.W.codeIn K cd42 "good_values" = true) (k42 : PySem.W.keepIn K (.ref f42) = true)
    (a44 : PySem.W.nsIn K mainGlobals "_law_spring" = some (some (.ref f44))) (l44 : K.lookup f44 = some ⟨oc44, od44, .func (PySem.W.fnOf "_law_spring" "_law_spring" (defArgs s_f_law_spring) (defBody s_f_law_spring) (defScope s_f_law_spring) .none kV44 dc44 pm44 an44 cd44 ct44), sl44⟩) (c44 : PySem.W.codeIn K cd44 "_law_spring" = true) (k44 : PySem.W.keepIn K (.ref f44) = true)
    (a45 : PySem.W.nsIn K mainGlobals "_law_pick" = some (some (.ref f45))) (l45 : K.lookup f45 = some ⟨oc45, od45, .func (PySem.W.fnOf "_law_pick" "_law_pick" (defArgs s_f_law_pick) (defBody s_f_law_pick) (defScope s_f_law_pick) .none kV45 dc45 pm45 an45 cd45 ct45), sl45⟩) (c45 : PySem.W.codeIn K cd45 "_law_pick" = true) (k45 : PySem.W.keepIn K (.ref f45) = true)
    (a46 : PySem.W.nsIn K mainGlobals "_law_kind" = some (some (.ref f46))) (l46 : K.lookup f46 = some ⟨oc46, od46, .func (PySem.W.fnOf "_law_kind" "_law_kind" (defArgs s_f_law_kind) (defBody s_f_law_kind) (defScope s_f_law_kind) .none kV46 dc46 pm46 an46 cd46 ct46), sl46⟩) (c46 : PySem.W.codeIn K cd46 "_law_kind" = true) (k46 : PySem.W.keepIn K (.ref f46) = true)
    (a47 : PySem.W.nsIn K mainGlobals "_law_twins" = some (some (.ref f47))) (l47 : K.lookup f47 = some ⟨oc47, od47, .func (PySem.W.fnOf "_law_twins" "_law_twins" (defArgs s_f_law_twins) (defBody s_f_law_twins) (defScope s_f_law_twins) .none kV47 dc47 pm47 an47 cd47 ct47), sl47⟩) (c47 : PySem.W.codeIn K cd47 "_law_twins" = true) (k47 : PySem.W.keepIn K (.ref f47) = true)
    (a48 : PySem.W.nsIn K mainGlobals "_law_recorder" = some (some (.ref f48))) (l48 : K.lookup f48 = some ⟨oc48, od48, .func (PySem.W.fnOf "_law_recorder" "_law_recorder" (defArgs s_f_law_recorder) (defBody s_f_law_recorder) (defScope s_f_law_recorder) .none kV48 dc48 pm48 an48 cd48 ct48), sl48⟩) (c48 : PySem.W.codeIn K cd48 "_law_recorder" = true) (k48 : PySem.W.keepIn K (.ref f48) = true)
    (a49 : PySem.W.nsIn K mainGlobals "_law_world" = some (some (.ref f49))) (l49 : K.lookup f49 = some ⟨oc49, od49, .func (PySem.W.fnOf "_law_world" "_law_world" (defArgs s_f_law_world) (defBody s_f_law_world) (defScope s_f_law_world) .none kV49 dc49 pm49 an49 cd49 ct49), sl49⟩) (c49 : PySem.W.codeIn K cd49 "_law_world" = true) (k49 : PySem.W.keepIn K (.ref f49) = true)
    (a50 : PySem.W.nsIn K mainGlobals "_law_tick" = some (some (.ref f50))) (l50 : K.lookup f50 = some ⟨oc50, od50, .func (PySem.W.fnOf "_law_tick" "_law_tick" (defArgs s_f_law_tick) (defBody s_f_law_tick) (defScope s_f_law_tick) .none kV50 dc50 pm50 an50 cd50 ct50), sl50⟩) (c50 : PySem.W.codeIn K cd50 "_law_tick" = true) (k50 : PySem.W.keepIn K (.ref f50) = true)
    (a51 : PySem.W.nsIn K mainGlobals "_law_more" = some (some (.ref f51))) (l51 : K.lookup f51 = some ⟨oc51, od51, .func (PySem.W.fnOf "_law_more" "_law_more" (defArgs s_f_law_more) (defBody s_f_law_more) (defScope s_f_law_more) .none kV51 dc51 pm51 an51 cd51 ct51), sl51⟩) (c51 : PySem.W.codeIn K cd51 "_law_more" = true) (k51 : PySem.W.keepIn K (.ref f51) = true)
    (a52 : PySem.W.nsIn K mainGlobals "_law_on" = some (some (.ref f52))) (l52 : K.lookup f52 = some ⟨oc52, od52, .func (PySem.W.fnOf "_law_on" "_law_on" (defArgs s_f_law_on) (defBody s_f_law_on) (defScope s_f_law_on) .none kV52 dc52 pm52 an52 cd52 ct52), sl52⟩) (c52 : PySem.W.codeIn K cd52 "_law_on" = true) (k52 : PySem.W.keepIn K (.ref f52) = true)
    (a53 : PySem.W.nsIn K mainGlobals "_law_noted" = some (some (.ref f53))) (l53 : K.lookup f53 = some ⟨oc53, od53, .func (PySem.W.fnOf "_law_noted" "_law_noted" (defArgs s_f_law_noted) (defBody s_f_law_noted) (defScope s_f_law_noted) .none kV53 dc53 pm53 an53 cd53 ct53), sl53⟩) (c53 : PySem.W.codeIn K cd53 "_law_noted" = true) (k53 : PySem.W.keepIn K (.ref f53) = true)
    (a54 : PySem.W.nsIn K mainGlobals "_law_bad" = some (some (.ref f54))) (l54 : K.lookup f54 = some ⟨oc54, od54, .func (PySem.W.fnOf "_law_bad" "_law_bad" (defArgs s_f_law_bad) (defBody s_f_law_bad) (defScope s_f_law_bad) .none kV54 dc54 pm54 an54 cd54 ct54), sl54⟩) (c54 : PySem.W.codeIn K cd54 "_law_bad" = true) (k54 : PySem.W.keepIn K (.ref f54) = true)
    (a55 : PySem.W.nsIn K mainGlobals "_law_groups" = some (some (.ref f55))) (l55 : K.lookup f55 = some ⟨oc55, od55, .func (PySem.W.fnOf "_law_groups" "_law_groups" (defArgs s_f_law_groups) (defBody s_f_law_groups) (defScope s_f_law_groups) .none kV55 dc55 pm55 an55 cd55 ct55), sl55⟩) (c55 : PySem.W.codeIn K cd55 "_law_groups" = true) (k55 : PySem.W.keepIn K (.ref f55) = true)
    (a56 : PySem.W.nsIn K mainGlobals "_law_after_note" = some (some (.ref f56))) (l56 : K.lookup f56 = some ⟨oc56, od56, .func (PySem.W.fnOf "_law_after_note" "_law_after_note" (defArgs s_f_law_after_note) (defBody s_f_law_after_note) (defScope s_f_law_after_note) .none kV56 dc56 pm56 an56 cd56 ct56), sl56⟩) (c56 : PySem.W.codeIn K cd56 "_law_after_note" = true) (k56 : PySem.W.keepIn K (.ref f56) = true)
    (a57 : PySem.W.nsIn K mainGlobals "_law_first" = some (some (.ref f57))) (l57 : K.lookup f57 = some ⟨oc57, od57, .func (PySem.W.fnOf "_law_first" "_law_first" (defArgs s_f_law_first) (defBody s_f_law_first) (defScope s_f_law_first) .none kV57 dc57 pm57 an57 cd57 ct57), sl57⟩) (c57 : PySem.W.codeIn K cd57 "_law_first" = true) (k57 : PySem.W.keepIn K (.ref f57) = true)
    (a58 : PySem.W.nsIn K mainGlobals "_law_lets" = some (some (.ref f58))) (l58 : K.lookup f58 = some ⟨oc58, od58, .func (PySem.W.fnOf "_law_lets" "_law_lets" (defArgs s_f_law_lets) (defBody s_f_law_lets) (defScope s_f_law_lets) .none kV58 dc58 pm58 an58 cd58 ct58), sl58⟩) (c58 : PySem.W.codeIn K cd58 "_law_lets" = true) (k58 : PySem.W.keepIn K (.ref f58) = true)
    (a59 : PySem.W.nsIn K mainGlobals "law" = some (some (.ref f59))) (l59 : K.lookup f59 = some ⟨oc59, od59, .func (PySem.W.fnOf "law" "law" (defArgs s_law) (defBody s_law) (defScope s_law) .none kV59 dc59 pm59 an59 cd59 ct59), sl59⟩) (c59 : PySem.W.codeIn K cd59 "law" = true) (k59 : PySem.W.keepIn K (.ref f59) = true)
    (z_abs : PySem.W.nsIn K mainGlobals "abs" = some none)
    (z_all : PySem.W.nsIn K mainGlobals "all" = some none)
    (z_bool : PySem.W.nsIn K mainGlobals "bool" = some none)
    (z_enumerate : PySem.W.nsIn K mainGlobals "enumerate" = some none)
    (z_int : PySem.W.nsIn K mainGlobals "int" = some none)
    (z_isinstance : PySem.W.nsIn K mainGlobals "isinstance" = some none)
    (z_len : PySem.W.nsIn K mainGlobals "len" = some none)
    (z_list : PySem.W.nsIn K mainGlobals "list" = some none)
    (z_max : PySem.W.nsIn K mainGlobals "max" = some none)
    (z_min : PySem.W.nsIn K mainGlobals "min" = some none)
    (z_range : PySem.W.nsIn K mainGlobals "range" = some none)
    (z_set : PySem.W.nsIn K mainGlobals "set" = some none)
    (z_sorted : PySem.W.nsIn K mainGlobals "sorted" = some none)
    (z_str : PySem.W.nsIn K mainGlobals "str" = some none)
    (z_sum : PySem.W.nsIn K mainGlobals "sum" = some none)
    (z_tuple : PySem.W.nsIn K mainGlobals "tuple" = some none)
    (z_zip : PySem.W.nsIn K mainGlobals "zip" = some none)
    (ac6 : PySem.W.nsIn K mainGlobals "AWAKE" = some (some u6)) (rc6 : Cst K u6 cst_AWAKE)
    (ac7 : PySem.W.nsIn K mainGlobals "RECORDS" = some (some u7)) (rc7 : Cst K u7 cst_RECORDS)
    (ac8 : PySem.W.nsIn K mainGlobals "SLEEPS" = some (some u8)) (rc8 : Cst K u8 cst_SLEEPS)
    (ac9 : PySem.W.nsIn K mainGlobals "FRESH" = some (some u9)) (rc9 : Cst K u9 cst_FRESH)
    (ac10 : PySem.W.nsIn K mainGlobals "HARMS" = some (some u10)) (rc10 : Cst K u10 cst_HARMS)
    (ac11 : PySem.W.nsIn K mainGlobals "PARTS" = some (some u11)) (rc11 : Cst K u11 cst_PARTS)
    (ac25 : PySem.W.nsIn K mainGlobals "FAR" = some (some u25)) (rc25 : Cst K u25 cst_FAR)
    (ac26 : PySem.W.nsIn K mainGlobals "UNWATCHED" = some (some u26)) (rc26 : Cst K u26 cst_UNWATCHED)
    (tc11 : TupK K u11)
    : ∃ fd : FuncData, (∀ (s : Shared) (v : Value), BindsTo s fd ⟨[v], []⟩ [("script", v)]) ∧ ∀ base : Heap, K.In base → base.Ns mainGlobals mg → FnOk l.prog w K mg base CX0 10 fa fd ["script"] (spF K none F_law) := by
  have e : f59 = fa := by have e := hfa.symm.trans (PySem.W.mg_of X G a59); cases e; rfl
  subst e
  let fs : Nat → Addr := fun i => match i with | 12 => f12 | 13 => f13 | 14 => f14 | 15 => f15 | 16 => f16 | 17 => f17 | 18 => f18 | 19 => f19 | 20 => f20 | 22 => f22 | 23 => f23 | 27 => f27 | 28 => f28 | 29 => f29 | 30 => f30 | 31 => f31 | 32 => f32 | 33 => f33 | 34 => f34 | 35 => f35 | 36 => f36 | 37 => f37 | 38 => f38 | 40 => f40 | 41 => f41 | 42 => f42 | 44 => f44 | 45 => f45 | 46 => f46 | 47 => f47 | 48 => f48 | 49 => f49 | 50 => f50 | 51 => f51 | 52 => f52 | 53 => f53 | 54 => f54 | 55 => f55 | 56 => f56 | 57 => f57 | 58 => f58 | 59 => f59 | _ => 0
  let fds : Nat → FuncData := fun i => match i with | 12 => PySem.W.fnOf "is_within" "is_within" (defArgs s_is_within) (defBody s_is_within) (defScope s_is_within) .none kV12 dc12 pm12 an12 cd12 ct12 | 13 => PySem.W.fnOf "is_row_of" "is_row_of" (defArgs s_is_row_of) (defBody s_is_row_of) (defScope s_is_row_of) .none kV13 dc13 pm13 an13 cd13 ct13 | 14 => PySem.W.fnOf "is_recorder" "is_recorder" (defArgs s_is_recorder) (defBody s_is_recorder) (defScope s_is_recorder) .none kV14 dc14 pm14 an14 cd14 ct14 | 15 => PySem.W.fnOf "is_world" "is_world" (defArgs s_is_world) (defBody s_is_world) (defScope s_is_world) .none kV15 dc15 pm15 an15 cd15 ct15 | 16 => PySem.W.fnOf "is_plan" "is_plan" (defArgs s_is_plan) (defBody s_is_plan) (defScope s_is_plan) .none kV16 dc16 pm16 an16 cd16 ct16 | 17 => PySem.W.fnOf "look_at_plan" "look_at_plan" (defArgs s_look_at_plan) (defBody s_look_at_plan) (defScope s_look_at_plan) .none kV17 dc17 pm17 an17 cd17 ct17 | 18 => PySem.W.fnOf "look_at_harm" "look_at_harm" (defArgs s_look_at_harm) (defBody s_look_at_harm) (defScope s_look_at_harm) .none kV18 dc18 pm18 an18 cd18 ct18 | 19 => PySem.W.fnOf "look_at_wishes" "look_at_wishes" (defArgs s_look_at_wishes) (defBody s_look_at_wishes) (defScope s_look_at_wishes) .none kV19 dc19 pm19 an19 cd19 ct19 | 20 => PySem.W.fnOf "look_at_part" "look_at_part" (defArgs s_look_at_part) (defBody s_look_at_part) (defScope s_look_at_part) .none kV20 dc20 pm20 an20 cd20 ct20 | 22 => PySem.W.fnOf "ended" "ended" (defArgs s_ended) (defBody s_ended) (defScope s_ended) .none kV22 dc22 pm22 an22 cd22 ct22 | 23 => PySem.W.fnOf "step" "step" (defArgs s_step) (defBody s_step) (defScope s_step) .none kV23 dc23 pm23 an23 cd23 ct23 | 27 => PySem.W.fnOf "begin_place" "begin_place" (defArgs s_begin_place) (defBody s_begin_place) (defScope s_begin_place) .none kV27 dc27 pm27 an27 cd27 ct27 | 28 => PySem.W.fnOf "choices" "choices" (defArgs s_choices) (defBody s_choices) (defScope s_choices) .none kV28 dc28 pm28 an28 cd28 ct28 | 29 => PySem.W.fnOf "next_place" "next_place" (defArgs s_next_place) (defBody s_next_place) (defScope s_next_place) .none kV29 dc29 pm29 an29 cd29 ct29 | 30 => PySem.W.fnOf "may_end" "may_end" (defArgs s_may_end) (defBody s_may_end) (defScope s_may_end) .none kV30 dc30 pm30 an30 cd30 ct30 | 31 => PySem.W.fnOf "sounds_in" "sounds_in" (defArgs s_sounds_in) (defBody s_sounds_in) (defScope s_sounds_in) .none kV31 dc31 pm31 an31 cd31 ct31 | 32 => PySem.W.fnOf "joins" "joins" (defArgs s_joins) (defBody s_joins) (defScope s_joins) .none kV32 dc32 pm32 an32 cd32 ct32 | 33 => PySem.W.fnOf "watched" "watched" (defArgs s_watched) (defBody s_watched) (defScope s_watched) .none kV33 dc33 pm33 an33 cd33 ct33 | 34 => PySem.W.fnOf "started" "started" (defArgs s_started) (defBody s_started) (defScope s_started) .none kV34 dc34 pm34 an34 cd34 ct34 | 35 => PySem.W.fnOf "is_harmed" "is_harmed" (defArgs s_is_harmed) (defBody s_is_harmed) (defScope s_is_harmed) .none kV35 dc35 pm35 an35 cd35 ct35 | 36 => PySem.W.fnOf "notes_behind" "notes_behind" (defArgs s_notes_behind) (defBody s_notes_behind) (defScope s_notes_behind) .none kV36 dc36 pm36 an36 cd36 ct36 | 37 => PySem.W.fnOf "joined_behind" "joined_behind" (defArgs s_joined_behind) (defBody s_joined_behind) (defScope s_joined_behind) .none kV37 dc37 pm37 an37 cd37 ct37 | 38 => PySem.W.fnOf "first_by" "first_by" (defArgs s_first_by) (defBody s_first_by) (defScope s_first_by) .none kV38 dc38 pm38 an38 cd38 ct38 | 40 => PySem.W.fnOf "with_part" "with_part" (defArgs s_with_part) (defBody s_with_part) (defScope s_with_part) .none kV40 dc40 pm40 an40 cd40 ct40 | 41 => PySem.W.fnOf "is_good" "is_good" (defArgs s_is_good) (defBody s_is_good) (defScope s_is_good) .none kV41 dc41 pm41 an41 cd41 ct41 | 42 => PySem.W.fnOf "good_values" "good_values" (defArgs s_good_values) (defBody s_good_values) (defScope s_good_values) .none kV42 dc42 pm42 an42 cd42 ct42 | 44 => PySem.W.fnOf "_law_spring" "_law_spring" (defArgs s_f_law_spring) (defBody s_f_law_spring) (defScope s_f_law_spring) .none kV44 dc44 pm44 an44 cd44 ct44 | 45 => PySem.W.fnOf "_law_pick" "_law_pick" (defArgs s_f_law_pick) (defBody s_f_law_pick) (defScope s_f_law_pick) .none kV45 dc45 pm45 an45 cd45 ct45 | 46 => PySem.W.fnOf "_law_kind" "_law_kind" (defArgs s_f_law_kind) (defBody s_f_law_kind) (defScope s_f_law_kind) .none kV46 dc46 pm46 an46 cd46 ct46 | 47 => PySem.W.fnOf "_law_twins" "_law_twins" (defArgs s_f_law_twins) (defBody s_f_law_twins) (defScope s_f_law_twins) .none kV47 dc47 pm47 an47 cd47 ct47 | 48 => PySem.W.fnOf "_law_recorder" "_law_recorder" (defArgs s_f_law_recorder) (defBody s_f_law_recorder) (defScope s_f_law_recorder) .none kV48 dc48 pm48 an48 cd48 ct48 | 49 => PySem.W.fnOf "_law_world" "_law_world" (defArgs s_f_law_world) (defBody s_f_law_world) (defScope s_f_law_world) .none kV49 dc49 pm49 an49 cd49 ct49 | 50 => PySem.W.fnOf "_law_tick" "_law_tick" (defArgs s_f_law_tick) (defBody s_f_law_tick) (defScope s_f_law_tick) .none kV50 dc50 pm50 an50 cd50 ct50 | 51 => PySem.W.fnOf "_law_more" "_law_more" (defArgs s_f_law_more) (defBody s_f_law_more) (defScope s_f_law_more) .none kV51 dc51 pm51 an51 cd51 ct51 | 52 => PySem.W.fnOf "_law_on" "_law_on" (defArgs s_f_law_on) (defBody s_f_law_on) (defScope s_f_law_on) .none kV52 dc52 pm52 an52 cd52 ct52 | 53 => PySem.W.fnOf "_law_noted" "_law_noted" (defArgs s_f_law_noted) (defBody s_f_law_noted) (defScope s_f_law_noted) .none kV53 dc53 pm53 an53 cd53 ct53 | 54 => PySem.W.fnOf "_law_bad" "_law_bad" (defArgs s_f_law_bad) (defBody s_f_law_bad) (defScope s_f_law_bad) .none kV54 dc54 pm54 an54 cd54 ct54 | 55 => PySem.W.fnOf "_law_groups" "_law_groups" (defArgs s_f_law_groups) (defBody s_f_law_groups) (defScope s_f_law_groups) .none kV55 dc55 pm55 an55 cd55 ct55 | 56 => PySem.W.fnOf "_law_after_note" "_law_after_note" (defArgs s_f_law_after_note) (defBody s_f_law_after_note) (defScope s_f_law_after_note) .none kV56 dc56 pm56 an56 cd56 ct56 | 57 => PySem.W.fnOf "_law_first" "_law_first" (defArgs s_f_law_first) (defBody s_f_law_first) (defScope s_f_law_first) .none kV57 dc57 pm57 an57 cd57 ct57 | 58 => PySem.W.fnOf "_law_lets" "_law_lets" (defArgs s_f_law_lets) (defBody s_f_law_lets) (defScope s_f_law_lets) .none kV58 dc58 pm58 an58 cd58 ct58 | 59 => PySem.W.fnOf "law" "law" (defArgs s_law) (defBody s_law) (defScope s_law) .none kV59 dc59 pm59 an59 cd59 ct59 | _ => PySem.W.fnOf "law" "law" (defArgs s_law) (defBody s_law) (defScope s_law) .none kV59 dc59 pm59 an59 cd59 ct59
  let us : Nat → Value := fun i => match i with | 6 => u6 | 7 => u7 | 8 => u8 | 9 => u9 | 10 => u10 | 11 => u11 | 25 => u25 | 26 => u26 | _ => .none
  have T : Txt K mg fs fds us := {
    f_is_within := fun_mk (st := s_is_within) l12 c12 k12
    m_is_within := PySem.W.mg_of X G a12
    b_is_within := binds_mk (st := s_is_within) P_is_within l12 c12 k12 fun _ _ _ _ _ _ us hl => match us, hl with | [_, _, _], _ => rfl
    f_is_row_of := fun_mk (st := s_is_row_of) l13 c13 k13
    m_is_row_of := PySem.W.mg_of X G a13
    b_is_row_of := binds_mk (st := s_is_row_of) P_is_row_of l13 c13 k13 fun _ _ _ _ _ _ us hl => match us, hl with | [_, _], _ => rfl
    f_is_recorder := fun_mk (st := s_is_recorder) l14 c14 k14
    m_is_recorder := PySem.W.mg_of X G a14
    b_is_recorder := binds_mk (st := s_is_recorder) P_is_recorder l14 c14 k14 fun _ _ _ _ _ _ us hl => match us, hl with | [_], _ => rfl
    f_is_world := fun_mk (st := s_is_world) l15 c15 k15
    m_is_world := PySem.W.mg_of X G a15
    b_is_world := binds_mk (st := s_is_world) P_is_world l15 c15 k15 fun _ _ _ _ _ _ us hl => match us, hl with | [_], _ => rfl
    f_is_plan := fun_mk (st := s_is_plan) l16 c16 k16
    m_is_plan := PySem.W.mg_of X G a16
    b_is_plan := binds_mk (st := s_is_plan) P_is_plan l16 c16 k16 fun _ _ _ _ _ _ us hl => match us, hl with | [_], _ => rfl
    f_look_at_plan := fun_mk (st := s_look_at_plan) l17 c17 k17
    m_look_at_plan := PySem.W.mg_of X G a17
    b_look_at_plan := binds_mk (st := s_look_at_plan) P_look_at_plan l17 c17 k17 fun _ _ _ _ _ _ us hl => match us, hl with | [_], _ => rfl
    f_look_at_harm := fun_mk (st := s_look_at_harm) l18 c18 k18
    m_look_at_harm := PySem.W.mg_of X G a18
    b_look_at_harm := binds_mk (st := s_look_at_harm) P_look_at_harm l18 c18 k18 fun _ _ _ _ _ _ us hl => match us, hl with | [_], _ => rfl
    f_look_at_wishes := fun_mk (st := s_look_at_wishes) l19 c19 k19
    m_look_at_wishes := PySem.W.mg_of X G a19
    b_look_at_wishes := binds_mk (st := s_look_at_wishes) P_look_at_wishes l19 c19 k19 fun _ _ _ _ _ _ us hl => match us, hl with | [_], _ => rfl
    f_look_at_part := fun_mk (st := s_look_at_part) l20 c20 k20
    m_look_at_part := PySem.W.mg_of X G a20
    b_look_at_part := binds_mk (st := s_look_at_part) P_look_at_part l20 c20 k20 fun _ _ _ _ _ _ us hl => match us, hl with | [_], _ => rfl
    f_ended := fun_mk (st := s_ended) l22 c22 k22
    m_ended := PySem.W.mg_of X G a22
    b_ended := binds_mk (st := s_ended) P_ended l22 c22 k22 fun _ _ _ _ _ _ us hl => match us, hl with | [_], _ => rfl
    f_step := fun_mk (st := s_step) l23 c23 k23
    m_step := PySem.W.mg_of X G a23
    b_step := binds_mk (st := s_step) P_step l23 c23 k23 fun _ _ _ _ _ _ us hl => match us, hl with | [_, _, _], _ => rfl
    f_begin_place := fun_mk (st := s_begin_place) l27 c27 k27
    m_begin_place := PySem.W.mg_of X G a27
    b_begin_place := binds_mk (st := s_begin_place) P_begin_place l27 c27 k27 fun _ _ _ _ _ _ us hl => match us, hl with | [_], _ => rfl
    f_choices := fun_mk (st := s_choices) l28 c28 k28
    m_choices := PySem.W.mg_of X G a28
    b_choices := binds_mk (st := s_choices) P_choices l28 c28 k28 fun _ _ _ _ _ _ us hl => match us, hl with | [_, _], _ => rfl
    f_next_place := fun_mk (st := s_next_place) l29 c29 k29
    m_next_place := PySem.W.mg_of X G a29
    b_next_place := binds_mk (st := s_next_place) P_next_place l29 c29 k29 fun _ _ _ _ _ _ us hl => match us, hl with | [_, _, _], _ => rfl
    f_may_end := fun_mk (st := s_may_end) l30 c30 k30
    m_may_end := PySem.W.mg_of X G a30
    b_may_end := binds_mk (st := s_may_end) P_may_end l30 c30 k30 fun _ _ _ _ _ _ us hl => match us, hl with | [_, _], _ => rfl
    f_sounds_in := fun_mk (st := s_sounds_in) l31 c31 k31
    m_sounds_in := PySem.W.mg_of X G a31
    b_sounds_in := binds_mk (st := s_sounds_in) P_sounds_in l31 c31 k31 fun _ _ _ _ _ _ us hl => match us, hl with | [_], _ => rfl
    f_joins := fun_mk (st := s_joins) l32 c32 k32
    m_joins := PySem.W.mg_of X G a32
    b_joins := binds_mk (st := s_joins) P_joins l32 c32 k32 fun _ _ _ _ _ _ us hl => match us, hl with | [_, _, _], _ => rfl
    f_watched := fun_mk (st := s_watched) l33 c33 k33
    m_watched := PySem.W.mg_of X G a33
    b_watched := binds_mk (st := s_watched) P_watched l33 c33 k33 fun _ _ _ _ _ _ us hl => match us, hl with | [_, _, _, _, _], _ => rfl
    f_started := fun_mk (st := s_started) l34 c34 k34
    m_started := PySem.W.mg_of X G a34
    b_started := binds_mk (st := s_started) P_started l34 c34 k34 fun _ _ _ _ _ _ us hl => match us, hl with | [_, _, _, _], _ => rfl
    f_is_harmed := fun_mk (st := s_is_harmed) l35 c35 k35
    m_is_harmed := PySem.W.mg_of X G a35
    b_is_harmed := binds_mk (st := s_is_harmed) P_is_harmed l35 c35 k35 fun _ _ _ _ _ _ us hl => match us, hl with | [_, _], _ => rfl
    f_notes_behind := fun_mk (st := s_notes_behind) l36 c36 k36
    m_notes_behind := PySem.W.mg_of X G a36
    b_notes_behind := binds_mk (st := s_notes_behind) P_notes_behind l36 c36 k36 fun _ _ _ _ _ _ us hl => match us, hl with | [_, _, _, _, _, _], _ => rfl
    f_joined_behind := fun_mk (st := s_joined_behind) l37 c37 k37
    m_joined_behind := PySem.W.mg_of X G a37
    b_joined_behind := binds_mk (st := s_joined_behind) P_joined_behind l37 c37 k37 fun _ _ _ _ _ _ us hl => match us, hl with | [_, _, _, _, _], _ => rfl
    f_first_by := fun_mk (st := s_first_by) l38 c38 k38
    m_first_by := PySem.W.mg_of X G a38
    b_first_by := binds_mk (st := s_first_by) P_first_by l38 c38 k38 fun _ _ _ _ _ _ us hl => match us, hl with | [_, _], _ => rfl
    f_with_part := fun_mk (st := s_with_part) l40 c40 k40
    m_with_part := PySem.W.mg_of X G a40
    b_with_part := binds_mk (st := s_with_part) P_with_part l40 c40 k40 fun _ _ _ _ _ _ us hl => match us, hl with | [_, _, _], _ => rfl
    f_is_good := fun_mk (st := s_is_good) l41 c41 k41
    m_is_good := PySem.W.mg_of X G a41
    b_is_good := binds_mk (st := s_is_good) P_is_good l41 c41 k41 fun _ _ _ _ _ _ us hl => match us, hl with | [_, _], _ => rfl
    f_good_values := fun_mk (st := s_good_values) l42 c42 k42
    m_good_values := PySem.W.mg_of X G a42
    b_good_values := binds_mk (st := s_good_values) P_good_values l42 c42 k42 fun _ _ _ _ _ _ us hl => match us, hl with | [_, _, _], _ => rfl
    f_f_law_spring := fun_mk (st := s_f_law_spring) l44 c44 k44
    m_f_law_spring := PySem.W.mg_of X G a44
    b_f_law_spring := binds_mk (st := s_f_law_spring) P_f_law_spring l44 c44 k44 fun _ _ _ _ _ _ us hl => match us, hl with | [_, _], _ => rfl
    f_f_law_pick := fun_mk (st := s_f_law_pick) l45 c45 k45
    m_f_law_pick := PySem.W.mg_of X G a45
    b_f_law_pick := binds_mk (st := s_f_law_pick) P_f_law_pick l45 c45 k45 fun _ _ _ _ _ _ us hl => match us, hl with | [_, _], _ => rfl
    f_f_law_kind := fun_mk (st := s_f_law_kind) l46 c46 k46
    m_f_law_kind := PySem.W.mg_of X G a46
    b_f_law_kind := binds_mk (st := s_f_law_kind) P_f_law_kind l46 c46 k46 fun _ _ _ _ _ _ us hl => match us, hl with | [_], _ => rfl
    f_f_law_twins := fun_mk (st := s_f_law_twins) l47 c47 k47
    m_f_law_twins := PySem.W.mg_of X G a47
    b_f_law_twins := binds_mk (st := s_f_law_twins) P_f_law_twins l47 c47 k47 fun _ _ _ _ _ _ us hl => match us, hl with | [_, _], _ => rfl
    f_f_law_recorder := fun_mk (st := s_f_law_recorder) l48 c48 k48
    m_f_law_recorder := PySem.W.mg_of X G a48
    b_f_law_recorder := binds_mk (st := s_f_law_recorder) P_f_law_recorder l48 c48 k48 fun _ _ _ _ _ _ us hl => match us, hl with | [_], _ => rfl
    f_f_law_world := fun_mk (st := s_f_law_world) l49 c49 k49
    m_f_law_world := PySem.W.mg_of X G a49
    b_f_law_world := binds_mk (st := s_f_law_world) P_f_law_world l49 c49 k49 fun _ _ _ _ _ _ us hl => match us, hl with | [_], _ => rfl
    f_f_law_tick := fun_mk (st := s_f_law_tick) l50 c50 k50
    m_f_law_tick := PySem.W.mg_of X G a50
    b_f_law_tick := binds_mk (st := s_f_law_tick) P_f_law_tick l50 c50 k50 fun _ _ _ _ _ _ us hl => match us, hl with | [_, _, _], _ => rfl
    f_f_law_more := fun_mk (st := s_f_law_more) l51 c51 k51
    m_f_law_more := PySem.W.mg_of X G a51
    b_f_law_more := binds_mk (st := s_f_law_more) P_f_law_more l51 c51 k51 fun _ _ _ _ _ _ us hl => match us, hl with | [_, _], _ => rfl
    f_f_law_on := fun_mk (st := s_f_law_on) l52 c52 k52
    m_f_law_on := PySem.W.mg_of X G a52
    b_f_law_on := binds_mk (st := s_f_law_on) P_f_law_on l52 c52 k52 fun _ _ _ _ _ _ us hl => match us, hl with | [_, _, _], _ => rfl
    f_f_law_noted := fun_mk (st := s_f_law_noted) l53 c53 k53
    m_f_law_noted := PySem.W.mg_of X G a53
    b_f_law_noted := binds_mk (st := s_f_law_noted) P_f_law_noted l53 c53 k53 fun _ _ _ _ _ _ us hl => match us, hl with | [_, _, _, _, _], _ => rfl
    f_f_law_bad := fun_mk (st := s_f_law_bad) l54 c54 k54
    m_f_law_bad := PySem.W.mg_of X G a54
    b_f_law_bad := binds_mk (st := s_f_law_bad) P_f_law_bad l54 c54 k54 fun _ _ _ _ _ _ us hl => match us, hl with | [_, _], _ => rfl
    f_f_law_groups := fun_mk (st := s_f_law_groups) l55 c55 k55
    m_f_law_groups := PySem.W.mg_of X G a55
    b_f_law_groups := binds_mk (st := s_f_law_groups) P_f_law_groups l55 c55 k55 fun _ _ _ _ _ _ us hl => match us, hl with | [_], _ => rfl
    f_f_law_after_note := fun_mk (st := s_f_law_after_note) l56 c56 k56
    m_f_law_after_note := PySem.W.mg_of X G a56
    b_f_law_after_note := binds_mk (st := s_f_law_after_note) P_f_law_after_note l56 c56 k56 fun _ _ _ _ _ _ us hl => match us, hl with | [_, _, _, _, _, _, _], _ => rfl
    f_f_law_first := fun_mk (st := s_f_law_first) l57 c57 k57
    m_f_law_first := PySem.W.mg_of X G a57
    b_f_law_first := binds_mk (st := s_f_law_first) P_f_law_first l57 c57 k57 fun _ _ _ _ _ _ us hl => match us, hl with | [_, _], _ => rfl
    f_f_law_lets := fun_mk (st := s_f_law_lets) l58 c58 k58
    m_f_law_lets := PySem.W.mg_of X G a58
    b_f_law_lets := binds_mk (st := s_f_law_lets) P_f_law_lets l58 c58 k58 fun _ _ _ _ _ _ us hl => match us, hl with | [_], _ => rfl
    f_law := fun_mk (st := s_law) l59 c59 k59
    m_law := PySem.W.mg_of X G a59
    b_law := binds_mk (st := s_law) P_law l59 c59 k59 fun _ _ _ _ _ _ us hl => match us, hl with | [_], _ => rfl
    n_abs := PySem.W.mg_none_of X G z_abs
    n_all := PySem.W.mg_none_of X G z_all
    n_bool := PySem.W.mg_none_of X G z_bool
    n_enumerate := PySem.W.mg_none_of X G z_enumerate
    n_int := PySem.W.mg_none_of X G z_int
    n_isinstance := PySem.W.mg_none_of X G z_isinstance
    n_len := PySem.W.mg_none_of X G z_len
    n_list := PySem.W.mg_none_of X G z_list
    n_max := PySem.W.mg_none_of X G z_max
    n_min := PySem.W.mg_none_of X G z_min
    n_range := PySem.W.mg_none_of X G z_range
    n_set := PySem.W.mg_none_of X G z_set
    n_sorted := PySem.W.mg_none_of X G z_sorted
    n_str := PySem.W.mg_none_of X G z_str
    n_sum := PySem.W.mg_none_of X G z_sum
    n_tuple := PySem.W.mg_none_of X G z_tuple
    n_zip := PySem.W.mg_none_of X G z_zip
    c_AWAKE := PySem.W.mg_of X G ac6
    r_AWAKE := rc6
    c_RECORDS := PySem.W.mg_of X G ac7
    r_RECORDS := rc7
    c_SLEEPS := PySem.W.mg_of X G ac8
    r_SLEEPS := rc8
    c_FRESH := PySem.W.mg_of X G ac9
    r_FRESH := rc9
    c_HARMS := PySem.W.mg_of X G ac10
    r_HARMS := rc10
    c_PARTS := PySem.W.mg_of X G ac11
    r_PARTS := rc11
    t_PARTS := tc11
    c_FAR := PySem.W.mg_of X G ac25
    r_FAR := rc25
    c_UNWATCHED := PySem.W.mg_of X G ac26
    r_UNWATCHED := rc26
  }
  exact ⟨PySem.W.fnOf "law" "law" (defArgs s_law) (defBody s_law) (defScope s_law) .none kV59 dc59 pm59 an59 cd59 ct59, fun s v => .of_eq rfl, fun base _ _ => ok_law T⟩
theorem walk {l : PySem.W.OpenLaw} {q : Program} {loose : List Str} {XP : (Str → Option Value) → Heap → Prop} {YP : World → Heap → Prop} {d : DefRec} {K : Params → PySem.W.Frag} (hn : l.most = some 63) (hdf : d.params.defaults = [])
    (hY : ∀ (w : World) (h : Heap), YP w h → (K w.params).In h)
    (F : ∀ (w : World) (mg : Str → Option Value) (fa : Addr) (h : Heap), (K w.params).In h → h.Ns mainGlobals mg → mg d.name = some (.ref fa) →
      ∃ fd : FuncData, (∀ (s : Shared) (u : Value), BindsTo s fd ⟨[u], []⟩ [("script", u)]) ∧ ∀ base : Heap, (K w.params).In base → base.Ns mainGlobals mg → FnOk l.prog w (K w.params) mg base CX0 10 fa fd ["script"] (spF (K w.params) none F_law)) :
    PySem.W.WalkO q loose XP YP l.row.toRowW d [] (fun f vs => PySem.call f vs) :=
  L2.walk_ofB (n := 63) (k := 10) (x := "script") (CX := fun _ => CX0) (sp := fun w => spF (K w.params) none F_law) hn (by decide) hdf ⟨rfl, by decide, by decide⟩ hY F (fun w H a ns hl hb _ hS => law_sp hS (F_law_ok (fun n hn => log2_bits (hb n hn)) (Nat.le_trans hl (by decide)))) (fun _ _ _ _ _ h => h)
end
end K8

open PySem PySem.W PyProof.Rows
set_option maxRecDepth 100000 in
set_option maxHeartbeats 0 in
theorem PySem.Challenge.cw_selfstarts_k08_whole_good_values_holds : PySem.Challenge.rw_selfstarts_k08_whole_good_values.Holds := by
  w_on; o_law; k_head; (case hw => w_witness2)
  k_fill
  refine K8.walk (l := PySem.Challenge.rw_selfstarts_k08_whole_good_values) rfl rfl (fun w h Y => PySem.W.kIn_of Y) ?F
  case F =>
    intro w mg fa h KX G hmg
    refine' K8.all_mk KX G hmg ?a12 ?l12 ?c12 ?k12 ?a13 ?l13 ?c13 ?k13 ?a14 ?l14 ?c14 ?k14 ?a15 ?l15 ?c15 ?k15 ?a16 ?l16 ?c16 ?k16 ?a17 ?l17 ?c17 ?k17 ?a18 ?l18 ?c18 ?k18 ?a19 ?l19 ?c19 ?k19 ?a20 ?l20 ?c20 ?k20 ?a22 ?l22 ?c22 ?k22 ?a23 ?l23 ?c23 ?k23 ?a27 ?l27 ?c27 ?k27 ?a28 ?l28 ?c28 ?k28 ?a29 ?l29 ?c29 ?k29 ?a30 ?l30 ?c30 ?k30 ?a31 ?l31 ?c31 ?k31 ?a32 ?l32 ?c32 ?k32 ?a33 ?l33 ?c33 ?k33 ?a34 ?l34 ?c34 ?k34 ?a35 ?l35 ?c35 ?k35 ?a36 ?l36 ?c36 ?k36 ?a37 ?l37 ?c37 ?k37 ?a38 ?l38 ?c38 ?k38 ?a40 ?l40 ?c40 ?k40 ?a41 ?l41 ?c41 ?k41 ?a42 ?l42 ?c42 ?k42 ?a44 ?l44 ?c44 ?k44 ?a45 ?l45 ?c45 ?k45 ?a46 ?l46 ?c46 ?k46 ?a47 ?l47 ?c47 ?k47 ?a48 ?l48 ?c48 ?k48 ?a49 ?l49 ?c49 ?k49 ?a50 ?l50 ?c50 ?k50 ?a51 ?l51 ?c51 ?k51 ?a52 ?l52 ?c52 ?k52 ?a53 ?l53 ?c53 ?k53 ?a54 ?l54 ?c54 ?k54 ?a55 ?l55 ?c55 ?k55 ?a56 ?l56 ?c56 ?k56 ?a57 ?l57 ?c57 ?k57 ?a58 ?l58 ?c58 ?k58 ?a59 ?l59 ?c59 ?k59 ?z_abs ?z_all ?z_bool ?z_enumerate ?z_int ?z_isinstance ?z_len ?z_list ?z_max ?z_min ?z_range ?z_set ?z_sorted ?z_str ?z_sum ?z_tuple ?z_zip ?ac6 ?rc6 ?ac7 ?rc7 ?ac8 ?rc8 ?ac9 ?rc9 ?ac10 ?rc10 ?ac11 ?rc11 ?ac25 ?rc25 ?ac26 ?rc26 ?tc11
    (case a12 => k_is)
    (case l12 => k_is)
    (case c12 => k_is)
    (case k12 => k_is)
    (case a13 => k_is)
    (case l13 => k_is)
    (case c13 => k_is)
    (case k13 => k_is)
    (case a14 => k_is)
    (case l14 => k_is)
    (case c14 => k_is)
    (case k14 => k_is)
    (case a15 => k_is)
    (case l15 => k_is)
    (case c15 => k_is)
    (case k15 => k_is)
    (case a16 => k_is)
    (case l16 => k_is)
    (case c16 => k_is)
    (case k16 => k_is)
    (case a17 => k_is)
    (case l17 => k_is)
    (case c17 => k_is)
    (case k17 => k_is)
    (case a18 => k_is)
    (case l18 => k_is)
    (case c18 => k_is)
    (case k18 => k_is)
    (case a19 => k_is)
    (case l19 => k_is)
    (case c19 => k_is)
    (case k19 => k_is)
    (case a20 => k_is)
    (case l20 => k_is)
    (case c20 => k_is)
    (case k20 => k_is)
    (case a22 => k_is)
    (case l22 => k_is)
    (case c22 => k_is)
    (case k22 => k_is)
    (case a23 => k_is)
    (case l23 => k_is)
    (case c23 => k_is)
    (case k23 => k_is)
    (case a27 => k_is)
    (case l27 => k_is)
    (case c27 => k_is)
    (case k27 => k_is)
    (case a28 => k_is)
    (case l28 => k_is)
    (case c28 => k_is)
    (case k28 => k_is)
    (case a29 => k_is)
    (case l29 => k_is)
    (case c29 => k_is)
    (case k29 => k_is)
    (case a30 => k_is)
    (case l30 => k_is)
    (case c30 => k_is)
    (case k30 => k_is)
    (case a31 => k_is)
    (case l31 => k_is)
    (case c31 => k_is)
    (case k31 => k_is)
    (case a32 => k_is)
    (case l32 => k_is)
    (case c32 => k_is)
    (case k32 => k_is)
    (case a33 => k_is)
    (case l33 => k_is)
    (case c33 => k_is)
    (case k33 => k_is)
    (case a34 => k_is)
    (case l34 => k_is)
    (case c34 => k_is)
    (case k34 => k_is)
    (case a35 => k_is)
    (case l35 => k_is)
    (case c35 => k_is)
    (case k35 => k_is)
    (case a36 => k_is)
    (case l36 => k_is)
    (case c36 => k_is)
    (case k36 => k_is)
    (case a37 => k_is)
    (case l37 => k_is)
    (case c37 => k_is)
    (case k37 => k_is)
    (case a38 => k_is)
    (case l38 => k_is)
    (case c38 => k_is)
    (case k38 => k_is)
    (case a40 => k_is)
    (case l40 => k_is)
    (case c40 => k_is)
    (case k40 => k_is)
    (case a41 => k_is)
    (case l41 => k_is)
    (case c41 => k_is)
    (case k41 => k_is)
    (case a42 => k_is)
    (case l42 => k_is)
    (case c42 => k_is)
    (case k42 => k_is)
    (case a44 => k_is)
    (case l44 => k_is)
    (case c44 => k_is)
    (case k44 => k_is)
    (case a45 => k_is)
    (case l45 => k_is)
    (case c45 => k_is)
    (case k45 => k_is)
    (case a46 => k_is)
    (case l46 => k_is)
    (case c46 => k_is)
    (case k46 => k_is)
    (case a47 => k_is)
    (case l47 => k_is)
    (case c47 => k_is)
    (case k47 => k_is)
    (case a48 => k_is)
    (case l48 => k_is)
    (case c48 => k_is)
    (case k48 => k_is)
    (case a49 => k_is)
    (case l49 => k_is)
    (case c49 => k_is)
    (case k49 => k_is)
    (case a50 => k_is)
    (case l50 => k_is)
    (case c50 => k_is)
    (case k50 => k_is)
    (case a51 => k_is)
    (case l51 => k_is)
    (case c51 => k_is)
    (case k51 => k_is)
    (case a52 => k_is)
    (case l52 => k_is)
    (case c52 => k_is)
    (case k52 => k_is)
    (case a53 => k_is)
    (case l53 => k_is)
    (case c53 => k_is)
    (case k53 => k_is)
    (case a54 => k_is)
    (case l54 => k_is)
    (case c54 => k_is)
    (case k54 => k_is)
    (case a55 => k_is)
    (case l55 => k_is)
    (case c55 => k_is)
    (case k55 => k_is)
    (case a56 => k_is)
    (case l56 => k_is)
    (case c56 => k_is)
    (case k56 => k_is)
    (case a57 => k_is)
    (case l57 => k_is)
    (case c57 => k_is)
    (case k57 => k_is)
    (case a58 => k_is)
    (case l58 => k_is)
    (case c58 => k_is)
    (case k58 => k_is)
    (case a59 => k_is)
    (case l59 => k_is)
    (case c59 => k_is)
    (case k59 => k_is)
    (case z_abs => k_is)
    (case z_all => k_is)
    (case z_bool => k_is)
    (case z_enumerate => k_is)
    (case z_int => k_is)
    (case z_isinstance => k_is)
    (case z_len => k_is)
    (case z_list => k_is)
    (case z_max => k_is)
    (case z_min => k_is)
    (case z_range => k_is)
    (case z_set => k_is)
    (case z_sorted => k_is)
    (case z_str => k_is)
    (case z_sum => k_is)
    (case z_tuple => k_is)
    (case z_zip => k_is)
    (case ac6 => k_is)
    (case ac7 => k_is)
    (case ac8 => k_is)
    (case ac9 => k_is)
    (case ac10 => k_is)
    (case ac11 => k_is)
    (case ac25 => k_is)
    (case ac26 => k_is)
    (case tc11 => (refine' PD.tupk ?tl; (case tl => k_is)))
    case rc6 =>
      exact PD.cst_str
    case rc7 =>
      exact PD.cst_str
    case rc8 =>
      exact PD.cst_str
    case rc9 =>
      refine' PD.cst_tup ?l ?n ?a
      case l => k_is
      case n => decide
      case a =>
        refine' PD.cst_cons ?x ?y
        case x =>
          exact PD.cst_str
        case y =>
          refine' PD.cst_cons ?x ?y
          case x =>
            exact PD.cst_int
          case y =>
            refine' PD.cst_cons ?x ?y
            case x =>
              exact PD.cst_int
            case y =>
              refine' PD.cst_cons ?x ?y
              case x =>
                refine' PD.cst_tup ?l ?n ?a
                case l => k_is
                case n => decide
                case a =>
                  exact PD.cst_nil
              case y =>
                exact PD.cst_nil
    case rc10 =>
      refine' PD.cst_tup ?l ?n ?a
      case l => k_is
      case n => decide
      case a =>
        refine' PD.cst_cons ?x ?y
        case x =>
          exact PD.cst_str
        case y =>
          refine' PD.cst_cons ?x ?y
          case x =>
            exact PD.cst_str
          case y =>
            refine' PD.cst_cons ?x ?y
            case x =>
              exact PD.cst_str
            case y =>
              refine' PD.cst_cons ?x ?y
              case x =>
                exact PD.cst_str
              case y =>
                refine' PD.cst_cons ?x ?y
                case x =>
                  exact PD.cst_str
                case y =>
                  exact PD.cst_nil
    case rc11 =>
      refine' PD.cst_tup ?l ?n ?a
      case l => k_is
      case n => decide
      case a =>
        refine' PD.cst_cons ?x ?y
        case x =>
          exact PD.cst_str
        case y =>
          refine' PD.cst_cons ?x ?y
          case x =>
            exact PD.cst_str
          case y =>
            refine' PD.cst_cons ?x ?y
            case x =>
              exact PD.cst_str
            case y =>
              refine' PD.cst_cons ?x ?y
              case x =>
                exact PD.cst_str
              case y =>
                refine' PD.cst_cons ?x ?y
                case x =>
                  exact PD.cst_str
                case y =>
                  exact PD.cst_nil
    case rc25 =>
      exact PD.cst_int
    case rc26 =>
      refine' PD.cst_tup ?l ?n ?a
      case l => k_is
      case n => decide
      case a =>
        refine' PD.cst_cons ?x ?y
        case x =>
          exact PD.cst_bool
        case y =>
          refine' PD.cst_cons ?x ?y
          case x =>
            exact PD.cst_int
          case y =>
            refine' PD.cst_cons ?x ?y
            case x =>
              exact PD.cst_int
            case y =>
              refine' PD.cst_cons ?x ?y
              case x =>
                exact PD.cst_bool
              case y =>
                refine' PD.cst_cons ?x ?y
                case x =>
                  exact PD.cst_bool
                case y =>
                  refine' PD.cst_cons ?x ?y
                  case x =>
                    exact PD.cst_int
                  case y =>
                    refine' PD.cst_cons ?x ?y
                    case x =>
                      exact PD.cst_bool
                    case y =>
                      exact PD.cst_nil

