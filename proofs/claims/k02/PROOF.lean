import PyProof.Rows.All
import Wide.All
import OpenK.AllK
import Wide.FinOn
import HandS.ForMost
import HandS.IsInst
import HandS.Wide
import HandS.Style
import HandS.Flow
import HandS.TupAny
import HandS.TupMul
import HandS.EndBits
import HandS.Evl
import KE.KDictKeyed
import HandS.Zip
import KE.KeyNested
import KE.KDictDisplayH
import KE.GoesEnum
import HandS.Set
import HandS.SetFor
import HandS.SetKeys
import HandS.Strs
import KE.KDictZip
import HandS.Keys
import PySem.Challenge.RW_selfstarts_k02_whole_rows_taped
set_option Elab.async false
set_option linter.all false
set_option maxRecDepth 100000
set_option maxHeartbeats 4000000
set_option autoImplicit false
/-! PD: what a program over plain data computes, as Lean functions over plain data (states: the slots of a def); each rule of HandS is told once over this reading. -/
namespace PD
open PySem PySem.Spec L2
open Evl (Ex)

abbrev D := PyData
/-- what a slot holds: a datum, or a list that nobody else holds -/
inductive LV where
  | d (x : D)
  | own (xs : List D)
  | dct (kvs : List (D × D))
def LV.owned : LV → Bool
  | .d _ => false
  | .own _ => true
  | .dct _ => true
abbrev DE := List (Option LV)
/-- an error that is raised: its class's name, its field -/
structure EV where
  cls : Str
  arg : Option Int
/-- how an expression ends: a value and the slots; an error; or it is not told -/
inductive R (α : Type) where
  | ok (a : α) (ρ : DE)
  | ex (e : EV) (ρ : DE)
  | bad
abbrev M (α : Type) : Type := DE → R α
def M.bind {α β : Type} (m : M α) (k : α → M β) : M β := fun ρ => match m ρ with
  | .ok a ρ1 => k a ρ1
  | .ex e ρ1 => .ex e ρ1
  | .bad => .bad
def M.ret {α : Type} (a : α) : M α := fun ρ => .ok a ρ
def M.lift {α : Type} (o : Option α) : M α := fun ρ => match o with
  | some a => .ok a ρ
  | none => .bad

end PD
namespace L2
open PySem PySem.Spec
open Evl (Ex)
abbrev PDD := PyData
/-! ### data at an address -/
mutual
theorem Dp.mono {K : PySem.W.Frag} {H H' : Hp} (e : Ex H H') : ∀ (d : PDD) (v : V), Dp K H v d → Dp K H' v d
  | .none, _, h => by cases h; exact .non
  | .bool b, _, h => by cases h; exact .bl b
  | .int i, _, h => by cases h; exact .int i
  | .str x, _, h => by cases h; exact .str x
  | .list ds, _, h => by
    cases h with
    | lst hs ha => exact .lst (Evl.ex_l e hs) (DpAll.mono e ds _ ha)
  | .tuple ds, _, h => by
    cases h with
    | tup hs ha => exact .tup (Evl.ex_t e hs) (DpAll.mono e ds _ ha)
  | .dict _, _, h => by cases h
theorem DpAll.mono {K : PySem.W.Frag} {H H' : Hp} (e : Ex H H') : ∀ (ds : List PDD) (vs : List V), DpAll K H vs ds → DpAll K H' vs ds
  | [], _, h => by cases h; exact .nil
  | d :: ds, _, h => by
    cases h with
    | cons h1 h2 => exact .cons (Dp.mono e d _ h1) (DpAll.mono e ds _ h2)
end
section
variable {K : PySem.W.Frag} {H H' : Hp}
theorem DpAll.length : ∀ {vs : List V} {ds : List PDD}, DpAll K H vs ds → vs.length = ds.length
  | _, _, .nil => rfl
  | _, _, .cons _ h => by rw [List.length_cons, List.length_cons, DpAll.length h]
theorem DpAll.get : ∀ {vs : List V} {ds : List PDD} {i : Nat} {x : PDD}, DpAll K H vs ds → ds[i]? = some x → ∃ v, vs[i]? = some v ∧ Dp K H v x
  | _, _, _, _, .nil, e => by simp at e
  | _, _, 0, _, .cons h _, e => by
    simp at e
    subst e
    exact ⟨_, rfl, h⟩
  | _, _, i + 1, x, .cons _ h, e => by
    obtain ⟨v, h1, h2⟩ := DpAll.get (i := i) (x := x) h (by simpa using e)
    exact ⟨v, by simpa using h1, h2⟩
theorem DpAll.get' : ∀ {vs : List V} {ds : List PDD} {i : Nat} {v : V}, DpAll K H vs ds → vs[i]? = some v → ∃ x, ds[i]? = some x ∧ Dp K H v x
  | _, _, _, _, .nil, e => by simp at e
  | _, _, 0, _, .cons h _, e => by
    simp at e
    subst e
    exact ⟨_, rfl, h⟩
  | _, _, i + 1, v, .cons _ h, e => by
    obtain ⟨x, h1, h2⟩ := DpAll.get' (i := i) (v := v) h (by simpa using e)
    exact ⟨x, by simpa using h1, h2⟩
theorem DpAll.append : ∀ {vs ws : List V} {ds es : List PDD}, DpAll K H vs ds → DpAll K H ws es → DpAll K H (vs ++ ws) (ds ++ es)
  | _, _, _, _, .nil, h => h
  | _, _, _, _, .cons a b, h => .cons a (DpAll.append b h)
theorem DpAll.take : ∀ {vs : List V} {ds : List PDD} (n : Nat), DpAll K H vs ds → DpAll K H (vs.take n) (ds.take n)
  | _, _, 0, _ => .nil
  | _, _, _ + 1, .nil => .nil
  | _, _, n + 1, .cons a b => .cons a (DpAll.take n b)
theorem DpAll.drop : ∀ {vs : List V} {ds : List PDD} (n : Nat), DpAll K H vs ds → DpAll K H (vs.drop n) (ds.drop n)
  | _, _, 0, h => h
  | _, _, _ + 1, .nil => .nil
  | _, _, n + 1, .cons _ b => DpAll.drop n b
theorem DpAll.set : ∀ {vs : List V} {ds : List PDD} {v : V} {x : PDD} (i : Nat), DpAll K H vs ds → Dp K H v x → DpAll K H (vs.set i v) (ds.set i x)
  | _, _, _, _, _, .nil, _ => .nil
  | _, _, _, _, 0, .cons _ b, h => .cons h b
  | _, _, _, _, i + 1, .cons a b, h => .cons a (DpAll.set i b h)
theorem DpAll.rep : ∀ {vs : List V} {ds : List PDD} (n : Nat), DpAll K H vs ds → DpAll K H (List.replicate n vs).flatten (List.replicate n ds).flatten
  | _, _, 0, _ => .nil
  | vs, ds, n + 1, h => by
    rw [List.replicate_succ, List.replicate_succ, List.flatten_cons, List.flatten_cons]
    exact DpAll.append h (DpAll.rep n h)
theorem DpAll.dropLast {vs : List V} {ds : List PDD} (h : DpAll K H vs ds) : DpAll K H vs.dropLast ds.dropLast := by
  rw [List.dropLast_eq_take, List.dropLast_eq_take, DpAll.length h]
  exact DpAll.take _ h
theorem Dp.int_of {i : Int} {v : V} (h : Dp K H v (.int i)) : v = .int i := by cases h; rfl
theorem Dp.bool_of {i : Bool} {v : V} (h : Dp K H v (.bool i)) : v = .bl i := by cases h; rfl
theorem Dp.str_of {i : Str} {v : V} (h : Dp K H v (.str i)) : v = .str i := by cases h; rfl
theorem Dp.none_of {v : V} (h : Dp K H v .none) : v = .non := by cases h; rfl
theorem Dp.tup_of {ds : List PDD} {v : V} (h : Dp K H v (.tuple ds)) : ∃ a vs, v = .ref a ∧ SqT K H a vs ∧ DpAll K H vs ds := by
  cases h with
  | tup hs ha => exact ⟨_, _, rfl, hs, ha⟩
theorem Dp.list_of {ds : List PDD} {v : V} (h : Dp K H v (.list ds)) : ∃ a vs, v = .ref a ∧ SqL K H a vs ∧ DpAll K H vs ds := by
  cases h with
  | lst hs ha => exact ⟨_, _, rfl, hs, ha⟩
end

end L2
namespace PD
open PySem PySem.Spec L2
open Evl (Ex)
/-! ### dicts that nobody else holds -/
mutual
/-- a datum as a key -/
def nk : D → Option NestedKey
  | .none => some .none
  | .bool b => some (.num (if b then 1 else 0))
  | .int i => some (.num i)
  | .str x => some (.text x)
  | .tuple xs => (nkAll xs).map .tup
  | .list _ => none
  | .dict _ => none
def nkAll : List D → Option (List NestedKey)
  | [] => some []
  | x :: xs => (nk x).bind fun k => (nkAll xs).map fun ks => k :: ks
end
/-- a key of a dict of ints and texts, as a datum -/
def keyD : Key → D
  | .inl i => .int i
  | .inr x => .str x
def entN (w : World) (x : NestedKey × Addr × Value) : DictEntry := ⟨x.1.hash w, .ref x.2.1, x.2.2⟩
/-- at a stands a dict with just these entries, its keys tuples -/
def RawN (w : World) (a : Addr) (xs : List (NestedKey × Addr × Value)) : Heap → Prop := fun h => xs.length ≤ sizeLine ∧ (a == sysModules) = false ∧
  ∃ o es ep, h.get? a = some o ∧ o.ExactDict ∧ o.data = .dict es ep ∧ es.toList = xs.map (entN w) ∧ (xs.map (·.1)).Nodup
def KeysRel (K : PySem.W.Frag) (Hf : Hp) : List (Key × V) → List (D × D) → Prop := Paired fun p q => keyD p.1 = q.1 ∧ Dp K Hf p.2 q.2
def RelN (K : PySem.W.Frag) (Hf : Hp) : List (NestedKey × Addr × Value) → List (D × D) → Prop :=
  Paired fun x q => nk q.1 = some x.1 ∧ x.1.depth ≤ 8 ∧ Dp K Hf (.ref x.2.1) q.1 ∧ ∃ v, RelV v x.2.2 ∧ Dp K Hf v q.2
def DictHo (w : World) (K : PySem.W.Frag) (Hf : Hp) (a : Addr) (ho : HO) (kvs : List (D × D)) : Prop :=
  (∃ ks, ho = .dK ks ∧ KeysRel K Hf ks kvs) ∨ ∃ xs, ho = .ext (RawN w a xs) ∧ RelN K Hf xs kvs ∧ xs ≠ []
/-- what stands at a is what the slot says -/
def HoldsO (w : World) (K : PySem.W.Frag) (Hf : Hp) (a : Addr) (ho : HO) : LV → Prop
  | .d _ => False
  | .own xs => ∃ vs, ho = .lst vs ∧ DpAll K Hf vs xs
  | .dct kvs => DictHo w K Hf a ho kvs
theorem HoldsO.mono {w : World} {K : PySem.W.Frag} {Hf Hf' : Hp} {a : Addr} {ho : HO} (e : Ex Hf Hf') : ∀ {l : LV}, HoldsO w K Hf a ho l → HoldsO w K Hf' a ho l
  | .own _, ⟨vs, h1, h2⟩ => ⟨vs, h1, DpAll.mono e _ _ h2⟩
  | .dct _, .inl ⟨ks, h1, h2⟩ => .inl ⟨ks, h1, Paired.mapP h2 fun _ _ z => ⟨z.1, Dp.mono e _ _ z.2⟩⟩
  | .dct _, .inr ⟨xs, h1, h2, h3⟩ => .inr ⟨xs, h1, Paired.mapP h2 fun _ _ z => ⟨z.1, z.2.1, Dp.mono e _ _ z.2.2.1, let ⟨v, r, d⟩ := z.2.2.2; ⟨v, r, Dp.mono e _ _ d⟩⟩, h3⟩
theorem HoldsO.owned {w : World} {K : PySem.W.Frag} {Hf : Hp} {a : Addr} {ho : HO} : ∀ {l : LV}, HoldsO w K Hf a ho l → l.owned = true
  | .own _, _ => rfl
  | .dct _, _ => rfl
/-! ### the state of a def, and what it means -/
/-- the def's entry: what was frozen, the heap; the one list that a caller handed in as its own (slot, address); lists that are being made around us; the wish of errors -/
structure Fc where
  Hf0 : Hp
  H0 : Hp
  io : Option (Nat × Addr)
  no : List (Addr × HO)
  E : EV → Hp → Prop
  w : World
/-- the slot holds a thing of our own -/
def IsOwn (ρ : DE) (i : Nat) : Prop := ∃ l : LV, ρ[i]? = some (some l) ∧ l.owned = true
def IsLst (ρ : DE) (i : Nat) : Prop := ∃ xs : List D, ρ[i]? = some (some (LV.own xs))
theorem IsLst.own {ρ : DE} {i : Nat} (h : IsLst ρ i) : IsOwn ρ i := let ⟨_, e⟩ := h; ⟨_, e, rfl⟩
structure SR (K : PySem.W.Frag) (C : Fc) (Hf H : Hp) (σ : L2.St) (ρ : DE) : Prop where
  len : σ.length = ρ.length
  e0 : Ex C.Hf0 Hf
  e1 : Ex Hf H
  fresh : ∀ b o, Hf b = some o → C.Hf0 b = some o ∨ C.H0 b = none
  keep : ∀ b o, C.H0 b = some o → (∀ q, C.io = some q → b ≠ q.2) → H b = some o
  pin : ∀ q, C.io = some q → σ[q.1]? = some (some (.ref q.2)) ∧ IsLst ρ q.1
  no : ∀ p ∈ C.no, Hf p.1 = none ∧ H p.1 = some p.2
  val : ∀ (i : Nat) (x : D), ρ[i]? = some (some (.d x)) → ∃ v, σ[i]? = some (some v) ∧ Dp K Hf v x
  ownd : ∀ (i : Nat) (l : LV), ρ[i]? = some (some l) → l.owned = true → ∃ a ho, σ[i]? = some (some (.ref a)) ∧ Hf a = none ∧ H a = some ho ∧ HoldsO C.w K Hf a ho l ∧ (C.H0 a = none ∨ ∃ q, C.io = some q ∧ a = q.2) ∧ ∀ p ∈ C.no, a ≠ p.1
  apart : ∀ (i j : Nat) (a : Addr), i ≠ j → IsOwn ρ i → IsOwn ρ j → σ[i]? = some (some (.ref a)) → σ[j]? = some (some (.ref a)) → False

theorem SR.own {K : PySem.W.Frag} {C : Fc} {Hf H : Hp} {σ : L2.St} {ρ : DE} (s : SR K C Hf H σ ρ) (i : Nat) (xs : List D) (h : ρ[i]? = some (some (.own xs))) : ∃ a vs, σ[i]? = some (some (.ref a)) ∧ Hf a = none ∧ H a = some (.lst vs) ∧ DpAll K Hf vs xs ∧ (C.H0 a = none ∨ ∃ q, C.io = some q ∧ a = q.2) ∧ ∀ p ∈ C.no, a ≠ p.1 := by
  obtain ⟨a, ho, h1, h2, h3, ⟨vs, rfl, h4⟩, h5, h6⟩ := s.ownd i _ h rfl
  exact ⟨a, vs, h1, h2, h3, h4, h5, h6⟩
theorem SR.dct {K : PySem.W.Frag} {C : Fc} {Hf H : Hp} {σ : L2.St} {ρ : DE} (s : SR K C Hf H σ ρ) (i : Nat) (kvs : List (D × D)) (h : ρ[i]? = some (some (.dct kvs))) : ∃ a ho, σ[i]? = some (some (.ref a)) ∧ Hf a = none ∧ H a = some ho ∧ DictHo C.w K Hf a ho kvs ∧ (C.H0 a = none ∨ ∃ q, C.io = some q ∧ a = q.2) ∧ ∀ p ∈ C.no, a ≠ p.1 := s.ownd i _ h rfl
/-- both heaps grow by new objects -/
structure Grow (Hf H Hf' H' : Hp) : Prop where
  f : Ex Hf Hf'
  h : Ex H H'
  s : Ex Hf' H'
  n : ∀ b o, Hf' b = some o → Hf b = some o ∨ H b = none
theorem Grow.refl {Hf H : Hp} (e : Ex Hf H) : Grow Hf H Hf H := ⟨Ex.refl _, Ex.refl _, e, fun _ _ h => .inl h⟩
theorem Grow.trans {Hf H Hf1 H1 Hf2 H2 : Hp} (a : Grow Hf H Hf1 H1) (b : Grow Hf1 H1 Hf2 H2) : Grow Hf H Hf2 H2 :=
  ⟨a.f.trans b.f, a.h.trans b.h, b.s, fun c o h => by
    rcases b.n c o h with h1 | h1
    · exact a.n c o h1
    · exact .inr (Evl.fresh_back a.h h1)⟩
theorem ex_upd2 {Hf H : Hp} {p : Addr} {o : HO} (e : Ex Hf H) : Ex (upd Hf p o) (upd H p o) := fun b u h => by
  by_cases hb : b = p
  · subst hb
    rw [upd_same] at h ⊢
    exact h
  · rw [upd_ne hb] at h ⊢
    exact e b u h
/-- a new object, known to all -/
theorem Grow.new {Hf H : Hp} {p : Addr} {o : HO} (e : Ex Hf H) (hp : H p = none) : Grow Hf H (upd Hf p o) (upd H p o) :=
  ⟨Ex.new (Evl.fresh_back e hp), Ex.new hp, ex_upd2 e, fun b u h => by
    by_cases hb : b = p
    · exact .inr (hb ▸ hp)
    · rw [upd_ne hb] at h
      exact .inl h⟩
/-- a new object of ours -/
theorem Grow.mine {Hf H : Hp} {p : Addr} {o : HO} (e : Ex Hf H) (hp : H p = none) : Grow Hf H Hf (upd H p o) :=
  ⟨Ex.refl _, Ex.new hp, e.trans (Ex.new hp), fun _ _ h => .inl h⟩

section
variable {K : PySem.W.Frag} {C : Fc} {Hf H Hf' H' : Hp} {σ : L2.St} {ρ : DE}
theorem SR.h0 (s : SR K C Hf H σ ρ) {p : Addr} (hp : H p = none) : C.H0 p = none := by
  cases hz : C.H0 p with
  | none => rfl
  | some o =>
    by_cases hq : ∀ q, C.io = some q → p ≠ q.2
    · rw [s.keep p o hz hq] at hp
      cases hp
    · cases hi : C.io with
      | none => exact absurd (fun q h => by rw [hi] at h; cases h) hq
      | some q =>
        by_cases e : p = q.2
        · subst e
          obtain ⟨h1, xs, h2⟩ := s.pin q hi
          obtain ⟨a, vs, h3, _, h4, _⟩ := s.own _ _ h2
          rw [h1] at h3
          cases h3
          rw [h4] at hp
          cases hp
        · exact absurd (fun q' h => by rw [hi] at h; cases h; exact e) hq
theorem SR.grow (s : SR K C Hf H σ ρ) (g : Grow Hf H Hf' H') : SR K C Hf' H' σ ρ where
  len := s.len
  e0 := s.e0.trans g.f
  e1 := g.s
  fresh := fun b o h => by
    rcases g.n b o h with h1 | h1
    · exact s.fresh b o h1
    · exact .inr (s.h0 h1)
  keep := fun b o h q => g.h b o (s.keep b o h q)
  pin := s.pin
  no := fun p hp => by
    obtain ⟨h1, h2⟩ := s.no p hp
    refine ⟨?_, g.h _ _ h2⟩
    cases q : Hf' p.1 with
    | none => rfl
    | some o =>
      rcases g.n _ _ q with h3 | h3
      · rw [h1] at h3; cases h3
      · rw [h2] at h3; cases h3
  val := fun i x h => by
    obtain ⟨v, h1, h2⟩ := s.val i x h
    exact ⟨v, h1, Dp.mono g.f _ _ h2⟩
  ownd := fun i l h hl => by
    obtain ⟨a, ho, h1, h2, h3, h4, h5, h6⟩ := s.ownd i l h hl
    refine ⟨a, ho, h1, ?_, g.h _ _ h3, h4.mono g.f, h5, h6⟩
    cases q : Hf' a with
    | none => rfl
    | some o =>
      rcases g.n _ _ q with h7 | h7
      · rw [h2] at h7; cases h7
      · rw [h3] at h7; cases h7
  apart := s.apart
theorem get_set {α : Type} {l : List α} {i j : Nat} {x y : α} (h : (l.set i x)[j]? = some y) : (i = j ∧ y = x ∧ j < l.length) ∨ (i ≠ j ∧ l[j]? = some y) := by
  by_cases e : i = j
  · subst e
    by_cases hl : i < l.length
    · rw [List.getElem?_set_self hl] at h
      exact .inl ⟨rfl, (Option.some.inj h).symm, hl⟩
    · rw [List.getElem?_eq_none (by simpa using hl)] at h
      cases h
  · rw [List.getElem?_set_ne e] at h
    exact .inr ⟨e, h⟩
/-- a slot takes a datum -/
theorem SR.setD (s : SR K C Hf H σ ρ) {i : Nat} {v : V} {x : D} (h : Dp K Hf v x) (hp : ∀ q, C.io = some q → q.1 ≠ i) : SR K C Hf H (σ.set i (some v)) (ρ.set i (some (.d x))) := by
  have old : ∀ {j l}, (ρ.set i (some (.d x)))[j]? = some (some l) → l.owned = true → i ≠ j ∧ ρ[j]? = some (some l) := fun {j l} h hl => by
    rcases get_set h with ⟨_, e, _⟩ | h
    · cases e
      cases hl
    · exact h
  refine ⟨by simpa using s.len, s.e0, s.e1, s.fresh, s.keep, fun q hq => ?_, s.no, fun j y hj => ?_, fun j l hj hl => ?_, fun j k a hne h1 h2 h3 h4 => ?_⟩
  · have ne := hp q hq
    obtain ⟨h1, xs, h2⟩ := s.pin q hq
    exact ⟨by rw [List.getElem?_set_ne (Ne.symm ne)]; exact h1, xs, by rw [List.getElem?_set_ne (Ne.symm ne)]; exact h2⟩
  · rcases get_set hj with ⟨e, e2, hl⟩ | ⟨ne, hj⟩
    · subst e
      cases e2
      exact ⟨v, List.getElem?_set_self (by rw [s.len]; exact hl), h⟩
    · obtain ⟨v', h1, h2⟩ := s.val j y hj
      exact ⟨v', by rw [List.getElem?_set_ne ne]; exact h1, h2⟩
  · obtain ⟨ne, hj⟩ := old hj hl
    obtain ⟨a, vs, h1, h2⟩ := s.ownd j l hj hl
    exact ⟨a, vs, by rw [List.getElem?_set_ne ne]; exact h1, h2⟩
  · obtain ⟨xs, h1, o1⟩ := h1
    obtain ⟨ys, h2, o2⟩ := h2
    obtain ⟨n1, h1⟩ := old h1 o1
    obtain ⟨n2, h2⟩ := old h2 o2
    rw [List.getElem?_set_ne n1] at h3
    rw [List.getElem?_set_ne n2] at h4
    exact s.apart j k a hne ⟨xs, h1, o1⟩ ⟨ys, h2, o2⟩ h3 h4
/-- a slot takes a thing of our own -/
theorem SR.setL (s : SR K C Hf H σ ρ) {i : Nat} {a : Addr} {ho : HO} {l : LV} (h1 : Hf a = none) (h2 : H a = some ho) (h3 : HoldsO C.w K Hf a ho l) (h4 : C.H0 a = none) (h5 : ∀ p ∈ C.no, a ≠ p.1)
    (h6 : ∀ j, IsOwn ρ j → σ[j]? ≠ some (some (.ref a))) (hp : ∀ q, C.io = some q → q.1 ≠ i) : SR K C Hf H (σ.set i (some (.ref a))) (ρ.set i (some l)) := by
  refine ⟨by simpa using s.len, s.e0, s.e1, s.fresh, s.keep, fun q hq => ?_, s.no, fun j y hj => ?_, fun j m hj hm => ?_, fun j k b hne g1 g2 g3 g4 => ?_⟩
  · have ne := hp q hq
    obtain ⟨h1, xs, h2⟩ := s.pin q hq
    exact ⟨by rw [List.getElem?_set_ne (Ne.symm ne)]; exact h1, xs, by rw [List.getElem?_set_ne (Ne.symm ne)]; exact h2⟩
  · rcases get_set hj with ⟨_, e2, _⟩ | ⟨ne, hj⟩
    · cases e2
      cases h3.owned
    · obtain ⟨v', h1, h2⟩ := s.val j y hj
      exact ⟨v', by rw [List.getElem?_set_ne ne]; exact h1, h2⟩
  · rcases get_set hj with ⟨e, e2, hl⟩ | ⟨ne, hj⟩
    · subst e
      cases e2
      exact ⟨a, ho, List.getElem?_set_self (by rw [s.len]; exact hl), h1, h2, h3, .inl h4, h5⟩
    · obtain ⟨b, ws, g1, g2⟩ := s.ownd j m hj hm
      exact ⟨b, ws, by rw [List.getElem?_set_ne ne]; exact g1, g2⟩
  · obtain ⟨ys, g1, o1⟩ := g1
    obtain ⟨zs, g2, o2⟩ := g2
    rcases get_set g1 with ⟨e, _, hl⟩ | ⟨ne, g1⟩
    · subst e
      rcases get_set g2 with ⟨e, _, _⟩ | ⟨ne2, g2⟩
      · exact hne e
      · rw [List.getElem?_set_self (by rw [s.len]; exact hl)] at g3
        cases g3
        rw [List.getElem?_set_ne ne2] at g4
        exact h6 k ⟨_, g2, o2⟩ g4
    · rcases get_set g2 with ⟨e, _, hl⟩ | ⟨ne2, g2⟩
      · subst e
        rw [List.getElem?_set_self (by rw [s.len]; exact hl)] at g4
        cases g4
        rw [List.getElem?_set_ne ne] at g3
        exact h6 j ⟨_, g1, o1⟩ g3
      · rw [List.getElem?_set_ne ne] at g3
        rw [List.getElem?_set_ne ne2] at g4
        exact s.apart j k b hne ⟨_, g1, o1⟩ ⟨_, g2, o2⟩ g3 g4
/-- a slot takes a list of our own -/
theorem SR.setO (s : SR K C Hf H σ ρ) {i : Nat} {a : Addr} {vs : List V} {xs : List D} (h1 : Hf a = none) (h2 : H a = some (.lst vs)) (h3 : DpAll K Hf vs xs) (h4 : C.H0 a = none) (h5 : ∀ p ∈ C.no, a ≠ p.1)
    (h6 : ∀ j, IsOwn ρ j → σ[j]? ≠ some (some (.ref a))) (hp : ∀ q, C.io = some q → q.1 ≠ i) : SR K C Hf H (σ.set i (some (.ref a))) (ρ.set i (some (.own xs))) := s.setL h1 h2 (l := .own xs) ⟨vs, rfl, h3⟩ h4 h5 h6 hp
/-- a thing of our own changes -/
theorem SR.mutL (s : SR K C Hf H σ ρ) {i : Nat} {a : Addr} {ho : HO} {l l' : LV} (hi : ρ[i]? = some (some l)) (hl : l.owned = true) (ha : σ[i]? = some (some (.ref a))) (h3 : HoldsO C.w K Hf a ho l') (hk : ∀ q, C.io = some q → q.1 = i → ∃ xs, l' = .own xs) :
    SR K C Hf (upd H a ho) σ (ρ.set i (some l')) := by
  obtain ⟨a', us, g1, g2, g3, g4, g5, g6⟩ := s.ownd i l hi hl
  rw [ha] at g1
  cases g1
  have hown : ∀ {j}, IsOwn (ρ.set i (some l')) j → IsOwn ρ j := fun {j} ⟨zs, h, o⟩ => by
    rcases get_set h with ⟨e, _, _⟩ | ⟨_, h⟩
    · subst e; exact ⟨l, hi, hl⟩
    · exact ⟨zs, h, o⟩
  refine ⟨by simpa using s.len, s.e0, fun b o h => ?_, s.fresh, fun b o h q => ?_, fun q hq => ?_, fun p hp => ?_, fun j y hj => ?_, fun j m hj hm => ?_, fun j k b hne h1 h2 h3 h4 => s.apart j k b hne (hown h1) (hown h2) h3 h4⟩
  · have nb : b ≠ a := fun e => by rw [e, g2] at h; cases h
    rw [upd_ne nb]
    exact s.e1 b o h
  · have nb : b ≠ a := fun e => by
      subst e
      rcases g5 with g5 | ⟨q', h1, h2⟩
      · rw [g5] at h; cases h
      · exact q q' h1 h2
    rw [upd_ne nb]
    exact s.keep b o h q
  · obtain ⟨h1, zs, h2⟩ := s.pin q hq
    refine ⟨h1, ?_⟩
    by_cases e : i = q.1
    · obtain ⟨xs, rfl⟩ := hk q hq e.symm
      subst e
      exact ⟨xs, List.getElem?_set_self (List.getElem?_eq_some_iff.mp hi).1⟩
    · exact ⟨zs, by rw [List.getElem?_set_ne e]; exact h2⟩
  · obtain ⟨h1, h2⟩ := s.no p hp
    exact ⟨h1, by rw [upd_ne (Ne.symm (g6 p hp))]; exact h2⟩
  · rcases get_set hj with ⟨_, e2, _⟩ | ⟨ne, hj⟩
    · cases e2
      cases h3.owned
    · exact s.val j y hj
  · rcases get_set hj with ⟨e, e2, hl⟩ | ⟨ne, hj⟩
    · subst e
      cases e2
      exact ⟨a, ho, ha, g2, upd_same, h3, g5, g6⟩
    · obtain ⟨b, ws, q1, q2, q3, q4⟩ := s.ownd j m hj hm
      have nb : b ≠ a := fun e => by
        subst e
        exact s.apart i j b ne ⟨l, hi, hl⟩ ⟨m, hj, hm⟩ ha q1
      exact ⟨b, ws, q1, q2, by rw [upd_ne nb]; exact q3, q4⟩
/-- a list of our own changes -/
theorem SR.mut (s : SR K C Hf H σ ρ) {i : Nat} {a : Addr} {vs : List V} {xs ys : List D} (hi : ρ[i]? = some (some (.own ys))) (ha : σ[i]? = some (some (.ref a))) (h3 : DpAll K Hf vs xs) :
    SR K C Hf (upd H a (.lst vs)) σ (ρ.set i (some (.own xs))) := s.mutL hi rfl ha (l' := .own xs) ⟨vs, rfl, h3⟩ fun _ _ _ => ⟨xs, rfl⟩
/-- a list of our own is known to all from now on -/
theorem SR.freeze (s : SR K C Hf H σ ρ) {i : Nat} {xs : List D} (hi : ρ[i]? = some (some (.own xs))) (hp : ∀ q, C.io = some q → q.1 ≠ i) :
    ∃ a vs, σ[i]? = some (some (.ref a)) ∧ H a = some (.lst vs) ∧ Ex Hf (upd Hf a (.lst vs)) ∧ SR K C (upd Hf a (.lst vs)) H σ (ρ.set i (some (.d (.list xs)))) := by
  obtain ⟨a, vs, g1, g2, g3, g4, g5, g6⟩ := s.own i xs hi
  have ee : Ex Hf (upd Hf a (.lst vs)) := Ex.new g2
  have hl : i < ρ.length := (List.getElem?_eq_some_iff.mp hi).1
  have old : ∀ {j l}, (ρ.set i (some (.d (.list xs))))[j]? = some (some l) → l.owned = true → i ≠ j ∧ ρ[j]? = some (some l) := fun {j l} h hl => by
    rcases get_set h with ⟨_, e, _⟩ | h
    · cases e
      cases hl
    · exact h
  have nio : ∀ q, C.io = some q → a ≠ q.2 := fun q hq e => by
    obtain ⟨h1, zs, h2⟩ := s.pin q hq
    have ne := hp q hq
    exact s.apart i q.1 a (Ne.symm ne) ⟨_, hi, rfl⟩ ⟨_, h2, rfl⟩ g1 (by rw [e]; exact h1)
  refine ⟨a, vs, g1, g3, ee, by simpa using s.len, s.e0.trans ee, fun b o h => ?_, fun b o h => ?_, s.keep, fun q hq => ?_, fun p hpn => ?_, fun j y hj => ?_, fun j m hj hm => ?_, fun j k b hne h1 h2 h3 h4 => ?_⟩
  · by_cases hb : b = a
    · subst hb
      rw [upd_same] at h
      rw [g3]; exact h
    · rw [upd_ne hb] at h
      exact s.e1 b o h
  · by_cases hb : b = a
    · subst hb
      rcases g5 with g5 | ⟨q', h1, h2⟩
      · exact .inr g5
      · exact absurd h2 (nio q' h1)
    · rw [upd_ne hb] at h
      exact s.fresh b o h
  · obtain ⟨h1, zs, h2⟩ := s.pin q hq
    exact ⟨h1, zs, by rw [List.getElem?_set_ne (Ne.symm (hp q hq))]; exact h2⟩
  · obtain ⟨h1, h2⟩ := s.no p hpn
    exact ⟨by rw [upd_ne (Ne.symm (g6 p hpn))]; exact h1, h2⟩
  · rcases get_set hj with ⟨e, e2, _⟩ | ⟨ne, hj⟩
    · subst e
      cases e2
      exact ⟨.ref a, g1, .lst (SqL.of upd_same) (DpAll.mono ee _ _ g4)⟩
    · obtain ⟨v, h1, h2⟩ := s.val j y hj
      exact ⟨v, h1, Dp.mono ee _ _ h2⟩
  · obtain ⟨ne, hj⟩ := old hj hm
    obtain ⟨b, ws, q1, q2, q3, q4, q5, q6⟩ := s.ownd j m hj hm
    have nb : b ≠ a := fun e => by
      subst e
      exact s.apart i j b ne ⟨_, hi, rfl⟩ ⟨m, hj, hm⟩ g1 q1
    exact ⟨b, ws, q1, by rw [upd_ne nb]; exact q2, q3, q4.mono ee, q5, q6⟩
  · obtain ⟨ys, h1, o1⟩ := h1
    obtain ⟨zs, h2, o2⟩ := h2
    obtain ⟨n1, h1⟩ := old h1 o1
    obtain ⟨n2, h2⟩ := old h2 o2
    exact s.apart j k b hne ⟨_, h1, o1⟩ ⟨_, h2, o2⟩ h3 h4
end
end PD

set_option maxRecDepth 100000
set_option maxHeartbeats 4000000
set_option autoImplicit false
namespace PD
open PySem PySem.Spec L2
open Evl (Ex)

/-! ### readings -/
section
variable (K : PySem.W.Frag) (C : Fc)
/-- what must hold of a way's end -/
def PostG {α β : Type} (σ : L2.St) (rel : Hp → Hp → DE → β → α → Prop) (Hf : Hp) (r : R α) (Q : β → Hp → Prop) : Prop :=
  match r with
  | .ok x ρ' => ∀ (b : β) (H' Hf' : Hp), Ex Hf Hf' → SR K C Hf' H' σ ρ' → rel Hf' H' ρ' b x → Q b H'
  | .ex e ρ' => ∀ (H' Hf' : Hp), Ex Hf Hf' → SR K C Hf' H' σ ρ' → C.E e H'
  | .bad => False
def tG {α β : Type} (rel : L2.St → Hp → Hp → DE → β → α → Prop) (f : M α) : L2.St → Hp → (β → Hp → Prop) → Prop := fun σ H Q =>
  ∃ Hf ρ, SR K C Hf H σ ρ ∧ PostG K C σ (rel σ) Hf (f ρ) Q
def relD : L2.St → Hp → Hp → DE → V → D → Prop := fun _ Hf _ _ v x => Dp K Hf v x
def relB : L2.St → Hp → Hp → DE → Bool → Bool → Prop := fun _ _ _ _ b x => b = x
def relO : L2.St → Hp → Hp → DE → Option Int → Option Int → Prop := fun _ _ _ _ b x => b = x
/-- a new list of ours -/
def relL : L2.St → Hp → Hp → DE → V → List D → Prop := fun σ Hf H ρ v xs => ∃ a vs, v = .ref a ∧ Hf a = none ∧ H a = some (.lst vs) ∧ DpAll K Hf vs xs ∧ C.H0 a = none ∧ (∀ p ∈ C.no, a ≠ p.1) ∧ ∀ j, IsOwn ρ j → σ[j]? ≠ some (some (.ref a))
/-- an argument: a datum, or the list at a slot -/
inductive Arg where
  | dat (x : D)
  | slot (i : Nat)
inductive ArgsRel (σ : L2.St) (Hf : Hp) : List V → List Arg → Prop
  | nil : ArgsRel σ Hf [] []
  | dat {v : V} {x : D} {vs : List V} {as : List Arg} (h : Dp K Hf v x) (t : ArgsRel σ Hf vs as) : ArgsRel σ Hf (v :: vs) (.dat x :: as)
  | slot {v : V} {i : Nat} {vs : List V} {as : List Arg} (h : σ[i]? = some (some v)) (t : ArgsRel σ Hf vs as) : ArgsRel σ Hf (v :: vs) (.slot i :: as)
def relA : L2.St → Hp → Hp → DE → List V → List Arg → Prop := fun σ Hf _ _ vs as => ArgsRel K σ Hf vs as
/-- what a loop walks: it yields just these data -/
def relI : L2.St → Hp → Hp → DE → It → List D → Prop := fun _ Hf _ _ J xs =>
  (∀ (i : Nat) (Hf1 H : Hp) (x : D), Ex Hf Hf1 → Ex Hf1 H → xs[i]? = some x → J.go i H ∧ ∀ v H2, J.yld i H v H2 → ∃ Hf2, Grow Hf1 H Hf2 H2 ∧ Dp K Hf2 v x) ∧
  ∀ (i : Nat) (Hf1 H : Hp), Ex Hf Hf1 → Ex Hf1 H → xs.length ≤ i → J.stop i H
end
section
variable (X : Cx) (C : Fc)
def PDe (e : Expr) (f : M D) : Prop := PE X e (tG X.K C (relD X.K) f)
def PDt (e : Expr) (f : M Bool) : Prop := PT X e (tG X.K C relB f)
def PDw (e : Expr) (f : M Bool) : Prop := PW X e (tG X.K C relB f)
def PDa (es : List Expr) (f : M (List Arg)) : Prop := PA X es (tG X.K C (relA X.K) f)
def PDl (e : Expr) (f : M (List D)) : Prop := PE X e (tG X.K C (relL X.K C) f)
def PDo (e : Option Expr) (f : M (Option Int)) : Prop := PO X e (tG X.K C relO f)
def PDi (tg iter : Expr) (f : M (List D)) : Prop := PI X tg iter (tG X.K C (relI X.K) f)
end
/-! ### weakening of readings -/
section
variable {X : Cx} {C : Fc}
theorem pe_imp {e : Expr} {t t' : TE} (h : PE X e t) (w : ∀ σ H Q, t' σ H Q → t σ H Q) : PE X e t' := ⟨fun pins s σ H Q I q => h.run pins s σ H Q I (w σ H Q q)⟩
theorem pt_imp {e : Expr} {t t' : TT} (h : PT X e t) (w : ∀ σ H Q, t' σ H Q → t σ H Q) : PT X e t' := ⟨fun pins s σ H Q I q => h.run pins s σ H Q I (w σ H Q q)⟩
theorem pw_imp {e : Expr} {t t' : TT} (h : PW X e t) (w : ∀ σ H Q, t' σ H Q → t σ H Q) : PW X e t' := ⟨fun wh pins s σ H Q I q => h.run wh pins s σ H Q I (w σ H Q q)⟩
theorem pa_imp {es : List Expr} {t t' : TA} (h : PA X es t) (w : ∀ σ H Q, t' σ H Q → t σ H Q) : PA X es t' := ⟨fun pos pins s σ H Q I q => h.run pos pins s σ H Q I (w σ H Q q)⟩
theorem po_imp {e : Option Expr} {t t' : TO} (h : PO X e t) (w : ∀ σ H Q, t' σ H Q → t σ H Q) : PO X e t' := ⟨fun pins s σ H Q I q => h.run pins s σ H Q I (w σ H Q q)⟩
theorem pi_imp {tg e : Expr} {t t' : TI} (h : PI X tg e t) (w : ∀ σ H Q, t' σ H Q → t σ H Q) : PI X tg e t' := ⟨fun pins s σ H Q I q => h.run pins s σ H Q I (w σ H Q q)⟩
theorem ps_imp {st : Stmt} {t t' : TS} (h : PS X st t) (w : ∀ D σ H, t' D σ H → t D σ H) : PS X st t' := ⟨fun pins s σ H D I q => h.run pins s σ H D I (w D σ H q)⟩
theorem pss_imp {st : List Stmt} {t t' : TS} (h : PSs X st t) (w : ∀ D σ H, t' D σ H → t D σ H) : PSs X st t' := ⟨fun pins s σ H D I q => h.run pins s σ H D I (w D σ H q)⟩
end
section
variable {K : PySem.W.Frag} {C : Fc} {α β γ δ : Type} {σ : L2.St} {Hf Hf' H : Hp}
theorem PostG.mono {rel : Hp → Hp → DE → β → α → Prop} {r : R α} {Q : β → Hp → Prop} (e : Ex Hf Hf') (h : PostG K C σ rel Hf r Q) : PostG K C σ rel Hf' r Q := by
  cases r with
  | ok x ρ' => exact fun b H' Hf'' e' s q => h b H' Hf'' (e.trans e') s q
  | ex x ρ' => exact fun H' Hf'' e' s => h H' Hf'' (e.trans e') s
  | bad => exact h
/-- first f, then the rest -/
theorem tG_bind {rel : L2.St → Hp → Hp → DE → β → α → Prop} {rel2 : Hp → Hp → DE → δ → γ → Prop} {f : M α} {k : α → M γ} {ρ : DE} {Q : δ → Hp → Prop} {Q1 : β → Hp → Prop} (s : SR K C Hf H σ ρ) (h : PostG K C σ rel2 Hf (M.bind f k ρ) Q)
    (w : ∀ (b : β) (x : α) (H1 Hf1 : Hp) (ρ1 : DE), Ex Hf Hf1 → SR K C Hf1 H1 σ ρ1 → rel σ Hf1 H1 ρ1 b x → PostG K C σ rel2 Hf1 (k x ρ1) Q → Q1 b H1) : tG K C rel f σ H Q1 := by
  refine ⟨Hf, ρ, s, ?_⟩
  unfold M.bind at h
  cases hf : f ρ with
  | ok x ρ1 =>
    rw [hf] at h
    exact fun b H1 Hf1 e s1 r => w b x H1 Hf1 ρ1 e s1 r (PostG.mono e h)
  | ex x ρ1 =>
    rw [hf] at h
    exact h
  | bad =>
    rw [hf] at h
    exact h.elim
/-- a value that needs nothing new -/
theorem PostG.now {rel : Hp → Hp → DE → β → α → Prop} {x : α} {ρ : DE} {Q : β → Hp → Prop} {b : β} (h : PostG K C σ rel Hf (.ok x ρ) Q) (s : SR K C Hf H σ ρ) (r : rel Hf H ρ b x) : Q b H := h b H Hf (Ex.refl _) s r
theorem PostG.nowG {rel : Hp → Hp → DE → β → α → Prop} {x : α} {ρ : DE} {Q : β → Hp → Prop} {b : β} {H' : Hp} (h : PostG K C σ rel Hf (.ok x ρ) Q) (s : SR K C Hf H σ ρ) (g : Grow Hf H Hf' H') (r : rel Hf' H' ρ b x) : Q b H' := h b H' Hf' g.f (s.grow g) r
theorem PostG.lift {rel : Hp → Hp → DE → β → α → Prop} {o : Option α} {ρ : DE} {Q : β → Hp → Prop} (h : PostG K C σ rel Hf (M.lift o ρ) Q) : ∃ x, o = some x ∧ PostG K C σ rel Hf (.ok x ρ) Q := by
  cases o with
  | some x => exact ⟨x, rfl, h⟩
  | none => exact (show False from h).elim
end

/-! ### names, constants -/
section
variable {X : Cx} {C : Fc} {pos : Pos}
def M.var (i : Nat) : M D := fun ρ => match ρ[i]? with
  | some (some (.d x)) => .ok x ρ
  | _ => .bad
theorem pd_var (i : Nat) {x : Str} (hN : X.N[i]? = some x := by rfl) (hv : Vis X.env.scope x := by first | exact Or.inl rfl | exact Or.inr (Or.inl rfl) | exact Or.inr (Or.inr rfl)) (hd : (x == ("__debug__" : Str)) = false := by decide)
    (hcd : (x == ("__classdict__" : Str)) = false := by decide) : PDe X C (.Name x pos) (M.var i) := pe_imp (pe_var hN hv hd hcd) fun σ H Q ⟨Hf, ρ, s, h⟩ => by
  unfold M.var at h
  split at h
  · rename_i y hy
    obtain ⟨v, h1, h2⟩ := s.val i y hy
    exact ⟨v, h1, h.now s h2⟩
  · exact (show False from h).elim
theorem pd_c {e : Expr} {v : V} {x : D} (h : PE X e (tC v)) (hd : ∀ H, Dp X.K H v x) : PDe X C e (M.ret x) := pe_imp h fun σ H Q ⟨Hf, ρ, s, q⟩ => PostG.now (b := v) q s (hd Hf)
theorem pd_int {i : Int} {j : Nat} : PDe X C (.Constant (.int i) j pos) (M.ret (.int i)) := pd_c pe_int fun _ => .int i
theorem pd_bl {i : Bool} {j : Nat} : PDe X C (.Constant (.bool i) j pos) (M.ret (.bool i)) := pd_c pe_bl fun _ => .bl i
theorem pd_non {j : Nat} : PDe X C (.Constant .none j pos) (M.ret .none) := pd_c pe_non fun _ => .non
theorem pd_str {x : Str} {j : Nat} : PDe X C (.Constant (.str x) j pos) (M.ret (.str x)) := pd_c pe_str fun _ => .str x
/-- a constant of the module -/
theorem pd_glob {x : Str} {v : V} {u : Value} {d : D} (hg : Gl X x) (hm : X.mg x = some u) (r : RelV v u) (hd : ∀ H, Dp X.K H v d) (hdb : (x == ("__debug__" : Str)) = false := by decide) : PDe X C (.Name x pos) (M.ret d) := pd_c (pe_glob hg hm r hdb) hd
end

/-! ### operators -/
section
variable {X : Cx} {C : Fc} {pos : Pos} {a b c : Expr} {f g k : M D}
def M.op2 (o : D → D → Option D) (f g : M D) : M D := M.bind f fun x => M.bind g fun y => M.lift (o x y)
def M.op1 (o : D → Option D) (f : M D) : M D := M.bind f fun x => M.lift (o x)
/-- a two-place operation on data -/
def Op2 (K : PySem.W.Frag) (r : R2) (o : D → D → Option D) : Prop :=
  ∀ (C : Fc) (Hf H : Hp) (σ : L2.St) (ρ : DE) (v w : V) (x y z : D) (Q : VK), SR K C Hf H σ ρ → Dp K Hf v x → Dp K Hf w y → o x y = some z → PostG K C σ (relD K σ) Hf (.ok z ρ) Q → r v w H Q
def Op1 (K : PySem.W.Frag) (r : V → Hp → VK → Prop) (o : D → Option D) : Prop :=
  ∀ (C : Fc) (Hf H : Hp) (σ : L2.St) (ρ : DE) (v : V) (x z : D) (Q : VK), SR K C Hf H σ ρ → Dp K Hf v x → o x = some z → PostG K C σ (relD K σ) Hf (.ok z ρ) Q → r v H Q
theorem op2_go {r : R2} {o : D → D → Option D} (ho : Op2 X.K r o) {σ : L2.St} {H : Hp} {Q : VK} (h : tG X.K C (relD X.K) (M.op2 o f g) σ H Q) : tOp r (tG X.K C (relD X.K) f) (tG X.K C (relD X.K) g) σ H Q := by
  obtain ⟨Hf, ρ, s, h⟩ := h
  refine tG_bind s h fun v x H1 Hf1 ρ1 e1 s1 d1 h1 => ?_
  refine tG_bind s1 h1 fun w y H2 Hf2 ρ2 e2 s2 d2 h2 => ?_
  obtain ⟨z, hz, h3⟩ := h2.lift
  exact ho C Hf2 H2 σ ρ2 v w x y z Q s2 (Dp.mono e2 _ _ d1) d2 hz h3
theorem pd_op {op : Operator} {r : R2} {o : D → D → Option D} (hr : OpR X (binaryOp op) r) (ho : Op2 X.K r o) (ha : PDe X C a f) (hb : PDe X C b g) : PDe X C (.BinOp a op b pos) (M.op2 o f g) :=
  pe_imp (pe_op hr ha hb) fun _ _ _ h => op2_go ho h
theorem pd_un {op : UnaryOp} {r : V → Hp → VK → Prop} {o : D → Option D} (hr : UnR X (unaryOp op) r) (ho : Op1 X.K r o) (ha : PDe X C a f) : PDe X C (.UnaryOp op a pos) (M.op1 o f) :=
  pe_imp (pe_un hr ha) fun σ H Q ⟨Hf, ρ, s, h⟩ => tG_bind s h fun v x H1 Hf1 ρ1 e1 s1 d1 h1 => by
    obtain ⟨z, hz, h3⟩ := h1.lift
    exact ho C Hf1 H1 σ ρ1 v x z Q s1 d1 hz h3
theorem pd_cmp {op : CmpOp} {r : R2} {o : D → D → Option D} (hr : OpR X (compareOp op) r) (ho : Op2 X.K r o) (ha : PDe X C a f) (hb : PDe X C b g) (hm : behindInMarks op b = false) : PDe X C (.Compare a [op] [b] pos) (M.op2 o f g) :=
  pe_imp (pe_cmpR hr ha hb hm) fun _ _ _ h => op2_go ho h
theorem pd_ix {r : R2} {o : D → D → Option D} (hr : IxR X r) (ho : Op2 X.K r o) (ha : PDe X C a f) (hb : PDe X C b g) (hs : PlainIx b) : PDe X C (.Subscript a b pos) (M.op2 o f g) :=
  pe_imp (pe_ix hr ha hb hs) fun _ _ _ h => op2_go ho h
/-- the truth of a comparison -/
def asB : D → Option Bool
  | .bool b => some b
  | _ => none
def M.test (f : M D) : M Bool := M.bind f fun x => M.lift (asB x)
theorem test_go {t : TE} {σ : L2.St} {H : Hp} {Q : Bool → Hp → Prop} (h : tG X.K C relB (M.test f) σ H Q) : tG X.K C (relD X.K) f σ H fun x H' => ∃ k, x = .bl k ∧ Q k H' := by
  obtain ⟨Hf, ρ, s, h⟩ := h
  refine tG_bind s h fun v x H1 Hf1 ρ1 e1 s1 d1 h1 => ?_
  obtain ⟨z, hz, h3⟩ := h1.lift
  cases x <;> first | (cases hz) | skip
  exact ⟨z, Dp.bool_of d1, h3.now s1 rfl⟩
theorem pt_of {e : Expr} {te : TE} (h : PT X e (tTest te)) (w : ∀ σ H Q, tG X.K C (relD X.K) f σ H Q → te σ H Q) : PDt X C e (M.test f) := pt_imp h fun σ H Q q => w σ H _ (test_go (t := te) q)
theorem pdt_cmp {op : CmpOp} {r : R2} {o : D → D → Option D} (hr : OpR X (compareOp op) r) (ho : Op2 X.K r o) (ha : PDe X C a f) (hb : PDe X C b g) (hm : behindInMarks op b = false) : PDt X C (.Compare a [op] [b] pos) (M.test (M.op2 o f g)) :=
  pt_of (pt_cmpR hr ha hb hm) fun _ _ _ h => op2_go ho h
/-- a value that is a truth value, as a test -/
theorem pdt_val {e : Expr} (h : PDe X C e f) (he : ∀ whole, isTrue e X.env whole = (do let v ← whole; standAt e.pos; holding [v] (truthy v)) := by intro _; rfl) : PDt X C e (M.test f) :=
  pt_imp (pt_val h he) fun σ H Q q => test_go (t := tG X.K C (relD X.K) f) q
/-- a op1 b op2 c -/
def M.chain (o o' : D → D → Option D) (f g k : M D) : M D := M.bind f fun x => M.bind g fun y => M.bind (M.lift (o x y)) fun z => M.bind (M.lift (asB z)) fun t => if t = true then M.bind k fun w => M.lift (o' y w) else M.ret (.bool false)
/-- an operation that gives a truth value and makes nothing -/
def Op2B (K : PySem.W.Frag) (r : R2) (o : D → D → Option D) : Prop :=
  ∀ (Hf H : Hp) (v w : V) (x y : D) (z : Bool) (Q : VK), Ex Hf H → Dp K Hf v x → Dp K Hf w y → o x y = some (.bool z) → Q (.bl z) H → r v w H Q
theorem Op2B.op2 {K : PySem.W.Frag} {r : R2} {o : D → D → Option D} (h : Op2B K r o) (hb : ∀ x y z, o x y = some z → ∃ b, z = .bool b) : Op2 K r o := fun C Hf H σ ρ v w x y z Q s d1 d2 e q => by
  obtain ⟨b, rfl⟩ := hb x y z e
  exact h Hf H v w x y b Q s.e1 d1 d2 e (q.now s (.bl b))
theorem chain_go {r r' : R2} {o o' : D → D → Option D} (ho : Op2B X.K r o) (ho' : Op2B X.K r' o') (hb : ∀ x y z, o' x y = some z → ∃ b, z = .bool b) {σ : L2.St} {H : Hp} {Q : VK} (h : tG X.K C (relD X.K) (M.chain o o' f g k) σ H Q) :
    tChain r r' (tG X.K C (relD X.K) f) (tG X.K C (relD X.K) g) (tG X.K C (relD X.K) k) σ H Q := by
  obtain ⟨Hf, ρ, s, h⟩ := h
  refine tG_bind s h fun v x H1 Hf1 ρ1 e1 s1 d1 h1 => ?_
  refine tG_bind s1 h1 fun w y H2 Hf2 ρ2 e2 s2 d2 h2 => ?_
  have hz : ∃ b, o x y = some (.bool b) ∧ PostG X.K C σ (relD X.K σ) Hf2 ((if b = true then M.bind k fun w => M.lift (o' y w) else M.ret (.bool false)) ρ2) Q := by
    unfold M.bind M.lift at h2
    cases hx : o x y with
    | none => rw [hx] at h2; exact (show False from h2).elim
    | some z =>
      rw [hx] at h2
      cases z <;> first | exact (show False from h2).elim | exact ⟨_, rfl, h2⟩
  obtain ⟨b, hb1, h3⟩ := hz
  refine ho Hf2 H2 v w x y b _ s2.e1 (Dp.mono e2 _ _ d1) d2 hb1 ⟨b, rfl, ?_⟩
  cases b with
  | true =>
    refine L2.iteT ?_
    refine tG_bind s2 h3 fun u t H3 Hf3 ρ3 e3 s3 d3 h4 => ?_
    obtain ⟨t', ht, h5⟩ := h4.lift
    obtain ⟨b, rfl⟩ := hb _ _ _ ht
    exact ho' Hf3 H3 w u y t b Q s3.e1 (Dp.mono e3 _ _ d2) d3 ht (h5.now s3 (.bl b))
  | false => exact L2.iteF (PostG.now (b := V.bl false) h3 s2 (.bl false))
theorem pd_chain {op op' : CmpOp} {r r' : R2} {o o' : D → D → Option D} (hr : OpR X (compareOp op) r) (hr' : OpR X (compareOp op') r') (ho : Op2B X.K r o) (ho' : Op2B X.K r' o') (hb : ∀ x y z, o' x y = some z → ∃ b, z = .bool b) (ha : PDe X C a f) (hbb : PDe X C b g) (hc : PDe X C c k)
    (hm : lastMarks [op, op'] [b, c] = false := by with_unfolding_all rfl) : PDe X C (.Compare a [op, op'] [b, c] pos) (M.chain o o' f g k) := pe_imp (pe_chain hr hr' ha hbb hc hm) fun _ _ _ h => chain_go ho ho' hb h
theorem pdt_chain {op op' : CmpOp} {r r' : R2} {o o' : D → D → Option D} (hr : OpR X (compareOp op) r) (hr' : OpR X (compareOp op') r') (ho : Op2B X.K r o) (ho' : Op2B X.K r' o') (hb : ∀ x y z, o' x y = some z → ∃ b, z = .bool b) (ha : PDe X C a f) (hbb : PDe X C b g) (hc : PDe X C c k)
    (hm : lastMarks [op, op'] [b, c] = false := by with_unfolding_all rfl) : PDt X C (.Compare a [op, op'] [b, c] pos) (M.test (M.chain o o' f g k)) := pt_of (pt_chain hr hr' ha hbb hc hm) fun _ _ _ h => chain_go ho ho' hb h
end

/-! ### and, or, not, if-else -/
section
variable {X : Cx} {C : Fc} {pos : Pos} {a b c : Expr} {rest : List Expr} {f g : M D} {p q : M Bool}
def M.andT (p q : M Bool) : M Bool := M.bind p fun b => if b = true then q else M.ret false
def M.orT (p q : M Bool) : M Bool := M.bind p fun b => if b = true then M.ret true else q
def M.notT (p : M Bool) : M Bool := M.bind p fun b => M.ret (!b)
theorem pdw_and1 (ha : PDt X C a p) : PDw X C (.BoolOp .And [a] pos) p := pw_and1 ha
theorem pdw_or1 (ha : PDt X C a p) : PDw X C (.BoolOp .Or [a] pos) p := pw_or1 ha
theorem pdw_and (ha : PDt X C a p) (hb : PDw X C (.BoolOp .And (b :: rest) pos) q) : PDw X C (.BoolOp .And (a :: b :: rest) pos) (M.andT p q) := pw_imp (pw_and ha hb) fun σ H Q ⟨Hf, ρ, s, h⟩ =>
  tG_bind s h fun v x H1 Hf1 ρ1 e1 s1 d1 h1 => by
    have d1 : v = x := d1
    subst d1
    cases v with
    | true => exact L2.iteT ⟨Hf1, ρ1, s1, h1⟩
    | false => exact L2.iteF (PostG.now (b := false) h1 s1 rfl)
theorem pdw_or (ha : PDt X C a p) (hb : PDw X C (.BoolOp .Or (b :: rest) pos) q) : PDw X C (.BoolOp .Or (a :: b :: rest) pos) (M.orT p q) := pw_imp (pw_or ha hb) fun σ H Q ⟨Hf, ρ, s, h⟩ =>
  tG_bind s h fun v x H1 Hf1 ρ1 e1 s1 d1 h1 => by
    have d1 : v = x := d1
    subst d1
    cases v with
    | true => exact L2.iteT (PostG.now (b := true) h1 s1 rfl)
    | false => exact L2.iteF ⟨Hf1, ρ1, s1, h1⟩
theorem pdt_w (h : PDw X C a p) : PDt X C a p := PW.pt h
theorem pdt_not (ha : PDt X C a p) : PDt X C (.UnaryOp .Not a pos) (M.notT p) := pt_imp (pt_not ha) fun σ H Q ⟨Hf, ρ, s, h⟩ =>
  tG_bind s h fun v x H1 Hf1 ρ1 e1 s1 d1 h1 => by
    have d1 : v = x := d1
    subst d1
    exact PostG.now (b := !v) h1 s1 rfl
/-- .. as values -/
def M.andV (f g : M D) : M D := M.bind f fun x => M.bind (M.lift (asB x)) fun b => if b = true then g else M.ret (.bool false)
def M.orV (f g : M D) : M D := M.bind f fun x => M.bind (M.lift (asB x)) fun b => if b = true then M.ret (.bool true) else g
def notD : D → Option D
  | .bool b => some (.bool !b)
  | _ => none
theorem pd_one {op} (h : PDe X C a f) : PDe X C (.BoolOp op [a] pos) f := pe_one h
theorem bv {Hf H : Hp} {σ : L2.St} {ρ : DE} {x : D} {k : Bool → M D} {Q : VK} (h : PostG X.K C σ (relD X.K σ) Hf (M.bind (M.lift (asB x)) k ρ) Q) : ∃ b, x = .bool b ∧ PostG X.K C σ (relD X.K σ) Hf (k b ρ) Q := by
  unfold M.bind M.lift at h
  cases x <;> first | exact (show False from h).elim | exact ⟨_, rfl, h⟩
theorem pd_and (ha : PDe X C a f) (hb : PDe X C (.BoolOp .And (b :: rest) pos) g) : PDe X C (.BoolOp .And (a :: b :: rest) pos) (M.andV f g) := pe_imp (pe_and ha hb) fun σ H Q ⟨Hf, ρ, s, h⟩ =>
  tG_bind s h fun v x H1 Hf1 ρ1 e1 s1 d1 h1 => by
    obtain ⟨t, rfl, h2⟩ := bv (H := H1) h1
    refine ⟨t, Dp.bool_of d1, ?_⟩
    cases t with
    | true => exact L2.iteT ⟨Hf1, ρ1, s1, h2⟩
    | false => exact L2.iteF (PostG.now (b := V.bl false) h2 s1 (.bl false))
theorem pd_or (ha : PDe X C a f) (hb : PDe X C (.BoolOp .Or (b :: rest) pos) g) : PDe X C (.BoolOp .Or (a :: b :: rest) pos) (M.orV f g) := pe_imp (pe_or ha hb) fun σ H Q ⟨Hf, ρ, s, h⟩ =>
  tG_bind s h fun v x H1 Hf1 ρ1 e1 s1 d1 h1 => by
    obtain ⟨t, rfl, h2⟩ := bv (H := H1) h1
    refine ⟨t, Dp.bool_of d1, ?_⟩
    cases t with
    | true => exact L2.iteT (PostG.now (b := V.bl true) h2 s1 (.bl true))
    | false => exact L2.iteF ⟨Hf1, ρ1, s1, h2⟩
theorem pd_not (ha : PDe X C a f) : PDe X C (.UnaryOp .Not a pos) (M.op1 notD f) := pe_imp (pe_not ha) fun σ H Q ⟨Hf, ρ, s, h⟩ =>
  tG_bind s h fun v x H1 Hf1 ρ1 e1 s1 d1 h1 => by
    obtain ⟨z, hz, h2⟩ := h1.lift
    cases x <;> first | cases hz | skip
    exact ⟨_, Dp.bool_of d1, PostG.now (b := V.bl _) h2 s1 (.bl _)⟩
def M.ite {α : Type} (p : M Bool) (f g : M α) : M α := M.bind p fun b => if b = true then f else g
theorem pd_if (hc : PDt X C c p) (ha : PDe X C a f) (hb : PDe X C b g) : PDe X C (.IfExp c a b pos) (M.ite p f g) := pe_imp (pe_ifExp hc ha hb) fun σ H Q ⟨Hf, ρ, s, h⟩ =>
  tG_bind s h fun v x H1 Hf1 ρ1 e1 s1 d1 h1 => by
    have d1 : v = x := d1
    subst d1
    cases v with
    | true => exact L2.iteT ⟨Hf1, ρ1, s1, h1⟩
    | false => exact L2.iteF ⟨Hf1, ρ1, s1, h1⟩
end

/-! ### argument lists, displays -/
section
variable {X : Cx} {C : Fc} {pos : Pos} {e : Expr} {es : List Expr} {f : M D} {g : M (List Arg)}
def M.argN : M (List Arg) := M.ret []
def M.argD (f : M D) (g : M (List Arg)) : M (List Arg) := M.bind f fun x => M.bind g fun as => M.ret (.dat x :: as)
def M.argS (i : Nat) (g : M (List Arg)) : M (List Arg) := fun ρ => match ρ[i]? with
  | some (some (.own _)) => M.bind g (fun as => M.ret (.slot i :: as)) ρ
  | _ => .bad
theorem ArgsRel.mono {K : PySem.W.Frag} {σ : L2.St} {Hf Hf' : Hp} (e : Ex Hf Hf') : ∀ {vs : List V} {as : List Arg}, ArgsRel K σ Hf vs as → ArgsRel K σ Hf' vs as
  | _, _, .nil => .nil
  | _, _, .dat h t => .dat (Dp.mono e _ _ h) (ArgsRel.mono e t)
  | _, _, .slot h t => .slot h (ArgsRel.mono e t)
theorem pda_nil : PDa X C [] M.argN := pa_imp pa_nil fun σ H Q ⟨Hf, ρ, s, h⟩ => PostG.now (b := ([] : List V)) h s .nil
theorem pda_cons (ha : PDe X C e f) (hr : PDa X C es g) (hs : starEach (e :: es) X.env = (false, eval e X.env) :: starEach es X.env := by rfl) : PDa X C (e :: es) (M.argD f g) := pa_imp (pa_cons ha hr hs) fun σ H Q ⟨Hf, ρ, s, h⟩ =>
  tG_bind s h fun v x H1 Hf1 ρ1 e1 s1 d1 h1 => tG_bind s1 h1 fun vs as H2 Hf2 ρ2 e2 s2 d2 h2 => PostG.now (b := v :: vs) h2 s2 (.dat (Dp.mono e2 _ _ d1) d2)
/-- the list at a slot, as it is -/
theorem pda_slot (i : Nat) {x : Str} {px : Pos} (hr : PDa X C es g) (hN : X.N[i]? = some x := by rfl) (hv : Vis X.env.scope x := by first | exact Or.inl rfl | exact Or.inr (Or.inl rfl) | exact Or.inr (Or.inr rfl)) (hd : (x == ("__debug__" : Str)) = false := by decide)
    (hcd : (x == ("__classdict__" : Str)) = false := by decide) (hs : starEach (.Name x px :: es) X.env = (false, eval (.Name x px) X.env) :: starEach es X.env := by rfl) : PDa X C (.Name x px :: es) (M.argS i g) :=
  pa_imp (pa_cons (pe_var hN hv hd hcd) hr hs) fun σ H Q ⟨Hf, ρ, s, h⟩ => by
    unfold M.argS at h
    split at h
    · rename_i xs hx
      obtain ⟨a, vs, h1, h2⟩ := s.own i xs hx
      refine ⟨.ref a, h1, ?_⟩
      exact tG_bind s h fun vs as H2 Hf2 ρ2 e2 s2 d2 h2 => PostG.now (b := V.ref a :: vs) h2 s2 (.slot h1 d2)
    · exact (show False from h).elim
def datOf : List Arg → Option (List D)
  | [] => some []
  | .dat x :: as => (datOf as).map (x :: ·)
  | .slot _ :: _ => none
theorem ArgsRel.dats {K : PySem.W.Frag} {σ : L2.St} {Hf : Hp} : ∀ {vs : List V} {as : List Arg} {xs : List D}, ArgsRel K σ Hf vs as → datOf as = some xs → DpAll K Hf vs xs
  | _, _, xs, .nil, e => by cases e; exact .nil
  | _, _, xs, .dat (as := as) h t, e => by
    unfold datOf at e
    cases q : datOf as with
    | none => rw [q] at e; cases e
    | some ys =>
      rw [q] at e
      cases e
      exact .cons h (ArgsRel.dats t q)
  | _, _, _, .slot _ _, e => by cases e
def M.dats (g : M (List Arg)) : M (List D) := M.bind g fun as => M.lift (datOf as)
def M.tup (g : M (List Arg)) : M D := M.bind g fun as => M.lift ((datOf as).bind fun xs => if xs.length ≤ sizeLine then some (.tuple xs) else none)
theorem pd_tup {x1} (h : PDa X C es g) : PDe X C (.Tuple es x1 pos) (M.tup g) := pe_imp (pe_tup h) fun σ H Q ⟨Hf, ρ, s, h⟩ =>
  tG_bind s h fun vs as H1 Hf1 ρ1 e1 s1 d1 h1 => by
    obtain ⟨z, hz, h2⟩ := h1.lift
    cases q : datOf as with
    | none => rw [q] at hz; cases hz
    | some xs =>
      rw [q] at hz
      simp only [Option.bind_some] at hz
      split at hz
      · rename_i hl
        cases hz
        have da := ArgsRel.dats d1 q
        refine ⟨by rw [DpAll.length da]; exact hl, fun p hp => ?_⟩
        have g := Grow.new (o := .tup vs) s1.e1 hp
        exact PostG.nowG (b := V.ref p) h2 s1 g (.tup (SqT.of upd_same) (DpAll.mono g.f _ _ da))
      · cases hz
def M.lst (g : M (List Arg)) : M (List D) := M.bind g fun as => M.lift ((datOf as).bind fun xs => if xs.length ≤ sizeLine then some xs else none)
theorem SR.newL {K : PySem.W.Frag} {Hf H : Hp} {σ : L2.St} {ρ : DE} {p : Addr} {vs : List V} {xs : List D} (s : SR K C Hf H σ ρ) (hp : H p = none) (d : DpAll K Hf vs xs) : relL K C σ Hf (upd H p (.lst vs)) ρ (.ref p) xs := by
  refine ⟨p, vs, rfl, Evl.fresh_back s.e1 hp, upd_same, d, s.h0 hp, fun q hq e => ?_, fun j ⟨ys, hj, oj⟩ e => ?_⟩
  · obtain ⟨_, h⟩ := s.no q hq
    rw [e, h] at hp
    cases hp
  · obtain ⟨a, ws, h1, _, h3, _⟩ := s.ownd j ys hj oj
    rw [h1] at e
    cases e
    rw [h3] at hp
    cases hp
theorem pdl_lst (h : PDa X C es g) : PDl X C (.List es pos) (M.lst g) := pe_imp (pe_lst h) fun σ H Q ⟨Hf, ρ, s, h⟩ =>
  tG_bind s h fun vs as H1 Hf1 ρ1 e1 s1 d1 h1 => by
    obtain ⟨z, hz, h2⟩ := h1.lift
    cases q : datOf as with
    | none => rw [q] at hz; cases hz
    | some xs =>
      rw [q] at hz
      simp only [Option.bind_some] at hz
      split at hz
      · rename_i hl
        cases hz
        have da := ArgsRel.dats d1 q
        refine ⟨by rw [DpAll.length da]; exact hl, fun p hp => ?_⟩
        exact PostG.nowG (b := V.ref p) h2 s1 (Grow.mine (o := .lst vs) s1.e1 hp) (s1.newL hp da)
      · cases hz
/-- a new list as a datum -/
theorem SR.known {K : PySem.W.Frag} {Hf H : Hp} {σ : L2.St} {ρ : DE} {v : V} {xs : List D} (s : SR K C Hf H σ ρ) (r : relL K C σ Hf H ρ v xs) : ∃ Hf', Ex Hf Hf' ∧ SR K C Hf' H σ ρ ∧ Dp K Hf' v (.list xs) := by
  obtain ⟨a, vs, rfl, h1, h2, h3, h4, h5, h6⟩ := r
  have ee : Ex Hf (upd Hf a (.lst vs)) := Ex.new h1
  refine ⟨upd Hf a (.lst vs), ee, ⟨s.len, s.e0.trans ee, fun b o h => ?_, fun b o h => ?_, s.keep, s.pin, fun p hp => ?_, fun i x hi => ?_, fun i ys hi oi => ?_, s.apart⟩, .lst (SqL.of upd_same) (DpAll.mono ee _ _ h3)⟩
  · by_cases hb : b = a
    · subst hb
      rw [upd_same] at h
      rw [h2]; exact h
    · rw [upd_ne hb] at h
      exact s.e1 b o h
  · by_cases hb : b = a
    · exact .inr (hb ▸ h4)
    · rw [upd_ne hb] at h
      exact s.fresh b o h
  · obtain ⟨g1, g2⟩ := s.no p hp
    exact ⟨by rw [upd_ne (Ne.symm (h5 p hp))]; exact g1, g2⟩
  · obtain ⟨v, g1, g2⟩ := s.val i x hi
    exact ⟨v, g1, Dp.mono ee _ _ g2⟩
  · obtain ⟨b, ws, g1, g2, g3, g4, g5, g6⟩ := s.ownd i ys hi oi
    refine ⟨b, ws, g1, ?_, g3, g4.mono ee, g5, g6⟩
    rw [upd_ne (fun e => h6 i ⟨ys, hi, oi⟩ (by rw [g1, e]))]
    exact g2
def M.known (f : M (List D)) : M D := M.bind f fun xs => M.ret (.list xs)
theorem pd_l {fl : M (List D)} (h : PDl X C e fl) : PDe X C e (M.known fl) := pe_imp h fun σ H Q ⟨Hf, ρ, s, h⟩ =>
  tG_bind s h fun v xs H1 Hf1 ρ1 e1 s1 d1 h1 => by
    obtain ⟨Hf2, e2, s2, d2⟩ := s1.known d1
    exact h1 v H1 Hf2 e2 s2 d2
end
end PD

set_option maxRecDepth 100000
set_option maxHeartbeats 4000000
set_option autoImplicit false
namespace PD
open PySem PySem.Spec L2
open Evl (Ex)

/-! ### arithmetic on data -/
section
variable {X : Cx}
def CMulB (i j : Int) : Prop := i.natAbs.log2 + j.natAbs.log2 < 100000000
theorem CMulB.ok {i j : Int} (h : CMulB i j) : IntMulOk i j := by
  have b : ∀ x : Int, Builtin.Int.intBits x ≤ x.natAbs.log2 + 1 := fun x => by
    unfold Builtin.Int.intBits
    split <;> omega
  have h1 := b i
  have h2 := b j
  have h3 : i.natAbs.log2 + j.natAbs.log2 < 100000000 := h
  have e : bitsLine = 134217728 := by decide
  unfold IntMulOk
  intro z
  rw [Bool.and_eq_true] at z
  have z2 := z.2
  unfold Builtin.Int.intTooBig at z2
  have z3 := of_decide_eq_true z2
  rw [e] at z3
  omega
theorem op_mulB : OpR X (binaryOp .Mult) (rI CMulB fun i j => .int (i * j)) := opI fun _ _ _ _ _ _ _ hc q => PyProof.Rows.mul_int q hc.ok
/-- list + list, any two lists that are read -/
def rCatL (K : PySem.W.Frag) : R2 := fun x y H Q => ∃ l b xs zs, x = .ref l ∧ y = .ref b ∧ SqL K H l xs ∧ SqL K H b zs ∧ xs.length + zs.length ≤ sizeLine ∧ ∀ p, H p = none → Q (.ref p) (upd H p (.lst (xs ++ zs)))
theorem op_catL : OpR X (binaryOp .Add) (rCatL X.K) := by
  intro pins s σ H x y v u Q I rx ry h
  obtain ⟨l, b, xs, zs, rfl, rfl, hH, hB, hz, q⟩ := h
  cases rx
  cases ry
  obtain ⟨its, r, p1, _⟩ := I.list hH
  obtain ⟨its2, r2, p2, _⟩ := I.list hB
  obtain ⟨⟨cls, dd, data, sl⟩, ho, hc, n, hd⟩ := p1.isList
  obtain ⟨⟨cls2, dd2, data2, sl2⟩, ho2, hc2, n2, hd2⟩ := p2.isList
  simp only at hc hd hc2 hd2
  subst hc hd hc2 hd2
  have l1 := r.length
  have l2 := r2.length
  have e : its.toArray ++ its2.toArray = (its ++ its2).toArray := by simp
  refine concat_meets ⟨_, ho, rfl⟩ ⟨_, ho2, rfl⟩ noFill_list_add seq_list_add PySem.F.slot_list_add PySem.F.entry_list_add (PySem.F.args_list_add_2 _ _) (PyProof.Rows.list_addW l b its.toArray its2.toArray n n2 dd dd2 sl sl2 (by simp; omega)) ⟨ho, ho2, ?_⟩
  rw [e]
  exact ⟨.ref _, _, I.lnew (t' := s.toks) (r.append r2) (by rw [List.length_append]; omega), rfl, q _ I.fresh⟩
end

def addD : D → D → Option D
  | .int i, .int j => some (.int (i + j))
  | .str a, .str b => if a.length + b.length ≤ sizeLine then some (.str (a ++ b)) else none
  | .tuple xs, .tuple ys => if xs.length + ys.length ≤ sizeLine then some (.tuple (xs ++ ys)) else none
  | _, _ => none
def subD : D → D → Option D
  | .int i, .int j => some (.int (i - j))
  | _, _ => none
def mulOk (i j : Int) : Bool := decide (i.natAbs.log2 + j.natAbs.log2 < 100000000)
def mulD : D → D → Option D
  | .int i, .int j => if mulOk i j = true then some (.int (i * j)) else none
  | _, _ => none
def divOk (j : Int) : Bool := decide (0 < j) && decide (j.natAbs.log2 < 9000)
def fdivD : D → D → Option D
  | .int i, .int j => if divOk j = true then some (.int (i / j)) else none
  | _, _ => none
def modD : D → D → Option D
  | .int i, .int j => if 0 < j then some (.int (i % j)) else none
  | _, _ => none
def powD : D → D → Option D
  | .int i, .int j => if 0 ≤ j ∧ j ≤ 1000000 ∧ i.natAbs < 2 ^ 64 then some (.int (i ^ j.toNat)) else none
  | _, _ => none
def negD : D → Option D
  | .int i => some (.int (-i))
  | _ => none
section
variable {X : Cx} {C : Fc} {pos : Pos} {a b : Expr} {f g : M D}
def rAddS : R2 := fun x y H Q => ∃ i j, x = .str i ∧ y = .str j ∧ i.length + j.length ≤ sizeLine ∧ Q (.str (i ++ j)) H
theorem add_ok : Op2 X.K (fun x y H Q => rI0 (fun i j => .int (i + j)) x y H Q ∨ (rAddS x y H Q ∨ rCatA X.K x y H Q)) addD := fun C Hf H σ ρ v w x y z Q s d1 d2 e q => by
  cases x with
  | int i =>
    cases y <;> first | cases e | skip
    exact .inl ⟨_, _, d1.int_of, d2.int_of, q.now s (.int _)⟩
  | str i =>
    cases y with
    | str j =>
      simp only [addD] at e
      split at e
      · rename_i hl
        cases e
        exact .inr (.inl ⟨_, _, d1.str_of, d2.str_of, hl, q.now s (.str _)⟩)
      · cases e
    | _ => cases e
  | tuple xs =>
    cases y with
    | tuple ys =>
      simp only [addD] at e
      split at e
      · rename_i hl
        cases e
        obtain ⟨p, vs, rfl, h1, h2⟩ := d1.tup_of
        obtain ⟨p', ws, rfl, h3, h4⟩ := d2.tup_of
        have l1 := DpAll.length h2
        have l2 := DpAll.length h4
        refine .inr (.inr ⟨p, p', vs, ws, rfl, rfl, Evl.ex_t s.e1 h1, Evl.ex_t s.e1 h3, by omega, fun e => ?_, fun _ e => ?_, fun _ _ t ht => ?_⟩)
        · subst e
          have : xs = [] := List.eq_nil_of_length_eq_zero l1.symm
          subst this
          exact q.now s (.tup h3 h4)
        · subst e
          have : ys = [] := List.eq_nil_of_length_eq_zero l2.symm
          subst this
          rw [List.append_nil] at q
          exact q.now s (.tup h1 h2)
        · have gr := Grow.new (o := .tup (vs ++ ws)) s.e1 ht
          exact q.nowG s gr (.tup (SqT.of upd_same) (DpAll.append (DpAll.mono gr.f _ _ h2) (DpAll.mono gr.f _ _ h4)))
      · cases e
    | _ => cases e
  | _ => cases e
theorem pd_add (ha : PDe X C a f) (hb : PDe X C b g) : PDe X C (.BinOp a .Add b pos) (M.op2 addD f g) := pd_op (op_add.or (op_add_str.or op_catA)) add_ok ha hb
theorem int2_ok {K : PySem.W.Frag} {c : Int → Int → Prop} {h : Int → Int → Int} {o : D → D → Option D} (ho : ∀ x y z, o x y = some z → ∃ i j, x = .int i ∧ y = .int j ∧ c i j ∧ z = .int (h i j)) : Op2 K (rI c fun i j => .int (h i j)) o := fun C Hf H σ ρ v w x y z Q s d1 d2 e q => by
  obtain ⟨i, j, rfl, rfl, hc, rfl⟩ := ho x y z e
  exact ⟨i, j, d1.int_of, d2.int_of, hc, q.now s (.int _)⟩
theorem int2_ok0 {K : PySem.W.Frag} {h : Int → Int → Int} {o : D → D → Option D} (ho : ∀ x y z, o x y = some z → ∃ i j, x = .int i ∧ y = .int j ∧ z = .int (h i j)) : Op2 K (rI0 fun i j => .int (h i j)) o := fun C Hf H σ ρ v w x y z Q s d1 d2 e q => by
  obtain ⟨i, j, rfl, rfl, rfl⟩ := ho x y z e
  exact ⟨i, j, d1.int_of, d2.int_of, q.now s (.int _)⟩
theorem pd_sub (ha : PDe X C a f) (hb : PDe X C b g) : PDe X C (.BinOp a .Sub b pos) (M.op2 subD f g) := pd_op op_sub (int2_ok0 fun x y z e => by
  cases x <;> cases y <;> cases e
  exact ⟨_, _, rfl, rfl, rfl⟩) ha hb
theorem pd_fdiv (ha : PDe X C a f) (hb : PDe X C b g) : PDe X C (.BinOp a .FloorDiv b pos) (M.op2 fdivD f g) := pd_op op_fdivW (int2_ok fun x y z e => by
  cases x <;> cases y <;> first | cases e | skip
  simp only [fdivD] at e
  split at e
  · rename_i h
    cases e
    unfold divOk at h
    rw [Bool.and_eq_true] at h
    exact ⟨_, _, rfl, rfl, ⟨of_decide_eq_true h.1, of_decide_eq_true h.2⟩, rfl⟩
  · cases e) ha hb
theorem pd_mod (ha : PDe X C a f) (hb : PDe X C b g) : PDe X C (.BinOp a .Mod b pos) (M.op2 modD f g) := pd_op op_mod (int2_ok fun x y z e => by
  cases x <;> cases y <;> first | cases e | skip
  simp only [modD] at e
  split at e
  · rename_i h
    cases e
    exact ⟨_, _, rfl, rfl, h, rfl⟩
  · cases e) ha hb
theorem pd_pow (ha : PDe X C a f) (hb : PDe X C b g) : PDe X C (.BinOp a .Pow b pos) (M.op2 powD f g) := pd_op op_pow (int2_ok fun x y z e => by
  cases x <;> cases y <;> first | cases e | skip
  simp only [powD] at e
  split at e
  · rename_i h
    cases e
    exact ⟨_, _, rfl, rfl, h, rfl⟩
  · cases e) ha hb
theorem pd_mul (ha : PDe X C a f) (hb : PDe X C b g) : PDe X C (.BinOp a .Mult b pos) (M.op2 mulD f g) := pd_op op_mulB (int2_ok fun x y z e => by
  cases x <;> cases y <;> first | cases e | skip
  simp only [mulD] at e
  split at e
  · rename_i h
    cases e
    simp only [mulOk, decide_eq_true_eq] at h
    exact ⟨_, _, rfl, rfl, h, rfl⟩
  · cases e) ha hb
theorem pd_neg (ha : PDe X C a f) : PDe X C (.UnaryOp .USub a pos) (M.op1 negD f) := pd_un un_neg (fun C Hf H σ ρ v x z Q s d e q => by
  cases x <;> cases e
  exact ⟨_, d.int_of, q.now s (.int _)⟩) ha

/-! ### comparisons -/
def ltD : D → D → Option D
  | .int i, .int j => some (.bool (decide (i < j)))
  | _, _ => none
def leD : D → D → Option D
  | .int i, .int j => some (.bool (decide (i ≤ j)))
  | _, _ => none
def gtD : D → D → Option D
  | .int i, .int j => some (.bool (decide (j < i)))
  | _, _ => none
def geD : D → D → Option D
  | .int i, .int j => some (.bool (decide (j ≤ i)))
  | _, _ => none
theorem cmpI_ok {K : PySem.W.Frag} {h : Int → Int → Bool} {o : D → D → Option D} (ho : ∀ x y z, o x y = some z → ∃ i j, x = .int i ∧ y = .int j ∧ z = .bool (h i j)) : Op2B K (rI0 fun i j => .bl (h i j)) o := fun Hf H v w x y z Q e d1 d2 ez q => by
  obtain ⟨i, j, rfl, rfl, e2⟩ := ho x y _ ez
  cases e2
  exact ⟨i, j, d1.int_of, d2.int_of, q⟩
theorem ltI {x y z : D} (e : ltD x y = some z) : ∃ i j, x = .int i ∧ y = .int j ∧ z = .bool (decide (i < j)) := by
  cases x <;> cases y <;> cases e
  exact ⟨_, _, rfl, rfl, rfl⟩
theorem leI {x y z : D} (e : leD x y = some z) : ∃ i j, x = .int i ∧ y = .int j ∧ z = .bool (decide (i ≤ j)) := by
  cases x <;> cases y <;> cases e
  exact ⟨_, _, rfl, rfl, rfl⟩
theorem gtI {x y z : D} (e : gtD x y = some z) : ∃ i j, x = .int i ∧ y = .int j ∧ z = .bool (decide (j < i)) := by
  cases x <;> cases y <;> cases e
  exact ⟨_, _, rfl, rfl, rfl⟩
theorem geI {x y z : D} (e : geD x y = some z) : ∃ i j, x = .int i ∧ y = .int j ∧ z = .bool (decide (j ≤ i)) := by
  cases x <;> cases y <;> cases e
  exact ⟨_, _, rfl, rfl, rfl⟩
theorem bI {o : D → D → Option D} {h : Int → Int → Bool} (ho : ∀ x y z, o x y = some z → ∃ i j, x = .int i ∧ y = .int j ∧ z = .bool (h i j)) : ∀ x y z, o x y = some z → ∃ b, z = .bool b := fun x y z e => by
  obtain ⟨_, _, _, _, h⟩ := ho x y z e
  exact ⟨_, h⟩
theorem lt_okB {K : PySem.W.Frag} : Op2B K (rI0 fun i j => .bl (decide (i < j))) ltD := cmpI_ok fun _ _ _ => ltI
theorem le_okB {K : PySem.W.Frag} : Op2B K (rI0 fun i j => .bl (decide (i ≤ j))) leD := cmpI_ok fun _ _ _ => leI
theorem gt_okB {K : PySem.W.Frag} : Op2B K (rI0 fun i j => .bl (decide (j < i))) gtD := cmpI_ok fun _ _ _ => gtI
theorem ge_okB {K : PySem.W.Frag} : Op2B K (rI0 fun i j => .bl (decide (j ≤ i))) geD := cmpI_ok fun _ _ _ => geI
theorem lt_b : ∀ x y z, ltD x y = some z → ∃ b, z = .bool b := bI fun _ _ _ => ltI
theorem le_b : ∀ x y z, leD x y = some z → ∃ b, z = .bool b := bI fun _ _ _ => leI
theorem gt_b : ∀ x y z, gtD x y = some z → ∃ b, z = .bool b := bI fun _ _ _ => gtI
theorem ge_b : ∀ x y z, geD x y = some z → ∃ b, z = .bool b := bI fun _ _ _ => geI
theorem pd_lt (ha : PDe X C a f) (hb : PDe X C b g) : PDe X C (.Compare a [.Lt] [b] pos) (M.op2 ltD f g) := pd_cmp op_lt (lt_okB.op2 lt_b) ha hb (nomark _)
theorem pd_le (ha : PDe X C a f) (hb : PDe X C b g) : PDe X C (.Compare a [.LtE] [b] pos) (M.op2 leD f g) := pd_cmp op_le (le_okB.op2 le_b) ha hb (nomark _)
theorem pd_gt (ha : PDe X C a f) (hb : PDe X C b g) : PDe X C (.Compare a [.Gt] [b] pos) (M.op2 gtD f g) := pd_cmp op_gt (gt_okB.op2 gt_b) ha hb (nomark _)
theorem pd_ge (ha : PDe X C a f) (hb : PDe X C b g) : PDe X C (.Compare a [.GtE] [b] pos) (M.op2 geD f g) := pd_cmp op_ge (ge_okB.op2 ge_b) ha hb (nomark _)
theorem pdt_lt (ha : PDe X C a f) (hb : PDe X C b g) : PDt X C (.Compare a [.Lt] [b] pos) (M.test (M.op2 ltD f g)) := pdt_cmp op_lt (lt_okB.op2 lt_b) ha hb (nomark _)
theorem pdt_le (ha : PDe X C a f) (hb : PDe X C b g) : PDt X C (.Compare a [.LtE] [b] pos) (M.test (M.op2 leD f g)) := pdt_cmp op_le (le_okB.op2 le_b) ha hb (nomark _)
theorem pdt_gt (ha : PDe X C a f) (hb : PDe X C b g) : PDt X C (.Compare a [.Gt] [b] pos) (M.test (M.op2 gtD f g)) := pdt_cmp op_gt (gt_okB.op2 gt_b) ha hb (nomark _)
theorem pdt_ge (ha : PDe X C a f) (hb : PDe X C b g) : PDt X C (.Compare a [.GtE] [b] pos) (M.test (M.op2 geD f g)) := pdt_cmp op_ge (ge_okB.op2 ge_b) ha hb (nomark _)
variable {c : Expr} {k : M D}
theorem pd_lele (ha : PDe X C a f) (hb : PDe X C b g) (hc : PDe X C c k) (hm : lastMarks [.LtE, .LtE] [b, c] = false := by with_unfolding_all rfl) : PDe X C (.Compare a [.LtE, .LtE] [b, c] pos) (M.chain leD leD f g k) := pd_chain op_le op_le le_okB le_okB le_b ha hb hc hm
theorem pdt_lele (ha : PDe X C a f) (hb : PDe X C b g) (hc : PDe X C c k) (hm : lastMarks [.LtE, .LtE] [b, c] = false := by with_unfolding_all rfl) : PDt X C (.Compare a [.LtE, .LtE] [b, c] pos) (M.test (M.chain leD leD f g k)) := pdt_chain op_le op_le le_okB le_okB le_b ha hb hc hm

/-- ==: scalars as they are; nested data where the texts within are sound -/
def eqD (x y : D) : Option Bool := match x, y with
  | .none, .none => some true
  | .none, .bool _ => some false
  | .none, .int _ => some false
  | .none, .str _ => some false
  | .bool _, .none => some false
  | .bool a, .bool b => some (decide (a = b))
  | .bool _, .str _ => some false
  | .int _, .none => some false
  | .int a, .int b => some (decide (a = b))
  | .int _, .str _ => some false
  | .str _, .none => some false
  | .str _, .bool _ => some false
  | .str _, .int _ => some false
  | .str a, .str b => some (decide (a = b))
  | x, y => if SeqAt.shaped x = true ∧ SeqAt.shaped y = true then some (PyData.eqv x y) else none
def eqDD (x y : D) : Option D := (eqD x y).map .bool
def neDD (x y : D) : Option D := (eqD x y).map fun b => .bool !b
theorem eq_cases {K : PySem.W.Frag} {H : Hp} {v w : V} {x y : D} {b : Bool} (d1 : Dp K H v x) (d2 : Dp K H w y) (e : eqD x y = some b) : (scal v w = true ∧ b = decide (v = w)) ∨ (SeqAt.shaped x = true ∧ SeqAt.shaped y = true ∧ b = PyData.eqv x y) := by
  unfold eqD at e
  split at e
  all_goals first
    | (split at e
       · rename_i h
         cases e
         exact .inr ⟨h.1, h.2, rfl⟩
       · cases e)
    | (cases e
       cases d1
       cases d2
       refine .inl ⟨rfl, ?_⟩
       simp)
theorem eq_okB : Op2B X.K (fun x y H Q => rEq x y H Q ∨ rEqD X.K x y H Q) eqDD := fun Hf H v w x y z Q e d1 d2 ez q => by
  unfold eqDD at ez
  cases he : eqD x y with
  | none => rw [he] at ez; cases ez
  | some b =>
    rw [he] at ez
    cases ez
    rcases eq_cases d1 d2 he with ⟨h1, rfl⟩ | ⟨h1, h2, rfl⟩
    · exact .inl ⟨h1, q⟩
    · exact .inr ⟨x, y, Dp.mono e _ _ d1, Dp.mono e _ _ d2, h1, h2, q⟩
theorem ne_okB : Op2B X.K (fun x y H Q => rNe x y H Q ∨ rNeD X.K x y H Q) neDD := fun Hf H v w x y z Q e d1 d2 ez q => by
  unfold neDD at ez
  cases he : eqD x y with
  | none => rw [he] at ez; cases ez
  | some b =>
    rw [he] at ez
    cases ez
    rcases eq_cases d1 d2 he with ⟨h1, rfl⟩ | ⟨h1, h2, rfl⟩
    · exact .inl ⟨h1, q⟩
    · exact .inr ⟨x, y, Dp.mono e _ _ d1, Dp.mono e _ _ d2, h1, h2, q⟩
theorem eq_b : ∀ x y z, eqDD x y = some z → ∃ b, z = .bool b := fun x y z e => by
  unfold eqDD at e
  cases he : eqD x y with
  | none => rw [he] at e; cases e
  | some b => rw [he] at e; cases e; exact ⟨_, rfl⟩
theorem ne_b : ∀ x y z, neDD x y = some z → ∃ b, z = .bool b := fun x y z e => by
  unfold neDD at e
  cases he : eqD x y with
  | none => rw [he] at e; cases e
  | some b => rw [he] at e; cases e; exact ⟨_, rfl⟩
theorem pd_eq (hu : X.A.units + 64 < cLine) (ha : PDe X C a f) (hb : PDe X C b g) : PDe X C (.Compare a [.Eq] [b] pos) (M.op2 eqDD f g) := pd_cmp (op_eq.or (op_eqD hu)) (eq_okB.op2 eq_b) ha hb (nomark _)
theorem pd_ne (hu : X.A.units + 64 < cLine) (ha : PDe X C a f) (hb : PDe X C b g) : PDe X C (.Compare a [.NotEq] [b] pos) (M.op2 neDD f g) := pd_cmp (op_ne.or (op_neD hu)) (ne_okB.op2 ne_b) ha hb (nomark _)
theorem pdt_eq (hu : X.A.units + 64 < cLine) (ha : PDe X C a f) (hb : PDe X C b g) : PDt X C (.Compare a [.Eq] [b] pos) (M.test (M.op2 eqDD f g)) := pdt_cmp (op_eq.or (op_eqD hu)) (eq_okB.op2 eq_b) ha hb (nomark _)
theorem pdt_ne (hu : X.A.units + 64 < cLine) (ha : PDe X C a f) (hb : PDe X C b g) : PDt X C (.Compare a [.NotEq] [b] pos) (M.test (M.op2 neDD f g)) := pdt_cmp (op_ne.or (op_neD hu)) (ne_okB.op2 ne_b) ha hb (nomark _)
def isNoneB : D → Bool
  | .none => true
  | _ => false
def isND (x y : D) : Option D := if isNoneB y = true then some (.bool (isNoneB x)) else none
def notND (x y : D) : Option D := if isNoneB y = true then some (.bool !(isNoneB x)) else none
theorem isNone_v {K : PySem.W.Frag} {H : Hp} {v : V} {x : D} (d : Dp K H v x) : decide (v = .non) = isNoneB x := by cases d <;> simp [isNoneB]
theorem isN_ok : Op2B X.K (fun x y H Q => y = .non ∧ Q (.bl (decide (x = .non))) H) isND := fun Hf H v w x y z Q e d1 d2 ez q => by
  unfold isND at ez
  split at ez
  · rename_i h
    cases y <;> first | cases h | skip
    cases ez
    exact ⟨d2.none_of, by rw [isNone_v d1]; exact q⟩
  · cases ez
theorem notN_ok : Op2B X.K (fun x y H Q => y = .non ∧ Q (.bl (!decide (x = .non))) H) notND := fun Hf H v w x y z Q e d1 d2 ez q => by
  unfold notND at ez
  split at ez
  · rename_i h
    cases y <;> first | cases h | skip
    cases ez
    exact ⟨d2.none_of, by rw [isNone_v d1]; exact q⟩
  · cases ez
theorem isN_b : ∀ x y z, isND x y = some z → ∃ b, z = .bool b := fun x y z e => by
  unfold isND at e
  split at e <;> cases e
  exact ⟨_, rfl⟩
theorem notN_b : ∀ x y z, notND x y = some z → ∃ b, z = .bool b := fun x y z e => by
  unfold notND at e
  split at e <;> cases e
  exact ⟨_, rfl⟩
theorem pd_is (ha : PDe X C a f) (hb : PDe X C b g) : PDe X C (.Compare a [.Is] [b] pos) (M.op2 isND f g) := pd_cmp op_isN (isN_ok.op2 isN_b) ha hb (nomark _)
theorem pd_isnot (ha : PDe X C a f) (hb : PDe X C b g) : PDe X C (.Compare a [.IsNot] [b] pos) (M.op2 notND f g) := pd_cmp op_notN (notN_ok.op2 notN_b) ha hb (nomark _)
theorem pdt_is (ha : PDe X C a f) (hb : PDe X C b g) : PDt X C (.Compare a [.Is] [b] pos) (M.test (M.op2 isND f g)) := pdt_cmp op_isN (isN_ok.op2 isN_b) ha hb (nomark _)
theorem pdt_isnot (ha : PDe X C a f) (hb : PDe X C b g) : PDt X C (.Compare a [.IsNot] [b] pos) (M.test (M.op2 notND f g)) := pdt_cmp op_notN (notN_ok.op2 notN_b) ha hb (nomark _)
/-- in, not in: flat data in a list or a tuple of flat data -/
def flatD : D → Option V
  | .none => some .non
  | .bool b => some (.bl b)
  | .int i => some (.int i)
  | .str x => some (.str x)
  | _ => none
def flatAll : List D → Option (List V)
  | [] => some []
  | x :: xs => (flatD x).bind fun v => (flatAll xs).map fun vs => v :: vs
def inSeq (x : D) (xs : List D) : Option Bool := (flatD x).bind fun v => (flatAll xs).bind fun vs => if flatV v = true ∧ vs.all flatV = true then some (inV v vs) else none
def inB : D → D → Option Bool
  | x, .list xs => inSeq x xs
  | x, .tuple xs => inSeq x xs
  | .str i, .str j => some (!(Builtin.Str.occurrences j i 0 j.length 1).isEmpty)
  | _, _ => none
def inDD (x y : D) : Option D := (inB x y).map .bool
def notInDD (x y : D) : Option D := (inB x y).map fun b => .bool !b
theorem flat_v {K : PySem.W.Frag} {H : Hp} {v u : V} {x : D} (d : Dp K H v x) (e : flatD x = some u) : v = u := by
  cases d <;> cases e <;> rfl
theorem flat_vs {K : PySem.W.Frag} {H : Hp} : ∀ {vs us : List V} {xs : List D}, DpAll K H vs xs → flatAll xs = some us → vs = us
  | _, us, _, .nil, e => by cases e; rfl
  | _, us, _, .cons (d := d) (ds := ds) h t, e => by
    unfold flatAll at e
    cases h1 : flatD d with
    | none => rw [h1] at e; cases e
    | some v =>
      cases h2 : flatAll ds with
      | none => rw [h1, h2] at e; cases e
      | some vs =>
        rw [h1, h2] at e
        cases e
        rw [flat_v h h1, flat_vs t h2]
theorem in_cases {K : PySem.W.Frag} {Hf H : Hp} {v w : V} {x y : D} {b : Bool} (e1 : Ex Hf H) (d1 : Dp K Hf v x) (d2 : Dp K Hf w y) (e : inB x y = some b) :
    (∃ p xs, w = .ref p ∧ (SqL K H p xs ∨ SqT K H p xs) ∧ flatV v = true ∧ xs.all flatV = true ∧ b = inV v xs) ∨ (∃ i j, v = .str i ∧ w = .str j ∧ b = !(Builtin.Str.occurrences j i 0 j.length 1).isEmpty) := by
  have seq : ∀ {xs : List D} {us : List V}, DpAll K Hf us xs → inSeq x xs = some b → flatV v = true ∧ us.all flatV = true ∧ b = inV v us := fun {xs us} da e => by
    unfold inSeq at e
    cases h1 : flatD x with
    | none => rw [h1] at e; cases e
    | some v' =>
      cases h2 : flatAll xs with
      | none => rw [h1, h2] at e; cases e
      | some vs =>
        rw [h1, h2] at e
        have a1 := flat_v d1 h1
        have a2 := flat_vs da h2
        subst a1 a2
        simp only [Option.bind_some] at e
        split at e
        · rename_i h
          cases e
          exact ⟨h.1, h.2, rfl⟩
        · cases e
  unfold inB at e
  split at e
  · obtain ⟨p, us, rfl, h1, h2⟩ := d2.list_of
    obtain ⟨a1, a2, a3⟩ := seq h2 e
    exact .inl ⟨p, us, rfl, .inl (Evl.ex_l e1 h1), a1, a2, a3⟩
  · obtain ⟨p, us, rfl, h1, h2⟩ := d2.tup_of
    obtain ⟨a1, a2, a3⟩ := seq h2 e
    exact .inl ⟨p, us, rfl, .inr (Evl.ex_t e1 h1), a1, a2, a3⟩
  · cases e
    exact .inr ⟨_, _, d1.str_of, d2.str_of, rfl⟩
  · cases e
def rInS : R2 := fun x y H Q => ∃ i j, x = .str i ∧ y = .str j ∧ Q (.bl (!(Builtin.Str.occurrences j i 0 j.length 1).isEmpty)) H
def rNotInS : R2 := fun x y H Q => ∃ i j, x = .str i ∧ y = .str j ∧ Q (.bl (!(!(Builtin.Str.occurrences j i 0 j.length 1).isEmpty))) H
theorem in_okB : Op2B X.K (fun x y H Q => rIn X.K false x y H Q ∨ rInS x y H Q) inDD := fun Hf H v w x y z Q e d1 d2 ez q => by
  unfold inDD at ez
  cases he : inB x y with
  | none => rw [he] at ez; cases ez
  | some b =>
    rw [he] at ez
    cases ez
    rcases in_cases e d1 d2 he with ⟨p, xs, rfl, h1, h2, h3, rfl⟩ | ⟨i, j, rfl, rfl, rfl⟩
    · exact .inl ⟨p, xs, rfl, h1, h2, h3, q⟩
    · exact .inr ⟨i, j, rfl, rfl, q⟩
theorem notIn_okB : Op2B X.K (fun x y H Q => rIn X.K true x y H Q ∨ rNotInS x y H Q) notInDD := fun Hf H v w x y z Q e d1 d2 ez q => by
  unfold notInDD at ez
  cases he : inB x y with
  | none => rw [he] at ez; cases ez
  | some b =>
    rw [he] at ez
    cases ez
    rcases in_cases e d1 d2 he with ⟨p, xs, rfl, h1, h2, h3, rfl⟩ | ⟨i, j, rfl, rfl, rfl⟩
    · exact .inl ⟨p, xs, rfl, h1, h2, h3, q⟩
    · exact .inr ⟨i, j, rfl, rfl, q⟩
theorem inD_b : ∀ x y z, inDD x y = some z → ∃ b, z = .bool b := fun x y z e => by
  unfold inDD at e
  cases he : inB x y with
  | none => rw [he] at e; cases e
  | some b => rw [he] at e; cases e; exact ⟨_, rfl⟩
theorem notInD_b : ∀ x y z, notInDD x y = some z → ∃ b, z = .bool b := fun x y z e => by
  unfold notInDD at e
  cases he : inB x y with
  | none => rw [he] at e; cases e
  | some b => rw [he] at e; cases e; exact ⟨_, rfl⟩
theorem pd_in (hm : behindInMarks .In b = false) (ha : PDe X C a f) (hb : PDe X C b g) : PDe X C (.Compare a [.In] [b] pos) (M.op2 inDD f g) := pd_cmp (op_in_seq.or op_in_str) (in_okB.op2 inD_b) ha hb hm
theorem pd_notIn (hm : behindInMarks .NotIn b = false) (ha : PDe X C a f) (hb : PDe X C b g) : PDe X C (.Compare a [.NotIn] [b] pos) (M.op2 notInDD f g) := pd_cmp (op_notIn_seq.or op_notin_str) (notIn_okB.op2 notInD_b) ha hb hm
theorem pdt_in (hm : behindInMarks .In b = false) (ha : PDe X C a f) (hb : PDe X C b g) : PDt X C (.Compare a [.In] [b] pos) (M.test (M.op2 inDD f g)) := pdt_cmp (op_in_seq.or op_in_str) (in_okB.op2 inD_b) ha hb hm
theorem pdt_notIn (hm : behindInMarks .NotIn b = false) (ha : PDe X C a f) (hb : PDe X C b g) : PDt X C (.Compare a [.NotIn] [b] pos) (M.test (M.op2 notInDD f g)) := pdt_cmp (op_notIn_seq.or op_notin_str) (notIn_okB.op2 notInD_b) ha hb hm
end

/-! ### subscripts, slices -/
section
variable {X : Cx} {C : Fc} {pos p2 : Pos} {a b : Expr} {lo hi : Option Expr} {f g : M D} {l u : M (Option Int)}
def ixD : D → D → Option D
  | .list xs, .int i => atI xs i
  | .tuple xs, .int i => atI xs i
  | .str z, .int i => if z.length ≤ sizeLine then (atI z.cps.toList i).map fun c => .str ⟨#[c]⟩ else none
  | _, _ => none
theorem atI_dp {K : PySem.W.Frag} {H : Hp} {vs : List V} {xs : List D} {i : Int} {x : D} (h : DpAll K H vs xs) (e : atI xs i = some x) : ∃ v, atI vs i = some v ∧ Dp K H v x := by
  unfold atI at e ⊢
  rw [DpAll.length h]
  cases q : ixN xs.length i with
  | none => rw [q] at e; cases e
  | some j =>
    rw [q] at e
    exact DpAll.get h e
theorem ix_ok : Op2 X.K (rIx X.K) ixD := fun C Hf H σ ρ v w x y z Q s d1 d2 e q => by
  cases x with
  | list xs =>
    cases y <;> first | cases e | skip
    obtain ⟨p, us, rfl, h1, h2⟩ := d1.list_of
    obtain ⟨t, h3, h4⟩ := atI_dp h2 e
    exact .inl ⟨p, us, _, t, rfl, d2.int_of, Evl.ex_l s.e1 h1, h3, q.now s h4⟩
  | tuple xs =>
    cases y <;> first | cases e | skip
    obtain ⟨p, us, rfl, h1, h2⟩ := d1.tup_of
    obtain ⟨t, h3, h4⟩ := atI_dp h2 e
    exact .inr (.inl ⟨p, us, _, t, rfl, d2.int_of, Evl.ex_t s.e1 h1, h3, q.now s h4⟩)
  | str zz =>
    cases y with
    | int i =>
      simp only [ixD] at e
      split at e
      · rename_i hl
        cases h : atI zz.cps.toList i with
        | none => rw [h] at e; cases e
        | some c =>
          rw [h] at e
          cases e
          exact .inr (.inr ⟨_, _, c, d1.str_of, d2.int_of, hl, h, q.now s (.str _)⟩)
      · cases e
    | _ => cases e
  | _ => cases e
theorem pd_sub_ (ha : PDe X C a f) (hb : PDe X C b g) (hs : PlainIx b) : PDe X C (.Subscript a b pos) (M.op2 ixD f g) := pd_ix ix_seq ix_ok ha hb hs
def asI : D → Option Int
  | .int i => some i
  | _ => none
def M.part (f : M D) : M (Option Int) := M.bind f fun x => M.lift ((asI x).map some)
theorem pdo_none : PDo X C none (M.ret none) := po_imp po_none fun σ H Q ⟨Hf, ρ, s, h⟩ => PostG.now (b := (none : Option Int)) h s rfl
theorem pdo_some (ha : PDe X C a f) : PDo X C (some a) (M.part f) := po_imp (po_some ha) fun σ H Q ⟨Hf, ρ, s, h⟩ =>
  tG_bind s h fun v x H1 Hf1 ρ1 e1 s1 d1 h1 => by
    obtain ⟨z, hz, h2⟩ := h1.lift
    cases x <;> cases hz
    exact ⟨_, d1.int_of, PostG.now (b := some _) h2 s1 rfl⟩
def cutD (xs : List D) (lo hi : Option Int) : List D := (xs.drop (HT.sIx xs.length 0 lo)).take (HT.sIx xs.length xs.length hi - HT.sIx xs.length 0 lo)
theorem cut_dp {K : PySem.W.Frag} {H : Hp} {vs : List V} {xs : List D} (lo hi : Option Int) (h : DpAll K H vs xs) : DpAll K H (cutV vs lo hi) (cutD xs lo hi) := by
  unfold cutV cutD
  rw [DpAll.length h]
  exact DpAll.take _ (DpAll.drop _ h)
def sliceD (x : D) (lo hi : Option Int) : Option D := match x with
  | .tuple xs => some (.tuple (cutD xs lo hi))
  | .str z => if z.length ≤ sizeLine then some (.str (cutS z lo hi)) else none
  | _ => none
def M.slice (f : M D) (l u : M (Option Int)) : M D := M.bind f fun x => M.bind l fun a => M.bind u fun b => M.lift (sliceD x a b)
theorem pd_slice (ha : PDe X C a f) (hl : PDo X C lo l) (hu : PDo X C hi u) : PDe X C (.Subscript a (.Slice lo hi none p2) pos) (M.slice f l u) :=
  pe_imp (pe_slice (sl_tupA.or sl_str) ha hl hu) fun σ H Q ⟨Hf, ρ, s, h⟩ =>
    tG_bind s h fun v x H1 Hf1 ρ1 e1 s1 d1 h1 => tG_bind s1 h1 fun i i' H2 Hf2 ρ2 e2 s2 d2 h2 => tG_bind s2 h2 fun j j' H3 Hf3 ρ3 e3 s3 d3 h3 => by
      have d2 : i = i' := d2
      have d3 : j = j' := d3
      subst d2 d3
      obtain ⟨z, hz, h4⟩ := h3.lift
      have d1 := Dp.mono (e2.trans e3) _ _ d1
      unfold sliceD at hz
      split at hz
      · cases hz
        obtain ⟨p, us, rfl, g1, g2⟩ := Dp.tup_of d1
        have hlen := DpAll.length g2
        refine .inl ⟨p, us, rfl, Evl.ex_t s3.e1 g1, fun hw => ?_, fun _ t ht => ?_⟩
        · refine PostG.now (b := V.ref p) h4 s3 ?_
          rename_i xs _
          have e : cutD xs i j = xs := by
            unfold cutD
            rw [← hlen, hw.1, hw.2, Nat.sub_zero, List.drop_zero, hlen, List.take_length]
          rw [e]
          exact .tup g1 g2
        · have gr := Grow.new (o := .tup (cutV us i j)) s3.e1 ht
          exact PostG.nowG (b := V.ref t) h4 s3 gr (.tup (SqT.of upd_same) (DpAll.mono gr.f _ _ (cut_dp i j g2)))
      · split at hz
        · rename_i hl
          cases hz
          have e := Dp.str_of d1
          subst e
          exact .inr ⟨_, rfl, hl, PostG.now (b := V.str _) h4 s3 (.str _)⟩
        · cases hz
      · cases hz
/-- a slice of a list: a new list -/
def M.sliceL (f : M D) (l u : M (Option Int)) : M (List D) := M.bind f fun x => M.bind l fun a => M.bind u fun b => M.lift (match x with | .list xs => some (cutD xs a b) | _ => none)
theorem pdl_slice (ha : PDe X C a f) (hl : PDo X C lo l) (hu : PDo X C hi u) : PDl X C (.Subscript a (.Slice lo hi none p2) pos) (M.sliceL f l u) :=
  pe_imp (pe_slice sl_list ha hl hu) fun σ H Q ⟨Hf, ρ, s, h⟩ =>
    tG_bind s h fun v x H1 Hf1 ρ1 e1 s1 d1 h1 => tG_bind s1 h1 fun i i' H2 Hf2 ρ2 e2 s2 d2 h2 => tG_bind s2 h2 fun j j' H3 Hf3 ρ3 e3 s3 d3 h3 => by
      have d2 : i = i' := d2
      have d3 : j = j' := d3
      subst d2 d3
      obtain ⟨z, hz, h4⟩ := h3.lift
      have d1 := Dp.mono (e2.trans e3) _ _ d1
      cases x <;> cases hz
      obtain ⟨p, us, rfl, g1, g2⟩ := Dp.list_of d1
      refine ⟨p, us, rfl, Evl.ex_l s3.e1 g1, fun t ht => ?_⟩
      exact PostG.nowG (b := V.ref t) h4 s3 (Grow.mine (o := .lst (cutV us i j)) s3.e1 ht) (s3.newL ht (cut_dp i j g2))
/-- list + list: a new list -/
def M.catL (f g : M D) : M (List D) := M.bind f fun x => M.bind g fun y => M.lift (match x, y with | .list xs, .list ys => if xs.length + ys.length ≤ sizeLine then some (xs ++ ys) else none | _, _ => none)
theorem pdl_cat (ha : PDe X C a f) (hb : PDe X C b g) : PDl X C (.BinOp a .Add b pos) (M.catL f g) := pe_imp (pe_op op_catL ha hb) fun σ H Q ⟨Hf, ρ, s, h⟩ =>
  tG_bind s h fun v x H1 Hf1 ρ1 e1 s1 d1 h1 => tG_bind s1 h1 fun w y H2 Hf2 ρ2 e2 s2 d2 h2 => by
    obtain ⟨z, hz, h4⟩ := h2.lift
    have d1 := Dp.mono e2 _ _ d1
    cases x <;> cases y <;> first | cases hz | skip
    simp only at hz
    split at hz
    · rename_i hl
      cases hz
      obtain ⟨p, us, rfl, g1, g2⟩ := Dp.list_of d1
      obtain ⟨p', ws, rfl, g3, g4⟩ := Dp.list_of d2
      have l1 := DpAll.length g2
      have l2 := DpAll.length g4
      refine ⟨p, p', us, ws, rfl, rfl, Evl.ex_l s2.e1 g1, Evl.ex_l s2.e1 g3, by omega, fun t ht => ?_⟩
      exact PostG.nowG (b := V.ref t) h4 s2 (Grow.mine (o := .lst (us ++ ws)) s2.e1 ht) (s2.newL ht (DpAll.append g2 g4))
    · cases hz
end
end PD

set_option maxRecDepth 100000
set_option maxHeartbeats 4000000
set_option autoImplicit false
namespace PD
open PySem PySem.Spec L2
open Evl (Ex)

/-! ### built-in functions on data -/
def CallD (K : PySem.W.Frag) (r : List V → Hp → VK → Prop) (o : List D → Option D) : Prop :=
  ∀ (C : Fc) (Hf H : Hp) (σ : L2.St) (ρ : DE) (vs : List V) (xs : List D) (z : D) (Q : VK), SR K C Hf H σ ρ → DpAll K Hf vs xs → o xs = some z → PostG K C σ (relD K σ) Hf (.ok z ρ) Q → r vs H Q
def M.call (o : List D → Option D) (g : M (List Arg)) : M D := M.bind (M.dats g) fun xs => M.lift (o xs)
section
variable {X : Cx} {C : Fc} {pos p : Pos} {e a b : Expr} {es : List Expr} {x : Str} {bid T : String} {r : List V → Hp → VK → Prop} {o : List D → Option D} {g : M (List Arg)} {f : M D}
theorem call_go (ho : CallD X.K r o) {σ : L2.St} {H : Hp} {Q : VK} (h : tG X.K C (relD X.K) (M.call o g) σ H Q) : tCB r (tG X.K C (relA X.K) g) σ H Q := by
  obtain ⟨Hf, ρ, s, h⟩ := h
  have h : PostG X.K C σ (relD X.K σ) Hf (M.bind g (fun as => M.bind (M.lift (datOf as)) fun xs => M.lift (o xs)) ρ) Q := by
    have e : M.call o g ρ = M.bind g (fun as => M.bind (M.lift (datOf as)) fun xs => M.lift (o xs)) ρ := by
      unfold M.call M.dats M.bind
      cases g ρ <;> rfl
    rw [← e]
    exact h
  refine tG_bind s h fun vs as H1 Hf1 ρ1 e1 s1 d1 h1 => ?_
  cases q : datOf as with
  | none =>
    unfold M.bind M.lift at h1
    rw [q] at h1
    exact (show False from h1).elim
  | some xs =>
    have h1 : PostG X.K C σ (relD X.K σ) Hf1 (M.lift (o xs) ρ1) Q := by
      unfold M.bind M.lift at h1
      rw [q] at h1
      exact h1
    obtain ⟨z, hz, h2⟩ := h1.lift
    exact ho C Hf1 H1 σ ρ1 vs xs z Q s1 (ArgsRel.dats d1 q) hz h2
theorem pd_callB (hc : CallR X (.builtin bid) r) (ho : CallD X.K r o) (hg : Gl X x) (hm : X.mg x = none) (hv : bootBuiltins x = some (.builtin bid)) (ha : PDa X C (e :: es) g) (hn : x ≠ "__name__" := by decide) (hdb : (x == ("__debug__" : Str)) = false := by decide)
    (he : starEach (e :: es) X.env = (false, eval e X.env) :: starEach es X.env := by rfl) (hpl : (backTo pos (starEach es X.env)).any (·.1) = false := by rfl) : PDe X C (.Call (.Name x p) (e :: es) [] pos) (M.call o g) :=
  pe_imp (pe_callB hc hg hm hv ha hn hdb he hpl) fun _ _ _ h => call_go ho h
theorem pd_callTy (hc : CallR X (.type T) r) (ho : CallD X.K r o) (hg : Gl X x) (hm : X.mg x = none) (hv : bootBuiltins x = some (.type T)) (ha : PDa X C (e :: es) g) (hn : x ≠ "__name__" := by decide) (hdb : (x == ("__debug__" : Str)) = false := by decide)
    (he : starEach (e :: es) X.env = (false, eval e X.env) :: starEach es X.env := by rfl) (hpl : (backTo pos (starEach es X.env)).any (·.1) = false := by rfl) : PDe X C (.Call (.Name x p) (e :: es) [] pos) (M.call o g) :=
  pe_imp (pe_callTy hc hg hm hv ha hn hdb he hpl) fun _ _ _ h => call_go ho h
theorem dp1 {K : PySem.W.Frag} {H : Hp} {vs : List V} {x : D} (h : DpAll K H vs [x]) : ∃ v, vs = [v] ∧ Dp K H v x := by
  cases h with
  | cons h t => cases t; exact ⟨_, rfl, h⟩
theorem dp2 {K : PySem.W.Frag} {H : Hp} {vs : List V} {x y : D} (h : DpAll K H vs [x, y]) : ∃ v w, vs = [v, w] ∧ Dp K H v x ∧ Dp K H w y := by
  cases h with
  | cons h t =>
    obtain ⟨w, rfl, h2⟩ := dp1 t
    exact ⟨_, _, rfl, h, h2⟩
def lenD : List D → Option D
  | [.list xs] => some (.int xs.length)
  | [.tuple xs] => some (.int xs.length)
  | [.str z] => if z.length ≤ sizeLine then some (.int z.length) else none
  | _ => none
theorem len_ok : CallD X.K (fun xs H Q => ∃ x n, xs = [x] ∧ LenV X.K x H n ∧ Q (.int n) H) lenD := fun C Hf H σ ρ vs xs z Q s d e q => by
  unfold lenD at e
  split at e
  · cases e
    obtain ⟨v, rfl, h⟩ := dp1 d
    obtain ⟨p, us, rfl, h1, h2⟩ := h.list_of
    exact ⟨.ref p, _, rfl, .inl ⟨us, Evl.ex_l s.e1 h1, h2.length.symm⟩, q.now s (.int _)⟩
  · cases e
    obtain ⟨v, rfl, h⟩ := dp1 d
    obtain ⟨p, us, rfl, h1, h2⟩ := h.tup_of
    exact ⟨.ref p, _, rfl, .inr ⟨us, Evl.ex_t s.e1 h1, h2.length.symm⟩, q.now s (.int _)⟩
  · split at e
    · rename_i hl
      cases e
      obtain ⟨v, rfl, h⟩ := dp1 d
      rw [h.str_of]
      exact ⟨_, _, rfl, ⟨hl, rfl⟩, q.now s (.int _)⟩
    · cases e
  · cases e
theorem pd_len (hm : X.mg "len" = none) (ha : PDa X C (e :: es) g) (hg : Gl X "len" := by rfl) (he : starEach (e :: es) X.env = (false, eval e X.env) :: starEach es X.env := by rfl) (hpl : (backTo pos (starEach es X.env)).any (·.1) = false := by rfl) : PDe X C (.Call (.Name "len" p) (e :: es) [] pos) (M.call lenD g) :=
  pd_callB call_len len_ok hg hm PySem.boot_len ha (by decide) (by decide) he hpl
def absD : List D → Option D
  | [.int i] => some (.int (if i < 0 then -i else i))
  | _ => none
theorem abs_ok {K : PySem.W.Frag} : CallD K (fun xs H Q => ∃ i, xs = [.int i] ∧ Q (.int (if i < 0 then -i else i)) H) absD := fun C Hf H σ ρ vs xs z Q s d e q => by
  unfold absD at e
  split at e
  · cases e
    obtain ⟨v, rfl, h⟩ := dp1 d
    exact ⟨_, by rw [h.int_of], q.now s (.int _)⟩
  · cases e
theorem pd_abs (hm : X.mg "abs" = none) (ha : PDa X C (e :: es) g) (hg : Gl X "abs" := by rfl) (he : starEach (e :: es) X.env = (false, eval e X.env) :: starEach es X.env := by rfl) (hpl : (backTo pos (starEach es X.env)).any (·.1) = false := by rfl) : PDe X C (.Call (.Name "abs" p) (e :: es) [] pos) (M.call absD g) :=
  pd_callB call_abs abs_ok hg hm (by decide +kernel) ha (by decide) (by decide) he hpl
def maxD : List D → Option D
  | [.int i, .int j] => some (.int (if j > i then j else i))
  | _ => none
def minD : List D → Option D
  | [.int i, .int j] => some (.int (if j < i then j else i))
  | _ => none
theorem max_ok {K : PySem.W.Frag} : CallD K (fun xs H Q => ∃ i j, xs = [.int i, .int j] ∧ Q (.int (if j > i then j else i)) H) maxD := fun C Hf H σ ρ vs xs z Q s d e q => by
  unfold maxD at e
  split at e
  · cases e
    obtain ⟨v, w, rfl, h, h2⟩ := dp2 d
    exact ⟨_, _, by rw [h.int_of, h2.int_of], q.now s (.int _)⟩
  · cases e
theorem min_ok {K : PySem.W.Frag} : CallD K (fun xs H Q => ∃ i j, xs = [.int i, .int j] ∧ Q (.int (if j < i then j else i)) H) minD := fun C Hf H σ ρ vs xs z Q s d e q => by
  unfold minD at e
  split at e
  · cases e
    obtain ⟨v, w, rfl, h, h2⟩ := dp2 d
    exact ⟨_, _, by rw [h.int_of, h2.int_of], q.now s (.int _)⟩
  · cases e
theorem pd_max (hc : X.calm = true) (hm : X.mg "max" = none) (ha : PDa X C (e :: es) g) (hg : Gl X "max" := by rfl) (he : starEach (e :: es) X.env = (false, eval e X.env) :: starEach es X.env := by rfl) (hpl : (backTo pos (starEach es X.env)).any (·.1) = false := by rfl) : PDe X C (.Call (.Name "max" p) (e :: es) [] pos) (M.call maxD g) :=
  pd_callB (call_max2 hc) max_ok hg hm (by decide +kernel) ha (by decide) (by decide) he hpl
theorem pd_min (hc : X.calm = true) (hm : X.mg "min" = none) (ha : PDa X C (e :: es) g) (hg : Gl X "min" := by rfl) (he : starEach (e :: es) X.env = (false, eval e X.env) :: starEach es X.env := by rfl) (hpl : (backTo pos (starEach es X.env)).any (·.1) = false := by rfl) : PDe X C (.Call (.Name "min" p) (e :: es) [] pos) (M.call minD g) :=
  pd_callB (call_min2 hc) min_ok hg hm (by decide +kernel) ha (by decide) (by decide) he hpl
def intD : List D → Option D
  | [.int i] => some (.int i)
  | [.bool k] => some (.int (if k then 1 else 0))
  | _ => none
theorem int_ok {K : PySem.W.Frag} : CallD K (fun xs H Q => (∃ i, xs = [.int i] ∧ Q (.int i) H) ∨ ∃ k, xs = [.bl k] ∧ Q (.int (if k then 1 else 0)) H) intD := fun C Hf H σ ρ vs xs z Q s d e q => by
  unfold intD at e
  split at e
  · cases e
    obtain ⟨v, rfl, h⟩ := dp1 d
    exact .inl ⟨_, by rw [h.int_of], q.now s (.int _)⟩
  · cases e
    obtain ⟨v, rfl, h⟩ := dp1 d
    exact .inr ⟨_, by rw [h.bool_of], q.now s (.int _)⟩
  · cases e
theorem pd_int1 (hm : X.mg "int" = none) (ha : PDa X C (e :: es) g) (hg : Gl X "int" := by rfl) (he : starEach (e :: es) X.env = (false, eval e X.env) :: starEach es X.env := by rfl) (hpl : (backTo pos (starEach es X.env)).any (·.1) = false := by rfl) : PDe X C (.Call (.Name "int" p) (e :: es) [] pos) (M.call intD g) :=
  pd_callTy call_int1 int_ok hg hm (by decide +kernel) ha (by decide) (by decide) he hpl
def boolsOf : List D → Option (List Bool)
  | [] => some []
  | .bool b :: xs => (boolsOf xs).map (b :: ·)
  | _ => none
theorem bools_v {K : PySem.W.Frag} {H : Hp} : ∀ {vs : List V} {xs : List D} {bs : List Bool}, DpAll K H vs xs → boolsOf xs = some bs → vs = bs.map V.bl
  | _, _, bs, .nil, e => by cases e; rfl
  | _, _, bs, .cons (d := d) (ds := ds) h t, e => by
    cases d <;> first | cases e | skip
    rename_i b
    have e : (boolsOf ds).map (b :: ·) = some bs := e
    cases q : boolsOf ds with
    | none => rw [q] at e; cases e
    | some cs =>
      rw [q] at e
      cases e
      rw [h.bool_of, bools_v t q]
      rfl
def rAllT (K : PySem.W.Frag) : List V → Hp → VK → Prop := fun vs H Q => ∃ (a : Addr) (bs : List Bool), vs = [V.ref a] ∧ SqT K H a (bs.map V.bl) ∧ Q (.bl (bs.all id)) H
theorem cr_allT (hc : X.calm = true) : CallR X (.builtin "all") (rAllT X.K) := by
  intro pins s σ H vs us Q I r h
  obtain ⟨a, bs, rfl, hs, q⟩ := h
  obtain ⟨its, rv, ht, _⟩ := I.tuple hs
  rw [Vals.ref1 r]
  have hb := rv.bls
  have hne : a ≠ s.heap.objs.size := by
    obtain ⟨o, e, _⟩ := ht
    exact Nat.ne_of_lt (Heap.lt_size e)
  refine call_all_walk (wpAny_pyIter_tuple (show s.heap.IsTuple a its.toArray from ht) ?_)
  refine ⟨_, _, _, _, _, _, _, rfl, Walks.tuple (A := X.A.in1) (I.ok.hd hc) _ a hne its.toArray, ⟨⟨_, Heap.get?_push_size _ rfl, rfl, rfl⟩, (show s.heap.IsTuple a its.toArray from ht).push _⟩, truth_bools hb, fun h' tk hk => ?_⟩
  refine ⟨.bl _, H, I.kept fun b o eo => hk b o (fun hmem => ?_) (Heap.get?_push_of_some _ eo), ?_, q⟩
  · rcases List.mem_cons.mp hmem with e1 | hmem
    · exact absurd (e1 ▸ Heap.lt_size eo) (Nat.lt_irrefl _)
    · cases hmem
  · show Value.bool _ = Value.bool _
    rw [← all_range, hb, List.size_toArray, List.length_map]
def allD : List D → Option D
  | [.list xs] => (boolsOf xs).map fun bs => .bool (bs.all id)
  | [.tuple xs] => (boolsOf xs).map fun bs => .bool (bs.all id)
  | _ => none
theorem all_ok : CallD X.K (fun vs H Q => rAll X.K vs H Q ∨ rAllT X.K vs H Q) allD := fun C Hf H σ ρ vs xs z Q s d e q => by
  unfold allD at e
  split at e
  · rename_i xs
    cases h : boolsOf xs with
    | none => rw [h] at e; cases e
    | some bs =>
      rw [h] at e
      cases e
      obtain ⟨v, rfl, hv⟩ := dp1 d
      obtain ⟨p, us, rfl, h1, h2⟩ := hv.list_of
      exact .inl ⟨p, bs, rfl, by rw [← bools_v h2 h]; exact Evl.ex_l s.e1 h1, q.now s (.bl _)⟩
  · rename_i xs
    cases h : boolsOf xs with
    | none => rw [h] at e; cases e
    | some bs =>
      rw [h] at e
      cases e
      obtain ⟨v, rfl, hv⟩ := dp1 d
      obtain ⟨p, us, rfl, h1, h2⟩ := hv.tup_of
      exact .inr ⟨p, bs, rfl, by rw [← bools_v h2 h]; exact Evl.ex_t s.e1 h1, q.now s (.bl _)⟩
  · cases e
theorem pd_all (hc : X.calm = true) (hm : X.mg "all" = none) (ha : PDa X C (e :: es) g) (hg : Gl X "all" := by rfl) (he : starEach (e :: es) X.env = (false, eval e X.env) :: starEach es X.env := by rfl) (hpl : (backTo pos (starEach es X.env)).any (·.1) = false := by rfl) : PDe X C (.Call (.Name "all" p) (e :: es) [] pos) (M.call allD g) :=
  pd_callB ((cr_all hc).or (cr_allT hc)) all_ok hg hm (by decide +kernel) ha (by decide) (by decide) he hpl
def anyD : List D → Option D
  | [.list xs] => (boolsOf xs).map fun bs => .bool (bs.any id)
  | _ => none
theorem any_ok : CallD X.K (rAny X.K) anyD := fun C Hf H σ ρ vs xs z Q s d e q => by
  unfold anyD at e
  split at e
  · rename_i xs
    cases h : boolsOf xs with
    | none => rw [h] at e; cases e
    | some bs =>
      rw [h] at e
      cases e
      obtain ⟨v, rfl, hv⟩ := dp1 d
      obtain ⟨p, us, rfl, h1, h2⟩ := hv.list_of
      exact ⟨p, bs, rfl, by rw [← bools_v h2 h]; exact Evl.ex_l s.e1 h1, q.now s (.bl _)⟩
  · cases e
theorem pd_any (hc : X.calm = true) (hm : X.mg "any" = none) (ha : PDa X C (e :: es) g) (hg : Gl X "any" := by rfl) (he : starEach (e :: es) X.env = (false, eval e X.env) :: starEach es X.env := by rfl) (hpl : (backTo pos (starEach es X.env)).any (·.1) = false := by rfl) : PDe X C (.Call (.Name "any" p) (e :: es) [] pos) (M.call anyD g) :=
  pd_callB (cr_any hc) any_ok hg hm (by decide +kernel) ha (by decide) (by decide) he hpl
def intsOf : List D → Option (List Int)
  | [] => some []
  | .int b :: xs => (intsOf xs).map (b :: ·)
  | _ => none
theorem ints_v {K : PySem.W.Frag} {H : Hp} : ∀ {vs : List V} {xs : List D} {bs : List Int}, DpAll K H vs xs → intsOf xs = some bs → vs = bs.map V.int
  | _, _, bs, .nil, e => by cases e; rfl
  | _, _, bs, .cons (d := d) (ds := ds) h t, e => by
    cases d <;> first | cases e | skip
    rename_i b
    have e : (intsOf ds).map (b :: ·) = some bs := e
    cases q : intsOf ds with
    | none => rw [q] at e; cases e
    | some cs =>
      rw [q] at e
      cases e
      rw [h.int_of, ints_v t q]
      rfl
def sumD : List D → Option D
  | [.list xs] => (intsOf xs).map fun bs => .int bs.sum
  | _ => none
theorem sum_ok : CallD X.K (rSum X.K) sumD := fun C Hf H σ ρ vs xs z Q s d e q => by
  unfold sumD at e
  split at e
  · rename_i xs
    cases h : intsOf xs with
    | none => rw [h] at e; cases e
    | some bs =>
      rw [h] at e
      cases e
      obtain ⟨v, rfl, hv⟩ := dp1 d
      obtain ⟨p, us, rfl, h1, h2⟩ := hv.list_of
      exact ⟨p, bs, rfl, by rw [← ints_v h2 h]; exact Evl.ex_l s.e1 h1, q.now s (.int _)⟩
  · cases e
theorem pd_sum (hc : X.calm = true) (hm : X.mg "sum" = none) (ha : PDa X C (e :: es) g) (hg : Gl X "sum" := by rfl) (he : starEach (e :: es) X.env = (false, eval e X.env) :: starEach es X.env := by rfl) (hpl : (backTo pos (starEach es X.env)).any (·.1) = false := by rfl) : PDe X C (.Call (.Name "sum" p) (e :: es) [] pos) (M.call sumD g) :=
  pd_callB (cr_sum hc) sum_ok hg hm (by decide +kernel) ha (by decide) (by decide) he hpl
def tupleD : List D → Option D
  | [.list xs] => some (.tuple xs)
  | [.tuple xs] => some (.tuple xs)
  | _ => none
theorem tuple_ok : CallD X.K (fun xs H Q => ∃ p ys, xs = [.ref p] ∧ ((SqL X.K H p ys ∧ ∀ l, H l = none → Q (.ref l) (upd H l (.tup ys))) ∨ (SqT X.K H p ys ∧ Q (.ref p) H))) tupleD := fun C Hf H σ ρ vs xs z Q s d e q => by
  unfold tupleD at e
  split at e
  · cases e
    obtain ⟨v, rfl, h⟩ := dp1 d
    obtain ⟨p, us, rfl, h1, h2⟩ := h.list_of
    refine ⟨p, us, rfl, .inl ⟨Evl.ex_l s.e1 h1, fun t ht => ?_⟩⟩
    have gr := Grow.new (o := .tup us) s.e1 ht
    exact q.nowG s gr (.tup (SqT.of upd_same) (DpAll.mono gr.f _ _ h2))
  · cases e
    obtain ⟨v, rfl, h⟩ := dp1 d
    obtain ⟨p, us, rfl, h1, h2⟩ := h.tup_of
    exact ⟨p, us, rfl, .inr ⟨Evl.ex_t s.e1 h1, q.now s (.tup h1 h2)⟩⟩
  · cases e
theorem pd_tuple1 (hm : X.mg "tuple" = none) (ha : PDa X C (e :: es) g) (hg : Gl X "tuple" := by rfl) (he : starEach (e :: es) X.env = (false, eval e X.env) :: starEach es X.env := by rfl) (hpl : (backTo pos (starEach es X.env)).any (·.1) = false := by rfl) : PDe X C (.Call (.Name "tuple" p) (e :: es) [] pos) (M.call tupleD g) :=
  pd_callTy call_tuple_of tuple_ok hg hm (by decide +kernel) ha (by decide) (by decide) he hpl
/-- list(..) of a list or a tuple: a new list -/
def seqOf : List D → Option (List D)
  | [.list xs] => some xs
  | [.tuple xs] => some xs
  | _ => none
def M.listL (g : M (List Arg)) : M (List D) := M.bind g fun as => M.bind (M.lift (datOf as)) fun xs => M.lift (seqOf xs)
theorem pdl_list (hm : X.mg "list" = none) (ha : PDa X C (e :: es) g) (hg : Gl X "list" := by rfl) (he : starEach (e :: es) X.env = (false, eval e X.env) :: starEach es X.env := by rfl) (hpl : (backTo pos (starEach es X.env)).any (·.1) = false := by rfl) : PDl X C (.Call (.Name "list" p) (e :: es) [] pos) (M.listL g) :=
  pe_imp (pe_callTy call_list_of hg hm (by decide +kernel) ha (by decide) (by decide) he hpl) fun σ H Q ⟨Hf, ρ, s, h⟩ =>
    tG_bind s h fun vs as H1 Hf1 ρ1 e1 s1 d1 h1 => by
      cases q : datOf as with
      | none =>
        unfold M.bind M.lift at h1
        rw [q] at h1
        exact (show False from h1).elim
      | some xs =>
        have da := ArgsRel.dats d1 q
        have h1 : PostG X.K C σ (relL X.K C σ) Hf1 (M.lift (seqOf xs) ρ1) Q := by
          unfold M.bind M.lift at h1
          rw [q] at h1
          exact h1
        obtain ⟨z, hz, h2⟩ := h1.lift
        unfold seqOf at hz
        split at hz
        · cases hz
          obtain ⟨v, rfl, h⟩ := dp1 da
          obtain ⟨p, us, rfl, g1, g2⟩ := h.list_of
          refine ⟨p, us, rfl, .inl (Evl.ex_l s1.e1 g1), fun t ht => ?_⟩
          exact PostG.nowG (b := V.ref t) h2 s1 (Grow.mine (o := .lst us) s1.e1 ht) (s1.newL ht g2)
        · cases hz
          obtain ⟨v, rfl, h⟩ := dp1 da
          obtain ⟨p, us, rfl, g1, g2⟩ := h.tup_of
          refine ⟨p, us, rfl, .inr (Evl.ex_t s1.e1 g1), fun t ht => ?_⟩
          exact PostG.nowG (b := V.ref t) h2 s1 (Grow.mine (o := .lst us) s1.e1 ht) (s1.newL ht g2)
        · cases hz

/-! ### isinstance -/
def tyName : D → String
  | .none => "NoneType" | .bool _ => "bool" | .int _ => "int" | .str _ => "str" | .list _ => "list" | .tuple _ => "tuple" | .dict _ => "dict"
theorem ty_of {K : PySem.W.Frag} {H : Hp} {v : V} {x : D} (d : Dp K H v x) : TyX K H v (.type (tyName x)) := by
  cases d with
  | non => exact .base .non
  | bl b => exact .base (.bl b)
  | int i => exact .base (.int i)
  | str x => exact .base (.str x)
  | lst h _ =>
    rcases h with (h | ⟨o, h⟩) | ⟨o, its, n, h1, h2, _⟩
    · exact .base (.lst h)
    · exact .base (.frz h)
    · exact .kList h1 h2
  | tup h _ =>
    rcases h with (h | ⟨o, h⟩) | ⟨o, its, n, h1, h2, _⟩
    · exact .base (.tup h)
    · exact .fTuple h
    · exact .kTuple h1 h2
def isD (T : D → Bool) (x : D) : Option D := some (.bool (T x))
def tInt : D → Bool | .int _ => true | .bool _ => true | _ => false
def tBool : D → Bool | .bool _ => true | _ => false
def tStr : D → Bool | .str _ => true | _ => false
def tTuple : D → Bool | .tuple _ => true | _ => false
def tList : D → Bool | .list _ => true | _ => false
def tSeq : D → Bool | .list _ => true | .tuple _ => true | _ => false
theorem seq_n {x : D} (hl : tList x = false) (ht : tTuple x = false) : tSeq x = false := by cases x <;> simp_all [tList, tTuple, tSeq]
theorem seq_t {x : D} (ht : tTuple x = true) : tSeq x = true := by cases x <;> simp_all [tTuple, tSeq]
theorem seq_l {x : D} (ht : tList x = true) : tSeq x = true := by cases x <;> simp_all [tList, tSeq]
theorem k_int (x : D) (h : ∀ kvs, x ≠ .dict kvs) : kitB (tyName x) "int" = some (tInt x) := by cases x <;> first | (exact absurd rfl (h _)) | (simp only [tyName, tInt]; decide +kernel)
theorem k_bool (x : D) (h : ∀ kvs, x ≠ .dict kvs) : kitB (tyName x) "bool" = some (tBool x) := by cases x <;> first | (exact absurd rfl (h _)) | (simp only [tyName, tBool]; decide +kernel)
theorem k_str (x : D) (h : ∀ kvs, x ≠ .dict kvs) : kitB (tyName x) "str" = some (tStr x) := by cases x <;> first | (exact absurd rfl (h _)) | (simp only [tyName, tStr]; decide +kernel)
theorem k_tuple (x : D) (h : ∀ kvs, x ≠ .dict kvs) : kitB (tyName x) "tuple" = some (tTuple x) := by cases x <;> first | (exact absurd rfl (h _)) | (simp only [tyName, tTuple]; decide +kernel)
theorem k_list (x : D) (h : ∀ kvs, x ≠ .dict kvs) : kitB (tyName x) "list" = some (tList x) := by cases x <;> first | (exact absurd rfl (h _)) | (simp only [tyName, tList]; decide +kernel)
theorem dp_nodict {K : PySem.W.Frag} {H : Hp} {v : V} {x : D} (d : Dp K H v x) : ∀ kvs, x ≠ .dict kvs := fun kvs e => by subst e; cases d
theorem pd_isi {T : String} {xT : Str} {pT : Pos} {t : D → Bool} (hk : ∀ x : D, (∀ kvs, x ≠ .dict kvs) → kitB (tyName x) T = some (t x)) (hm : X.mg "isinstance" = none) (hmT : X.mg xT = none) (hvT : bootBuiltins xT = some (.type T)) (ha : PDe X C a f) (hg : Gl X "isinstance" := by rfl) (hgT : Gl X xT := by rfl)
    (hnT : xT ≠ "__name__" := by decide) (hdT : (xT == ("__debug__" : Str)) = false := by decide) (hs1 : starEach (a :: [.Name xT pT]) X.env = (false, eval a X.env) :: starEach [.Name xT pT] X.env := by rfl)
    (hs2 : starEach [.Name xT pT] X.env = (false, eval (.Name xT pT) X.env) :: starEach [] X.env := by rfl) (hpl : (backTo pos (starEach [.Name xT pT] X.env)).any (·.1) = false := by rfl) : PDe X C (.Call (.Name "isinstance" p) [a, .Name xT pT] [] pos) (M.op1 (isD t) f) :=
  pe_imp (pe_callB call_isi hg hm (by decide +kernel) (pa_cons ha (pa_cons (pe_bltn hgT hmT hvT (show RelV (.ty T) _ from rfl) hnT hdT) pa_nil hs2) hs1) (by decide) (by decide) hs1 hpl) fun σ H Q ⟨Hf, ρ, s, h⟩ =>
    tG_bind s h fun v x H1 Hf1 ρ1 e1 s1 d1 h1 => by
      obtain ⟨z, hz, h2⟩ := h1.lift
      cases hz
      have d1 : Dp X.K Hf1 v x := d1
      exact ⟨v, .ty T, _, _, t x, rfl, .ty T, ty_of (Dp.mono s1.e1 _ _ d1), kit_ty (hk x (dp_nodict d1)), PostG.now (b := V.bl _) h2 s1 (.bl _)⟩
theorem pd_isiLT {pT p1 p2 : Pos} {k : Nat} (hm : X.mg "isinstance" = none) (hml : X.mg "list" = none) (hmt : X.mg "tuple" = none) (ha : PDe X C a f) (hg : Gl X "isinstance" := by rfl) (hgl : Gl X "list" := by rfl) (hgt : Gl X "tuple" := by rfl)
    (hs1 : starEach (a :: [.Tuple [.Name "list" p1, .Name "tuple" p2] k pT]) X.env = (false, eval a X.env) :: starEach [.Tuple [.Name "list" p1, .Name "tuple" p2] k pT] X.env := by rfl)
    (hs2 : starEach [.Tuple [.Name "list" p1, .Name "tuple" p2] k pT] X.env = (false, eval (.Tuple [.Name "list" p1, .Name "tuple" p2] k pT) X.env) :: starEach [] X.env := by rfl)
    (hs3 : starEach [.Name "list" p1, .Name "tuple" p2] X.env = (false, eval (.Name "list" p1) X.env) :: starEach [.Name "tuple" p2] X.env := by rfl) (hs4 : starEach [.Name "tuple" p2] X.env = (false, eval (.Name "tuple" p2) X.env) :: starEach [] X.env := by rfl)
    (hpl : (backTo pos (starEach [.Tuple [.Name "list" p1, .Name "tuple" p2] k pT] X.env)).any (·.1) = false := by rfl) : PDe X C (.Call (.Name "isinstance" p) [a, .Tuple [.Name "list" p1, .Name "tuple" p2] k pT] [] pos) (M.op1 (isD tSeq) f) :=
  pe_imp (pe_callB call_isiT hg hm (by decide +kernel) (pa_cons ha (pa_cons (pe_tup (pa_cons (pe_bltn hgl hml (by decide +kernel) (show RelV (.ty "list") _ from rfl)) (pa_cons (pe_bltn hgt hmt (by decide +kernel) (show RelV (.ty "tuple") _ from rfl)) pa_nil hs4) hs3)) pa_nil hs2) hs1) (by decide) (by decide) hs1 hpl) fun σ H Q ⟨Hf, ρ, s, h⟩ =>
    tG_bind s h fun v x H1 Hf1 ρ1 e1 s1 d1 h1 => by
      obtain ⟨z, hz, h2⟩ := h1.lift
      cases hz
      have d1 : Dp X.K Hf1 v x := d1
      refine ⟨by show 2 ≤ sizeLine; decide, fun t ht => ?_⟩
      have nd := dp_nodict d1
      have gr := Grow.mine (o := .tup [.ty "list", .ty "tuple"]) s1.e1 ht
      refine ⟨v, t, [.ty "list", .ty "tuple"], _, [.type "list", .type "tuple"], tSeq x, rfl, upd_same, .cons (.ty _) (.cons (.ty _) .nil), ty_of (Dp.mono (s1.e1.trans gr.h) _ _ d1), ?_, ?_⟩
      · refine kitAny_cons (kit_ty (k_list x nd)) (fun hl => kitAny_cons (kit_ty (k_tuple x nd)) (fun ht => ?_) fun ht => ?_) fun hl => ?_
        · rw [kitAny_nil]
          rw [seq_n hl ht]
        · exact seq_t ht
        · exact seq_l hl
      · exact PostG.nowG (b := V.bl _) h2 s1 gr (.bl _)
end
end PD

set_option maxRecDepth 100000
set_option maxHeartbeats 4000000
set_option autoImplicit false
namespace PD
open PySem PySem.Spec L2
open Evl (Ex)

/-! ### statements -/
inductive Fl where
  | nx (ρ : DE)
  | rt (x : D) (ρ : DE)
  | rl (xs : List D) (ρ : DE)
  | bk (ρ : DE)
  | ct (ρ : DE)
  | ex (e : EV) (ρ : DE)
  | bad
abbrev MS : Type := DE → Fl
section
variable (K : PySem.W.Frag) (C : Fc)
def PostS (Hf : Hp) (fl : Fl) (E : Ends) : Prop :=
  match fl with
  | .nx ρ' => ∀ (σ' : L2.St) (H' Hf' : Hp), Ex Hf Hf' → SR K C Hf' H' σ' ρ' → E.nx σ' H'
  | .bk ρ' => ∀ (σ' : L2.St) (H' Hf' : Hp), Ex Hf Hf' → SR K C Hf' H' σ' ρ' → E.bk σ' H'
  | .ct ρ' => ∀ (σ' : L2.St) (H' Hf' : Hp), Ex Hf Hf' → SR K C Hf' H' σ' ρ' → E.ct σ' H'
  | .rt x ρ' => ∀ (v : V) (σ' : L2.St) (H' Hf' : Hp), Ex Hf Hf' → SR K C Hf' H' σ' ρ' → Dp K Hf' v x → E.rt v H'
  | .rl xs ρ' => ∀ (a : Addr) (us : List V) (σ' : L2.St) (H' Hf' : Hp), Ex Hf Hf' → SR K C Hf' H' σ' ρ' → Hf' a = none → H' a = some (.lst us) → DpAll K Hf' us xs → C.H0 a = none → E.rt (.ref a) H'
  | .ex e ρ' => ∀ (σ' : L2.St) (H' Hf' : Hp), Ex Hf Hf' → SR K C Hf' H' σ' ρ' → C.E e H'
  | .bad => False
def tS (g : MS) : TS := fun E σ H => ∃ Hf ρ, SR K C Hf H σ ρ ∧ PostS K C Hf (g ρ) E
end
def PDs (X : Cx) (C : Fc) (st : Stmt) (g : MS) : Prop := PS X st (tS X.K C g)
def PDss (X : Cx) (C : Fc) (st : List Stmt) (g : MS) : Prop := PSs X st (tS X.K C g)
def S.ofM {α : Type} (m : M α) (k : α → MS) : MS := fun ρ => match m ρ with
  | .ok a ρ1 => k a ρ1
  | .ex e ρ1 => .ex e ρ1
  | .bad => .bad
section
variable {K : PySem.W.Frag} {C : Fc} {α β : Type} {σ : L2.St} {Hf Hf' H : Hp} {E E' : Ends}
theorem PostS.mono {fl : Fl} (e : Ex Hf Hf') (h : PostS K C Hf fl E) : PostS K C Hf' fl E := by
  cases fl with
  | nx ρ' => exact fun σ' H' Hf'' e' s => h σ' H' Hf'' (e.trans e') s
  | bk ρ' => exact fun σ' H' Hf'' e' s => h σ' H' Hf'' (e.trans e') s
  | ct ρ' => exact fun σ' H' Hf'' e' s => h σ' H' Hf'' (e.trans e') s
  | rt x ρ' => exact fun v σ' H' Hf'' e' s => h v σ' H' Hf'' (e.trans e') s
  | rl x ρ' => exact fun a us σ' H' Hf'' e' s => h a us σ' H' Hf'' (e.trans e') s
  | ex x ρ' => exact fun σ' H' Hf'' e' s => h σ' H' Hf'' (e.trans e') s
  | bad => exact h
theorem tS_bind {rel : L2.St → Hp → Hp → DE → β → α → Prop} {f : M α} {k : α → MS} {ρ : DE} {Q1 : β → Hp → Prop} (s : SR K C Hf H σ ρ) (h : PostS K C Hf (S.ofM f k ρ) E)
    (w : ∀ (b : β) (x : α) (H1 Hf1 : Hp) (ρ1 : DE), Ex Hf Hf1 → SR K C Hf1 H1 σ ρ1 → rel σ Hf1 H1 ρ1 b x → PostS K C Hf1 (k x ρ1) E → Q1 b H1) : tG K C rel f σ H Q1 := by
  refine ⟨Hf, ρ, s, ?_⟩
  unfold S.ofM at h
  cases hf : f ρ with
  | ok x ρ1 =>
    rw [hf] at h
    exact fun b H1 Hf1 e s1 r => w b x H1 Hf1 ρ1 e s1 r (PostS.mono e h)
  | ex x ρ1 =>
    rw [hf] at h
    exact fun H' Hf'' e' s' => h σ H' Hf'' e' s'
  | bad =>
    rw [hf] at h
    exact h.elim
theorem PostS.nx {ρ : DE} (h : PostS K C Hf (.nx ρ) E) {σ' : L2.St} (s : SR K C Hf H σ' ρ) : E.nx σ' H := h σ' H Hf (Ex.refl _) s
end
section
variable {X : Cx} {C : Fc} {pos : Pos} {st : Stmt} {rest : List Stmt} {g h : MS}
def S.nil : MS := fun ρ => .nx ρ
def S.seq (g h : MS) : MS := fun ρ => match g ρ with
  | .nx ρ1 => h ρ1
  | o => o
theorem pds_nil : PDss X C [] S.nil := pss_imp pss_nil fun E σ H ⟨Hf, ρ, s, q⟩ => PostS.nx q s
theorem pds_cons (h1 : PDs X C st g) (h2 : PDss X C rest h) : PDss X C (st :: rest) (S.seq g h) := pss_imp (pss_cons h1 h2) fun E σ H ⟨Hf, ρ, s, q⟩ => by
  refine ⟨Hf, ρ, s, ?_⟩
  unfold S.seq at q
  cases hg : g ρ with
  | nx ρ1 =>
    rw [hg] at q
    exact fun σ' H' Hf' e' s' => ⟨Hf', ρ1, s', PostS.mono e' q⟩
  | rt x ρ1 => rw [hg] at q; exact q
  | rl x ρ1 => rw [hg] at q; exact q
  | bk ρ1 => rw [hg] at q; exact q
  | ct ρ1 => rw [hg] at q; exact q
  | ex e ρ1 => rw [hg] at q; exact q
  | bad => rw [hg] at q; exact q
theorem pds_one (h1 : PDs X C st g) : PDss X C [st] g := pss_one h1
def S.pass : MS := fun ρ => .nx ρ
def S.brk : MS := fun ρ => .bk ρ
def S.cnt : MS := fun ρ => .ct ρ
def S.never : MS := fun _ => .bad
theorem pd_pass : PDs X C (.Pass pos) S.pass := ps_imp ps_pass fun E σ H ⟨Hf, ρ, s, q⟩ => PostS.nx q s
theorem pd_break : PDs X C (.Break pos) S.brk := ps_imp ps_break fun E σ H ⟨Hf, ρ, s, q⟩ => q σ H Hf (Ex.refl _) s
theorem pd_continue : PDs X C (.Continue pos) S.cnt := ps_imp ps_continue fun E σ H ⟨Hf, ρ, s, q⟩ => q σ H Hf (Ex.refl _) s
theorem pd_doc {x : Str} {j pos' pos} : PDs X C (.Expr (.Constant (.str x) j pos') pos) S.pass := ps_imp ps_doc fun E σ H ⟨Hf, ρ, s, q⟩ => PostS.nx q s
theorem pd_never : PDs X C st S.never := ps_imp ps_never fun E σ H ⟨Hf, ρ, s, q⟩ => q
variable {e : Expr} {f : M D} {fl : M (List D)}
def S.ret (f : M D) : MS := S.ofM f fun x ρ => .rt x ρ
theorem pd_ret (ha : PDe X C e f) : PDs X C (.Return (some e) pos) (S.ret f) := ps_imp (ps_ret ha) fun E σ H ⟨Hf, ρ, s, q⟩ => tS_bind s q fun v x H1 Hf1 ρ1 e1 s1 d1 h1 => h1 v σ H1 Hf1 (Ex.refl _) s1 d1
/-- a new list of ours is handed back -/
def S.retL (f : M (List D)) : MS := S.ofM f fun x ρ => .rl x ρ
theorem pd_retL (ha : PDl X C e fl) : PDs X C (.Return (some e) pos) (S.retL fl) := ps_imp (ps_ret ha) fun E σ H ⟨Hf, ρ, s, q⟩ => tS_bind s q fun v x H1 Hf1 ρ1 e1 s1 d1 h1 => by
  obtain ⟨a, vs, rfl, g1, g2, g3, g4, g5, g6⟩ := d1
  exact h1 a vs σ H1 Hf1 (Ex.refl _) s1 g1 g2 g3 g4
def S.retN : MS := fun ρ => .rt .none ρ
theorem pd_retN : PDs X C (.Return none pos) S.retN := ps_imp ps_retN fun E σ H ⟨Hf, ρ, s, q⟩ => q .non σ H Hf (Ex.refl _) s .non
def S.drop (f : M D) : MS := S.ofM f fun _ ρ => .nx ρ
theorem pd_expr (ha : PDe X C e f) (hs : swapsWith e none pos.line X.env = pure false := by rfl) : PDs X C (.Expr e pos) (S.drop f) := ps_imp (ps_expr ha hs) fun E σ H ⟨Hf, ρ, s, q⟩ => tS_bind s q fun v x H1 Hf1 ρ1 e1 s1 d1 h1 => h1.nx s1
def S.ite (p : M Bool) (g h : MS) : MS := S.ofM p fun b => if b = true then g else h
theorem pd_ifS {c : Expr} {a b : List Stmt} {p : M Bool} (hc : PDt X C c p) (ha : PDss X C a g) (hb : PDss X C b h) : PDs X C (.If c a b pos) (S.ite p g h) := ps_imp (ps_if hc ha hb) fun E σ H ⟨Hf, ρ, s, q⟩ =>
  tS_bind s q fun v x H1 Hf1 ρ1 e1 s1 d1 h1 => by
    have d1 : v = x := d1
    subst d1
    cases v with
    | true => exact L2.iteT ⟨Hf1, ρ1, s1, h1⟩
    | false => exact L2.iteF ⟨Hf1, ρ1, s1, h1⟩
/-! names stored -/
def S.asg (i : Nat) (f : M D) : MS := S.ofM f fun x ρ => .nx (ρ.set i (some (.d x)))
theorem pd_set {i : Nat} {x : Str} {pos' : Pos} (hp : ∀ q, C.io = some q → q.1 ≠ i) (hN : X.N.Nodup) (ha : PDe X C e f) (hi : X.N[i]? = some x := by rfl) (hx : Loc X.env.scope x := by first | exact Or.inl rfl | exact Or.inr rfl) (hs : swapsWith e (some (.Name x pos')) pos.line X.env = pure false := by rfl)
    (hf : X.fn x = true ∨ X.env.scope.names.lookup x = some .local := by first | exact .inl rfl | exact .inr rfl) : PDs X C (.Assign [.Name x pos'] e pos) (S.asg i f) :=
  ps_imp (ps_set hN hi hx ha hs hf) fun E σ H ⟨Hf, ρ, s, q⟩ => tS_bind s q fun v y H1 Hf1 ρ1 e1 s1 d1 h1 => PostS.nx h1 (s1.setD d1 hp)
def S.own (i : Nat) (f : M (List D)) : MS := S.ofM f fun x ρ => .nx (ρ.set i (some (.own x)))
theorem own_go {i : Nat} (hp : ∀ q, C.io = some q → q.1 ≠ i) {E : Ends} {σ : L2.St} {H : Hp} (q : tS X.K C (S.own i fl) E σ H) : tAsg (tG X.K C (relL X.K C) fl) (gName i) E σ H := by
  obtain ⟨Hf, ρ, s, q⟩ := q
  refine tS_bind s q fun v y H1 Hf1 ρ1 e1 s1 d1 h1 => ?_
  obtain ⟨a, vs, rfl, g1, g2, g3, g4, g5, g6⟩ := d1
  exact PostS.nx h1 (s1.setO g1 g2 g3 g4 g5 g6 hp)
theorem pd_own {i : Nat} {x : Str} {pos' : Pos} (hp : ∀ q, C.io = some q → q.1 ≠ i) (hN : X.N.Nodup) (ha : PDl X C e fl) (hi : X.N[i]? = some x := by rfl) (hx : Loc X.env.scope x := by first | exact Or.inl rfl | exact Or.inr rfl) (hs : swapsWith e (some (.Name x pos')) pos.line X.env = pure false := by rfl)
    (hf : X.fn x = true ∨ X.env.scope.names.lookup x = some .local := by first | exact .inl rfl | exact .inr rfl) : PDs X C (.Assign [.Name x pos'] e pos) (S.own i fl) :=
  ps_imp (ps_set hN hi hx ha hs hf) fun E σ H q => own_go hp q
def vals2D : List D → Option (D × D)
  | [x, y] => some (x, y)
  | _ => none
def vals3D : List D → Option (D × D × D)
  | [x, y, z] => some (x, y, z)
  | _ => none
def S.par2 (i j : Nat) (g : M (List Arg)) : MS := S.ofM g fun as => S.ofM (M.lift ((datOf as).bind vals2D)) fun p ρ => .nx ((ρ.set i (some (.d p.1))).set j (some (.d p.2)))
def S.par3 (i j l : Nat) (g : M (List Arg)) : MS := S.ofM g fun as => S.ofM (M.lift ((datOf as).bind vals3D)) fun p ρ => .nx (((ρ.set i (some (.d p.1))).set j (some (.d p.2.1))).set l (some (.d p.2.2)))
theorem lift_s {α : Type} {K : PySem.W.Frag} {Hf : Hp} {o : Option α} {k : α → MS} {ρ : DE} {E : Ends} (h : PostS K C Hf (S.ofM (M.lift o) k ρ) E) : ∃ x, o = some x ∧ PostS K C Hf (k x ρ) E := by
  unfold S.ofM M.lift at h
  cases o with
  | none => exact (show False from h).elim
  | some x => exact ⟨x, rfl, h⟩
variable {ga : M (List Arg)}
theorem pd_par2 {i j : Nat} {x y : Str} {a b : Expr} {px py pt : Pos} {kt k2 pt2} (hpi : ∀ q, C.io = some q → q.1 ≠ i) (hpj : ∀ q, C.io = some q → q.1 ≠ j) (hc : X.calm = true) (hN : X.N.Nodup) (ha : PDa X C [a, b] ga) (hi : X.N[i]? = some x := by rfl) (hj : X.N[j]? = some y := by rfl) (hij : i ≠ j := by decide)
    (hx : X.env.scope.names.lookup x = some .local := by rfl) (hy : X.env.scope.names.lookup y = some .local := by rfl)
    (hw : swappedStores [.Tuple [.Name x px, .Name y py] kt pt] (.Tuple [a, b] k2 pt2) X.env = pure (some [x, y]) := by rfl)
    (hs : swapsWithSole [.Tuple [.Name x px, .Name y py] kt pt] (.Tuple [a, b] k2 pt2) pos.line X.env = pure false := by rfl) :
    PDs X C (.Assign [.Tuple [.Name x px, .Name y py] kt pt] (.Tuple [a, b] k2 pt2) pos) (S.par2 i j ga) :=
  ps_imp (ps_par hc hN hi hj hij hx hy ha hw hs) fun E σ H ⟨Hf, ρ, s, q⟩ => tS_bind s q fun vs as H1 Hf1 ρ1 e1 s1 d1 h1 => by
    obtain ⟨p, hp, h2⟩ := lift_s h1
    cases hd : datOf as with
    | none => rw [hd] at hp; cases hp
    | some xs =>
      rw [hd] at hp
      have hp : vals2D xs = some p := hp
      unfold vals2D at hp
      split at hp
      · cases hp
        obtain ⟨v, w, rfl, g1, g2⟩ := dp2 (ArgsRel.dats d1 hd)
        exact ⟨v, w, rfl, PostS.nx h2 ((s1.setD g1 hpi).setD g2 hpj)⟩
      · cases hp
theorem dp3 {K : PySem.W.Frag} {H : Hp} {vs : List V} {x y z : D} (h : DpAll K H vs [x, y, z]) : ∃ v w u, vs = [v, w, u] ∧ Dp K H v x ∧ Dp K H w y ∧ Dp K H u z := by
  cases h with
  | cons h t =>
    obtain ⟨w, u, rfl, h2, h3⟩ := dp2 t
    exact ⟨_, _, _, rfl, h, h2, h3⟩
theorem pd_par3 {i j l : Nat} {x y z : Str} {a b c : Expr} {px py pz pt : Pos} {kt k2 pt2} (hpi : ∀ q, C.io = some q → q.1 ≠ i) (hpj : ∀ q, C.io = some q → q.1 ≠ j) (hpl : ∀ q, C.io = some q → q.1 ≠ l) (hc : X.calm = true) (hN : X.N.Nodup) (ha : PDa X C [a, b, c] ga)
    (hi : X.N[i]? = some x := by rfl) (hj : X.N[j]? = some y := by rfl) (hl : X.N[l]? = some z := by rfl) (hij : i ≠ j := by decide) (hil : i ≠ l := by decide) (hjl : j ≠ l := by decide)
    (hx : X.env.scope.names.lookup x = some .local := by rfl) (hy : X.env.scope.names.lookup y = some .local := by rfl) (hz : X.env.scope.names.lookup z = some .local := by rfl)
    (hw : swappedStores [.Tuple [.Name x px, .Name y py, .Name z pz] kt pt] (.Tuple [a, b, c] k2 pt2) X.env = pure (some [x, y, z]) := by rfl)
    (hs : swapsWithSole [.Tuple [.Name x px, .Name y py, .Name z pz] kt pt] (.Tuple [a, b, c] k2 pt2) pos.line X.env = pure false := by rfl) :
    PDs X C (.Assign [.Tuple [.Name x px, .Name y py, .Name z pz] kt pt] (.Tuple [a, b, c] k2 pt2) pos) (S.par3 i j l ga) :=
  ps_imp (ps_par3 hc hN hi hj hl hij hil hjl hx hy hz ha hw hs) fun E σ H ⟨Hf, ρ, s, q⟩ => tS_bind s q fun vs as H1 Hf1 ρ1 e1 s1 d1 h1 => by
    obtain ⟨p, hp, h2⟩ := lift_s h1
    cases hd : datOf as with
    | none => rw [hd] at hp; cases hp
    | some xs =>
      rw [hd] at hp
      have hp : vals3D xs = some p := hp
      unfold vals3D at hp
      split at hp
      · cases hp
        obtain ⟨v, w, u, rfl, g1, g2, g3⟩ := dp3 (ArgsRel.dats d1 hd)
        exact ⟨v, w, u, rfl, PostS.nx h2 (((s1.setD g1 hpi).setD g2 hpj).setD g3 hpl)⟩
      · cases hp

/-! ### targets -/
end
abbrev Gt : Type := D → DE → Option DE
abbrev Gts : Type := List D → DE → Option DE
def G.nm (i : Nat) : Gt := fun x ρ => some (ρ.set i (some (.d x)))
def G.nil : Gts := fun xs ρ => match xs with
  | [] => some ρ
  | _ => none
def G.cons (g : Gt) (gs : Gts) : Gts := fun xs ρ => match xs with
  | x :: r => (g x ρ).bind (gs r)
  | _ => none
def G.tup (n : Nat) (gs : Gts) : Gt := fun x ρ => match x with
  | .tuple xs => if xs.length = n then gs xs ρ else none
  | _ => none
section
variable (K : PySem.W.Frag) (C : Fc)
def gD (G : Gt) (sl : List Nat) : TG := fun v σ H Q => ∃ Hf ρ x ρ', SR K C Hf H σ ρ ∧ Dp K Hf v x ∧ G x ρ = some ρ' ∧ ∀ σ', SR K C Hf H σ' ρ' → σ'.length = σ.length → (∀ i : Nat, i ∉ sl → σ'[i]? = σ[i]?) → Q σ' H
def gsD (G : Gts) (sl : List Nat) : TGs := fun vs σ H Q => ∃ Hf ρ xs ρ', SR K C Hf H σ ρ ∧ DpAll K Hf vs xs ∧ G xs ρ = some ρ' ∧ ∀ σ', SR K C Hf H σ' ρ' → σ'.length = σ.length → (∀ i : Nat, i ∉ sl → σ'[i]? = σ[i]?) → Q σ' H
end
def PDg (X : Cx) (C : Fc) (tg : Expr) (G : Gt) (sl : List Nat) : Prop := PG X tg (gD X.K C G sl)
def PDgs (X : Cx) (C : Fc) (tg : List Expr) (G : Gts) (sl : List Nat) : Prop := PGs X tg (gsD X.K C G sl)
section
variable {X : Cx} {C : Fc} {pos : Pos}
theorem pg_imp {e : Expr} {t t' : TG} (h : PG X e t) (w : ∀ v σ H Q, t' v σ H Q → t v σ H Q) : PG X e t' := ⟨fun pins s σ H v u Q I r q => h.run pins s σ H v u Q I r (w v σ H Q q)⟩
theorem pgs_imp {e : List Expr} {t t' : TGs} (h : PGs X e t) (w : ∀ v σ H Q, t' v σ H Q → t v σ H Q) : PGs X e t' := ⟨fun pins s σ H v u Q I r q => h.run pins s σ H v u Q I r (w v σ H Q q)⟩
theorem pdg_nm {i : Nat} {x : Str} (hp : ∀ q, C.io = some q → q.1 ≠ i) (hN : X.N.Nodup) (hi : X.N[i]? = some x := by rfl) (hx : Loc X.env.scope x := by first | exact Or.inl rfl | exact Or.inr rfl) (hf : X.fn x = true ∨ X.env.scope.names.lookup x = some .local := by first | exact .inl rfl | exact .inr rfl) :
    PDg X C (.Name x pos) (G.nm i) [i] := pg_imp (pg_name hN hi hx hf) fun v σ H Q ⟨Hf, ρ, x, ρ', s, d, e, k⟩ => by
  cases e
  exact k _ (s.setD d hp) (List.length_set ..) fun j hj => List.getElem?_set_ne (fun h => hj (by simp [h]))
theorem pdgs_nil : PDgs X C [] G.nil [] := pgs_imp pgs_nil fun v σ H Q ⟨Hf, ρ, xs, ρ', s, d, e, k⟩ => by
  unfold G.nil at e
  cases xs with
  | nil =>
    cases e
    cases d
    exact ⟨rfl, k σ s rfl fun _ _ => rfl⟩
  | cons _ _ => cases e
theorem pdgs_cons {e : Expr} {es : List Expr} {g : Gt} {gs : Gts} {s1 s2 : List Nat} (h1 : PDg X C e g s1) (h2 : PDgs X C es gs s2) (hs : (assignEach (e :: es) X.env).map (·.2) = assign e X.env :: (assignEach es X.env).map (·.2) := by rfl) : PDgs X C (e :: es) (G.cons g gs) (s1 ++ s2) :=
  pgs_imp (pgs_cons h1 h2 hs) fun v σ H Q ⟨Hf, ρ, xs, ρ', s, d, ee, k⟩ => by
    unfold G.cons at ee
    cases xs with
    | nil => cases ee
    | cons x r =>
      cases d with
      | cons d1 d2 =>
        have ee : (g x ρ).bind (gs r) = some ρ' := ee
        cases hg : g x ρ with
        | none => rw [hg] at ee; cases ee
        | some ρ1 =>
          rw [hg] at ee
          refine ⟨_, _, rfl, Hf, ρ, x, ρ1, s, d1, hg, fun σ1 q1 l1 o1 => ⟨Hf, ρ1, r, ρ', q1, d2, ee, fun σ2 q2 l2 o2 => k σ2 q2 (l2.trans l1) fun i hi => ?_⟩⟩
          rw [List.mem_append, not_or] at hi
          rw [o2 i hi.2, o1 i hi.1]
theorem pdg_tup {es : List Expr} {k : Nat} {gs : Gts} {n : Nat} {sl : List Nat} (hc : X.calm = true) (h : PDgs X C es gs sl) (hn : (assignEach es X.env).length = n := by rfl) (hst : (assignEach es X.env).findIdx? (·.1) = none := by rfl) : PDg X C (.Tuple es k pos) (G.tup n gs) sl :=
  pg_imp (pg_tup hc h hn hst) fun v σ H Q ⟨Hf, ρ, x, ρ', s, d, ee, kk⟩ => by
    unfold G.tup at ee
    cases x <;> first | cases ee | skip
    rename_i xs
    simp only at ee
    split at ee
    · rename_i hl
      obtain ⟨a, vs, rfl, g1, g2⟩ := d.tup_of
      exact ⟨a, vs, rfl, Evl.ex_t s.e1 g1, by rw [g2.length]; exact hl, Hf, ρ, xs, ρ', s, g2, ee, kk⟩
    · cases ee
/-- target = value -/
def S.asgT (G : Gt) (f : M D) : MS := S.ofM f fun x ρ => match G x ρ with
  | some ρ' => .nx ρ'
  | none => .bad
theorem pd_asgT {tg e : Expr} {f : M D} {G : Gt} {sl : List Nat} (ha : PDe X C e f) (hg : PDg X C tg G sl) (hs : swapsWithSole [tg] e pos.line X.env = pure false := by rfl) (hw : swappedStores [tg] e X.env = pure none := by rfl)
    (h1 : (assignEach [tg] X.env).map (·.2) = [assign tg X.env] := by rfl) : PDs X C (.Assign [tg] e pos) (S.asgT G f) := ps_imp (ps_asg ha hg hs hw h1) fun E σ H ⟨Hf, ρ, s, q⟩ =>
  tS_bind s q fun v x H1 Hf1 ρ1 e1 s1 d1 h1 => by
    cases hg : G x ρ1 with
    | none => rw [hg] at h1; exact (show False from h1).elim
    | some ρ2 =>
      rw [hg] at h1
      exact ⟨Hf1, ρ1, x, ρ2, s1, d1, hg, fun σ2 s2 _ _ => PostS.nx h1 s2⟩
end

/-! ### lists of our own: read, changed, known from now on -/
def frz1 : Option LV → Option LV
  | some (.own xs) => some (.d (.list xs))
  | some (.dct _) => none
  | o => o
def frz (ρ : DE) : DE := ρ.map frz1
def frzAt (i : Nat) (ρ : DE) : DE := match ρ[i]? with
  | some (some (.own xs)) => ρ.set i (some (.d (.list xs)))
  | _ => ρ
section
variable {K : PySem.W.Frag} {C : Fc} {Hf H : Hp} {σ : L2.St} {ρ : DE}
theorem SR.frz (s : SR K C Hf H σ ρ) (E : EV → Hp → Prop) : SR K ⟨H, H, none, [], E, C.w⟩ H H σ (frz ρ) where
  len := by rw [s.len]; unfold PD.frz; rw [List.length_map]
  e0 := Ex.refl _
  e1 := Ex.refl _
  fresh := fun b o h => .inl h
  keep := fun b o h _ => h
  pin := fun q h => by cases h
  no := fun p hp => by cases hp
  val := fun i x h => by
    unfold PD.frz at h
    rw [List.getElem?_map] at h
    cases hi : ρ[i]? with
    | none => rw [hi] at h; cases h
    | some o =>
      rw [hi] at h
      cases o with
      | none => cases h
      | some l =>
        cases l with
        | d y =>
          cases h
          obtain ⟨v, h1, h2⟩ := s.val i _ hi
          exact ⟨v, h1, Dp.mono s.e1 _ _ h2⟩
        | own xs =>
          cases h
          obtain ⟨a, vs, h1, h2, h3, h4, _⟩ := s.own i _ hi
          exact ⟨.ref a, h1, .lst (SqL.of h3) (DpAll.mono s.e1 _ _ h4)⟩
        | dct kvs => cases h
  ownd := fun i xs h o => by
    unfold PD.frz at h
    rw [List.getElem?_map] at h
    cases hi : ρ[i]? with
    | none => rw [hi] at h; cases h
    | some o' =>
      rw [hi] at h
      cases o' with
      | none => cases h
      | some l => cases l <;> cases h <;> cases o
  apart := fun i j a _ ⟨xs, h, o⟩ _ _ _ => by
    unfold PD.frz at h
    rw [List.getElem?_map] at h
    cases hi : ρ[i]? with
    | none => rw [hi] at h; cases h
    | some o' =>
      rw [hi] at h
      cases o' with
      | none => cases h
      | some l => cases l <;> cases h <;> cases o
/-- back from what was only looked at -/
theorem SR.back (s : SR K C Hf H σ ρ) {H' : Hp} (e : Ex H H') : SR K C Hf H' σ ρ := s.grow ⟨Ex.refl _, e, s.e1.trans e, fun _ _ h => .inl h⟩
def scalarD : D → Bool
  | .none => true | .bool _ => true | .int _ => true | .str _ => true | _ => false
theorem scalar_any {H H' : Hp} {v : V} {x : D} (h : scalarD x = true) (d : Dp K H v x) : Dp K H' v x := by
  cases d with
  | non => exact .non
  | bl b => exact .bl b
  | int b => exact .int b
  | str b => exact .str b
  | lst _ _ => cases h
  | tup _ _ => cases h
theorem frzAt_ok (i : Nat) (hp : ∀ q, C.io = some q → q.1 ≠ i) (s : SR K C Hf H σ ρ) : ∃ Hf', Ex Hf Hf' ∧ SR K C Hf' H σ (frzAt i ρ) := by
  unfold frzAt
  split
  · rename_i xs hx
    obtain ⟨a, vs, _, _, ee, s'⟩ := s.freeze hx hp
    exact ⟨_, ee, s'⟩
  · exact ⟨Hf, Ex.refl _, s⟩
theorem tG_frz {α β : Type} {rel : L2.St → Hp → Hp → DE → β → α → Prop} {f : M α} {Q : β → Hp → Prop} (i : Nat) (hp : ∀ q, C.io = some q → q.1 ≠ i) (h : tG K C rel (fun ρ => f (frzAt i ρ)) σ H Q) : tG K C rel f σ H Q := by
  obtain ⟨Hf, ρ, s, h⟩ := h
  obtain ⟨Hf', e, s'⟩ := frzAt_ok i hp s
  exact ⟨Hf', _, s', PostG.mono e h⟩
end
section
variable {X : Cx} {C : Fc} {pos : Pos} {e : Expr} {st : Stmt} {f : M D} {p : M Bool}
def M.frz {α : Type} (i : Nat) (f : M α) : M α := fun ρ => f (frzAt i ρ)
def S.frz (i : Nat) (g : MS) : MS := fun ρ => g (frzAt i ρ)
theorem pd_frz (i : Nat) (hp : ∀ q, C.io = some q → q.1 ≠ i) (h : PDe X C e f) : PDe X C e (M.frz i f) := pe_imp h fun _ _ _ q => tG_frz i hp q
theorem pdt_frz (i : Nat) (hp : ∀ q, C.io = some q → q.1 ≠ i) (h : PDt X C e p) : PDt X C e (M.frz i p) := pt_imp h fun _ _ _ q => tG_frz i hp q
theorem pdl_frz {fl : M (List D)} (i : Nat) (hp : ∀ q, C.io = some q → q.1 ≠ i) (h : PDl X C e fl) : PDl X C e (M.frz i fl) := pe_imp h fun _ _ _ q => tG_frz i hp q
theorem pda_frz {es : List Expr} {g : M (List Arg)} (i : Nat) (hp : ∀ q, C.io = some q → q.1 ≠ i) (h : PDa X C es g) : PDa X C es (M.frz i g) := pa_imp h fun _ _ _ q => tG_frz i hp q
theorem pdi_frz {tg : Expr} {fl : M (List D)} (i : Nat) (hp : ∀ q, C.io = some q → q.1 ≠ i) (h : PDi X C tg e fl) : PDi X C tg e (M.frz i fl) := pi_imp h fun _ _ _ q => tG_frz i hp q
theorem pds_frz {g : MS} (i : Nat) (hp : ∀ q, C.io = some q → q.1 ≠ i) (h : PDs X C st g) : PDs X C st (S.frz i g) := ps_imp h fun E σ H ⟨Hf, ρ, s, q⟩ => by
  obtain ⟨Hf', ee, s'⟩ := frzAt_ok i hp s
  exact ⟨Hf', _, s', PostS.mono ee q⟩
def M.borrow (f : M D) : M D := fun ρ => match f (PD.frz ρ) with
  | .ok x _ => if scalarD x = true then .ok x ρ else .bad
  | _ => .bad
def M.borrowT (f : M Bool) : M Bool := fun ρ => match f (PD.frz ρ) with
  | .ok x _ => .ok x ρ
  | _ => .bad
theorem pd_borrow (h : ∀ C' : Fc, C'.io = none → PDe X C' e f) : PDe X C e (M.borrow f) := ⟨fun pins sh σ H Q I ⟨Hf, ρ, s, q⟩ => by
  have hh := h ⟨H, H, none, [], fun _ _ => False, C.w⟩ rfl
  refine hh.run pins sh σ H Q I ⟨H, PD.frz ρ, s.frz _, ?_⟩
  unfold M.borrow at q
  cases hf : f (PD.frz ρ) with
  | ok x ρ' =>
    rw [hf] at q
    simp only at q
    split at q
    · rename_i hs
      exact fun v H' Hf' e' s' d => PostG.now (b := v) q (s.back (e'.trans s'.e1)) (scalar_any hs d)
    · exact (show False from q).elim
  | ex _ _ => rw [hf] at q; exact (show False from q).elim
  | bad => rw [hf] at q; exact (show False from q).elim⟩
theorem pdt_borrow (h : ∀ C' : Fc, C'.io = none → PDt X C' e p) : PDt X C e (M.borrowT p) := ⟨fun pins sh σ H Q I ⟨Hf, ρ, s, q⟩ => by
  have hh := h ⟨H, H, none, [], fun _ _ => False, C.w⟩ rfl
  refine hh.run pins sh σ H Q I ⟨H, PD.frz ρ, s.frz _, ?_⟩
  unfold M.borrowT at q
  cases hf : p (PD.frz ρ) with
  | ok x ρ' =>
    rw [hf] at q
    exact fun v H' Hf' e' s' d => PostG.now (b := v) q (s.back (e'.trans s'.e1)) d
  | ex _ _ => rw [hf] at q; exact (show False from q).elim
  | bad => rw [hf] at q; exact (show False from q).elim⟩
def ownAt (ρ : DE) (i : Nat) : Option (List D) := match ρ[i]? with
  | some (some (.own xs)) => some xs
  | _ => none
theorem ownAt_get {ρ : DE} {i : Nat} {xs : List D} (h : ownAt ρ i = some xs) : ρ[i]? = some (some (.own xs)) := by
  unfold ownAt at h
  split at h
  · rename_i ys hy
    cases h
    exact hy
  · cases h
/-- an item of a list of ours -/
def M.subO (i : Nat) (g : M D) : M D := fun ρ => match ownAt ρ i with
  | some _ => M.bind g (fun k ρ1 => M.lift ((ownAt ρ1 i).bind fun xs => (asI k).bind fun j => atI xs j) ρ1) ρ
  | none => .bad
theorem pd_subO (i : Nat) {x : Str} {px : Pos} {b : Expr} {g : M D} (hb : PDe X C b g) (hs : PlainIx b) (hN : X.N[i]? = some x := by rfl) (hv : Vis X.env.scope x := by first | exact Or.inl rfl | exact Or.inr (Or.inl rfl) | exact Or.inr (Or.inr rfl)) (hd : (x == ("__debug__" : Str)) = false := by decide)
    (hcd : (x == ("__classdict__" : Str)) = false := by decide) : PDe X C (.Subscript (.Name x px) b pos) (M.subO i g) := pe_imp (pe_ix ix_list (pe_var hN hv hd hcd) hb hs) fun σ H Q ⟨Hf, ρ, s, q⟩ => by
  unfold M.subO at q
  cases ho : ownAt ρ i with
  | none => rw [ho] at q; exact (show False from q).elim
  | some xs =>
    rw [ho] at q
    obtain ⟨a, vs, h1, h2⟩ := s.own i xs (ownAt_get ho)
    refine ⟨.ref a, h1, tG_bind s q fun w y H2 Hf2 ρ2 e2 s2 d2 q2 => ?_⟩
    obtain ⟨z, hz, q3⟩ := q2.lift
    cases ho2 : ownAt ρ2 i with
    | none => rw [ho2] at hz; cases hz
    | some ys =>
      rw [ho2] at hz
      obtain ⟨b, ws, g1, g2, g3, g4, _⟩ := s2.own i ys (ownAt_get ho2)
      rw [h1] at g1
      cases g1
      cases y <;> first | cases hz | skip
      obtain ⟨t, t1, t2⟩ := atI_dp g4 hz
      exact ⟨_, _, _, t, rfl, d2.int_of, SqL.of g3, t1, PostG.now (b := t) q3 s2 t2⟩
/-- found.append(e) -/
def S.app (i : Nat) (f : M D) : MS := fun ρ => match ownAt ρ i with
  | some _ => S.ofM f (fun x => S.ofM (fun ρ1 => M.lift ((ownAt ρ1 i).bind fun xs => if xs.length < sizeLine then some (xs ++ [x]) else none) ρ1) fun ys ρ1 => .nx (ρ1.set i (some (.own ys)))) ρ
  | none => .bad
theorem ofM_s {α : Type} {K : PySem.W.Frag} {C : Fc} {Hf : Hp} {o : DE → Option α} {k : α → MS} {ρ : DE} {E : Ends} (h : PostS K C Hf (S.ofM (fun ρ1 => M.lift (o ρ1) ρ1) k ρ) E) : ∃ x, o ρ = some x ∧ PostS K C Hf (k x ρ) E := by
  unfold S.ofM M.lift at h
  cases ho : o ρ with
  | none => simp only [ho] at h; exact (show False from h).elim
  | some x => simp only [ho] at h; exact ⟨x, rfl, h⟩
theorem pd_app (i : Nat) {x : Str} {px apos cpos : Pos} (ha : PDe X C e f) (hN : X.N[i]? = some x := by rfl) (hv : Vis X.env.scope x := by first | exact Or.inl rfl | exact Or.inr (Or.inl rfl) | exact Or.inr (Or.inr rfl)) (hd : (x == ("__debug__" : Str)) = false := by decide)
    (hcd : (x == ("__classdict__" : Str)) = false := by decide)
    (hbase : attributeBase (.Name x px) "append" X.env (eval (.Name x px) X.env) = eval (.Name x px) X.env := by rfl)
    (hfew : ((backTo cpos (starEach (e :: []) X.env)).all (fun x => !x.1) && (backToKw cpos (keywordEach [] X.env)).all (fun x => x.1.isSome)
      && decide ((e :: []).length + ([] : List Keyword).length + (if ([] : List Keyword).isEmpty then 0 else 1) < 30)) = true := by rfl)
    (hline : (apos.endLine == cpos.line) = true := by rfl) (hs : starEach (e :: []) X.env = (false, eval e X.env) :: starEach [] X.env := by rfl) (hplain : (backTo cpos (starEach [] X.env)).any (·.1) = false := by rfl)
    (hsw : swapsWith (.Call (.Attribute (.Name x px) "append" apos) [e] [] cpos) none pos.line X.env = pure false := by rfl) :
    PDs X C (.Expr (.Call (.Attribute (.Name x px) "append" apos) [e] [] cpos) pos) (S.app i f) :=
  ps_imp (ps_expr (pe_bm PySem.F.plainAttrs_list PySem.F.slot_list_append PySem.F.type_list_append mt_append (pe_var hN hv hd hcd) (pa_cons ha pa_nil hs) hbase hfew hline hs hplain) hsw) fun E σ H ⟨Hf, ρ, s, q⟩ => by
    unfold S.app at q
    cases ho : ownAt ρ i with
    | none => rw [ho] at q; exact (show False from q).elim
    | some xs =>
      rw [ho] at q
      obtain ⟨a, vs, h1, h2, h3, _⟩ := s.own i xs (ownAt_get ho)
      refine ⟨.ref a, h1, .inl ⟨rfl, _, SqL.of h3⟩, tS_bind s q fun w y H2 Hf2 ρ2 e2 s2 d2 q2 => ?_⟩
      obtain ⟨zs, hz, q3⟩ := ofM_s q2
      cases ho2 : ownAt ρ2 i with
      | none => rw [ho2] at hz; cases hz
      | some ys =>
        rw [ho2] at hz
        simp only [Option.bind_some] at hz
        split at hz
        · rename_i hl
          cases hz
          obtain ⟨b, ws, g1, g2, g3, g4, _⟩ := s2.own i ys (ownAt_get ho2)
          rw [h1] at g1
          cases g1
          refine ⟨_, ws, w, rfl, rfl, g3, by rw [g4.length]; exact hl, ?_⟩
          exact PostS.nx q3 (s2.mut (ownAt_get ho2) h1 (g4.append (.cons d2 .nil)))
        · cases hz
/-- xs.pop() -/
def M.pop (i : Nat) : M D := fun ρ => match ownAt ρ i with
  | some xs => match xs[xs.length - 1]? with
    | some x => .ok x (ρ.set i (some (.own xs.dropLast)))
    | none => .bad
  | none => .bad
theorem pd_pop (i : Nat) {x : Str} {px apos cpos : Pos} (hN : X.N[i]? = some x := by rfl) (hv : Vis X.env.scope x := by first | exact Or.inl rfl | exact Or.inr (Or.inl rfl) | exact Or.inr (Or.inr rfl)) (hd : (x == ("__debug__" : Str)) = false := by decide)
    (hcd : (x == ("__classdict__" : Str)) = false := by decide) (hbase : attributeBase (.Name x px) "pop" X.env (eval (.Name x px) X.env) = eval (.Name x px) X.env := by rfl) (hline : (apos.endLine == cpos.line) = true := by rfl) :
    PDe X C (.Call (.Attribute (.Name x px) "pop" apos) [] [] cpos) (M.pop i) :=
  pe_imp (pe_bm0 PySem.F.plainAttrs_list PySem.F.slot_list_pop PySem.F.type_list_pop mt_pop (pe_var hN hv hd hcd) hbase hline) fun σ H Q ⟨Hf, ρ, s, q⟩ => by
    unfold M.pop at q
    cases ho : ownAt ρ i with
    | none => rw [ho] at q; exact (show False from q).elim
    | some xs =>
      rw [ho] at q
      simp only at q
      split at q
      · rename_i y hy
        obtain ⟨a, vs, h1, h2, h3, h4, _⟩ := s.own i xs (ownAt_get ho)
        obtain ⟨v, g1, g2⟩ := h4.get hy
        refine ⟨.ref a, h1, .inl ⟨rfl, _, SqL.of h3⟩, a, vs, v, rfl, rfl, h3, by rw [h4.length]; exact g1, ?_⟩
        exact q v _ Hf (Ex.refl _) (s.mut (ownAt_get ho) h1 h4.dropLast) g2
      · exact (show False from q).elim
/-- xs[k] = e -/
def S.setIx (i : Nat) (f g : M D) : MS := S.ofM f fun x ρ0 => match ownAt ρ0 i with
  | some _ => S.ofM g (fun k => S.ofM (fun ρ1 => M.lift ((ownAt ρ1 i).bind fun xs => (asI k).bind fun j => (ixN xs.length j).map fun n => xs.set n x) ρ1) fun ys ρ1 => .nx (ρ1.set i (some (.own ys)))) ρ0
  | none => .bad
theorem pd_setIx (i : Nat) {x : Str} {px tpos : Pos} {b : Expr} {g : M D} (ha : PDe X C e f) (hb : PDe X C b g) (hN : X.N[i]? = some x := by rfl) (hv : Vis X.env.scope x := by first | exact Or.inl rfl | exact Or.inr (Or.inl rfl) | exact Or.inr (Or.inr rfl)) (hd : (x == ("__debug__" : Str)) = false := by decide)
    (hcd : (x == ("__classdict__" : Str)) = false := by decide)
    (hA : ∀ v, assign (.Subscript (.Name x px) b tpos) X.env v = (do
      let ov ← holding [v] (eval (.Name x px) X.env)
      let iv ← holding [v, ov] (eval b X.env)
      standAt tpos
      holding [v, ov, iv] (setItem ov iv v)
      release [v, ov, iv] []) := by intro _; rfl)
    (hs : swapsWithSole [.Subscript (.Name x px) b tpos] e pos.line X.env = pure false := by rfl) (hw : swappedStores [.Subscript (.Name x px) b tpos] e X.env = pure none := by rfl)
    (h1 : (assignEach [.Subscript (.Name x px) b tpos] X.env).map (·.2) = [assign (.Subscript (.Name x px) b tpos) X.env] := by rfl) : PDs X C (.Assign [.Subscript (.Name x px) b tpos] e pos) (S.setIx i f g) :=
  ps_imp (ps_asg ha (pg_sub (pe_var hN hv hd hcd) hb set_list hA) hs hw h1) fun E σ H ⟨Hf, ρ, s, q⟩ => tS_bind s q fun v y H1 Hf1 ρ1 e1 s1 d1 q1 => by
    cases ho : ownAt ρ1 i with
    | none => simp only [ho] at q1; exact (show False from q1).elim
    | some xs =>
      simp only [ho] at q1
      obtain ⟨a, vs, h1, h2, h3, _⟩ := s1.own i xs (ownAt_get ho)
      refine ⟨.ref a, h1, tS_bind s1 q1 fun w k H2 Hf2 ρ2 e2 s2 d2 q2 => ?_⟩
      obtain ⟨zs, hz, q3⟩ := ofM_s q2
      cases ho2 : ownAt ρ2 i with
      | none => rw [ho2] at hz; cases hz
      | some ys =>
        rw [ho2] at hz
        obtain ⟨b, ws, g1, g2, g3, g4, _⟩ := s2.own i ys (ownAt_get ho2)
        rw [h1] at g1
        cases g1
        cases k <;> first | cases hz | skip
        rename_i j
        have hz : (ixN ys.length j).map (fun n => ys.set n y) = some zs := hz
        cases hn : ixN ys.length j with
        | none => rw [hn] at hz; cases hz
        | some n =>
          rw [hn] at hz
          cases hz
          refine ⟨_, ws, j, n, rfl, d2.int_of, g3, by rw [g4.length]; exact hn, ?_⟩
          exact PostS.nx q3 (s2.mut (ownAt_get ho2) h1 (g4.set n (Dp.mono e2 _ _ d1)))
end
end PD

set_option maxRecDepth 100000
set_option maxHeartbeats 4000000
set_option autoImplicit false
namespace PD
open PySem PySem.Spec L2
open Evl (Ex)

/-! ### what is walked -/
section
variable {X : Cx} {C : Fc} {pos p tpos : Pos} {tg e e2 : Expr} {f : M D} {ga : M (List Arg)}
def itemsD : D → Option (List D)
  | .list xs => some xs
  | .tuple xs => some xs
  | _ => none
def M.items (f : M D) : M (List D) := M.bind f fun x => M.lift (itemsD x)
def iSeq (K : PySem.W.Frag) (tl : TE) : TI := fun σ H R => tl σ H fun x H1 => ∃ a, x = .ref a ∧ (((∃ xs, SqL K H1 a xs) ∧ R (Itl K a) H1) ∨ ((∃ xs, SqT K H1 a xs) ∧ R (Itt K a) H1))
theorem pi_seq {l : Expr} {tl : TE} (hl : PE X l tl) : PI X tg l (iSeq X.K tl) := by
  refine ⟨fun pins s σ H R I h => ?_⟩
  refine thn (hl.run pins s σ H _ I h) fun v s1 ⟨x, H1, I1, r1, q1⟩ => ?_
  obtain ⟨a, e, q1⟩ := q1
  subst e
  cases r1
  rcases q1 with ⟨⟨xs, hq⟩, q⟩ | ⟨⟨xs, hq⟩, q⟩
  · obtain ⟨its, rv, p, hz⟩ := I1.list hq
    refine wpAny_pyIter_list p.isList ?_
    refine ⟨s1.heap.objs.size, [s1.heap.objs.size], _, _, H1, rfl, I1.kept (t' := s1.toks) fun b o e => Heap.get?_push_of_some _ e, turn_list a _, ⟨_, Heap.get?_push_size _ rfl, rfl, rfl⟩, fun b hb => ?_, q⟩
    have e : b = s1.heap.objs.size := by simpa using hb
    subst e
    exact I1.fpOk (Nat.le_refl _) (I1.hok.fresh (Nat.le_refl _))
  · obtain ⟨its, rv, p, hz⟩ := I1.tuple hq
    refine wpAny_pyIter_tuple (show s1.heap.IsTuple a its.toArray from p) ?_
    refine ⟨s1.heap.objs.size, [s1.heap.objs.size], _, _, H1, rfl, I1.kept (t' := s1.toks) fun b o e => Heap.get?_push_of_some _ e, turn_tuple a _, ⟨_, Heap.get?_push_size _ rfl, rfl, rfl⟩, fun b hb => ?_, q⟩
    have e : b = s1.heap.objs.size := by simpa using hb
    subst e
    exact I1.fpOk (Nat.le_refl _) (I1.hok.fresh (Nat.le_refl _))
theorem it_list {K : PySem.W.Frag} {σ : L2.St} {Hf H0 : Hp} {ρ : DE} {a : Addr} {us : List V} {xs : List D} (h : SqL K Hf a us) (d : DpAll K Hf us xs) : relI K σ Hf H0 ρ (Itl K a) xs := by
  refine ⟨fun i Hf1 H x e1 e2 hx => ?_, fun i Hf1 H e1 e2 hi => ⟨us, Evl.ex_l (e1.trans e2) h, by rw [d.length]; exact hi⟩⟩
  obtain ⟨v, g1, g2⟩ := d.get hx
  have h' := Evl.ex_l (e1.trans e2) h
  refine ⟨⟨us, v, h', g1⟩, fun v' H2 ⟨e, hy⟩ => ?_⟩
  subst e
  have := (hy us h').symm.trans g1
  cases this
  exact ⟨Hf1, Grow.refl e2, Dp.mono e1 _ _ g2⟩
theorem it_tup {K : PySem.W.Frag} {σ : L2.St} {Hf H0 : Hp} {ρ : DE} {a : Addr} {us : List V} {xs : List D} (h : SqT K Hf a us) (d : DpAll K Hf us xs) : relI K σ Hf H0 ρ (Itt K a) xs := by
  refine ⟨fun i Hf1 H x e1 e2 hx => ?_, fun i Hf1 H e1 e2 hi => ⟨us, Evl.ex_t (e1.trans e2) h, by rw [d.length]; exact hi⟩⟩
  obtain ⟨v, g1, g2⟩ := d.get hx
  have h' := Evl.ex_t (e1.trans e2) h
  refine ⟨⟨us, v, h', g1⟩, fun v' H2 ⟨e, hy⟩ => ?_⟩
  subst e
  have := (hy us h').symm.trans g1
  cases this
  exact ⟨Hf1, Grow.refl e2, Dp.mono e1 _ _ g2⟩
theorem pdi_seq (ha : PDe X C e f) : PDi X C tg e (M.items f) := pi_imp (pi_seq ha) fun σ H Q ⟨Hf, ρ, s, h⟩ =>
  tG_bind s h fun v x H1 Hf1 ρ1 e1 s1 d1 h1 => by
    obtain ⟨z, hz, h2⟩ := h1.lift
    cases x <;> first | cases hz | skip
    · obtain ⟨a, us, rfl, g1, g2⟩ := Dp.list_of d1
      exact ⟨a, rfl, .inl ⟨⟨us, Evl.ex_l s1.e1 g1⟩, PostG.now (b := Itl X.K a) h2 s1 (it_list g1 g2)⟩⟩
    · obtain ⟨a, us, rfl, g1, g2⟩ := Dp.tup_of d1
      exact ⟨a, rfl, .inr ⟨⟨us, Evl.ex_t s1.e1 g1⟩, PostG.now (b := Itt X.K a) h2 s1 (it_tup g1 g2)⟩⟩
/-- range -/
def rangeD (lo : Int) (n : Nat) : List D := (List.range n).map fun (i : Nat) => .int (lo + (i : Int))
theorem rangeD_get {lo : Int} {n i : Nat} {x : D} (h : (rangeD lo n)[i]? = some x) : i < n ∧ x = .int (lo + i) := by
  unfold rangeD at h
  rw [List.getElem?_map] at h
  by_cases hi : i < n
  · rw [List.getElem?_range hi] at h
    cases h
    exact ⟨hi, rfl⟩
  · rw [List.getElem?_eq_none (by simpa using hi)] at h
    cases h
theorem it_range {K : PySem.W.Frag} {σ : L2.St} {Hf H0 : Hp} {ρ : DE} {lo : Int} {n : Nat} : relI K σ Hf H0 ρ (Itr lo n) (rangeD lo n) := by
  refine ⟨fun i Hf1 H x e1 e2 hx => ?_, fun i Hf1 H e1 e2 hi => by simpa [rangeD, Itr] using hi⟩
  obtain ⟨hi, rfl⟩ := rangeD_get hx
  exact ⟨hi, fun v H2 ⟨e, hy⟩ => by subst e hy; exact ⟨Hf1, Grow.refl e2, .int _⟩⟩
def rngOk (j : Int) : Bool := decide (-(2 ^ 62) ≤ j) && decide (j < 2 ^ 62)
def range1D : List D → Option (List D)
  | [.int j] => if rngOk j = true then some (rangeD 0 j.toNat) else none
  | _ => none
def range2D : List D → Option (List D)
  | [.int i, .int j] => if (rngOk i && rngOk j) = true then some (rangeD i (j - i).toNat) else none
  | _ => none
def M.callL (o : List D → Option (List D)) (g : M (List Arg)) : M (List D) := M.bind g fun as => M.lift ((datOf as).bind o)
theorem callL_go {α : Type} {K : PySem.W.Frag} {C : Fc} {σ : L2.St} {Hf : Hp} {o : List D → Option (List D)} {as : List Arg} {rel : Hp → Hp → DE → α → List D → Prop} {ρ : DE} {Q : α → Hp → Prop} (h : PostG K C σ rel Hf (M.lift ((datOf as).bind o) ρ) Q) : ∃ xs z, datOf as = some xs ∧ o xs = some z ∧ PostG K C σ rel Hf (.ok z ρ) Q := by
  obtain ⟨z, hz, h2⟩ := h.lift
  cases q : datOf as with
  | none => rw [q] at hz; cases hz
  | some xs =>
    rw [q] at hz
    exact ⟨xs, z, rfl, hz, h2⟩
theorem pdi_range1 (hm : X.mg "range" = none) (ha : PDa X C [e] ga) (hg : Gl X "range" := by rfl) (hs : starEach [e] X.env = [(false, eval e X.env)] := by rfl) : PDi X C tg (.Call (.Name "range" p) [e] [] pos) (M.callL range1D ga) :=
  pi_imp (pi_range1 hg hm ha hs) fun σ H Q ⟨Hf, ρ, s, h⟩ => tG_bind s h fun vs as H1 Hf1 ρ1 e1 s1 d1 h1 => by
    obtain ⟨xs, z, hd, hz, h2⟩ := callL_go h1
    have da := ArgsRel.dats d1 hd
    unfold range1D at hz
    split at hz
    · split at hz
      · rename_i j hj
        cases hz
        obtain ⟨v, rfl, g⟩ := dp1 da
        unfold rngOk at hj
        rw [Bool.and_eq_true] at hj
        exact ⟨j, by rw [g.int_of], of_decide_eq_true hj.1, of_decide_eq_true hj.2, PostG.now (b := Itr 0 j.toNat) h2 s1 it_range⟩
      · cases hz
    · cases hz
theorem pdi_range2 (hm : X.mg "range" = none) (ha : PDa X C [e, e2] ga) (hg : Gl X "range" := by rfl) (hs : starEach [e, e2] X.env = [(false, eval e X.env), (false, eval e2 X.env)] := by rfl) (hs2 : starEach [e2] X.env = [(false, eval e2 X.env)] := by rfl) : PDi X C tg (.Call (.Name "range" p) [e, e2] [] pos) (M.callL range2D ga) :=
  pi_imp (pi_range2 hg hm ha hs hs2) fun σ H Q ⟨Hf, ρ, s, h⟩ => tG_bind s h fun vs as H1 Hf1 ρ1 e1 s1 d1 h1 => by
    obtain ⟨xs, z, hd, hz, h2⟩ := callL_go h1
    have da := ArgsRel.dats d1 hd
    unfold range2D at hz
    split at hz
    · split at hz
      · rename_i i j hj
        cases hz
        obtain ⟨v, w, rfl, g, g'⟩ := dp2 da
        unfold rngOk at hj
        simp only [Bool.and_eq_true, decide_eq_true_eq] at hj
        exact ⟨i, j, by rw [g.int_of, g'.int_of], ⟨hj.1.1, hj.1.2, hj.2.1, hj.2.2⟩, PostG.now (b := Itr i (j - i).toNat) h2 s1 it_range⟩
      · cases hz
    · cases hz
/-- zip of two lists, of two tuples -/
def zipL (xs ys : List D) : List D := (xs.zip ys).map fun p => .tuple [p.1, p.2]
def zipD : List D → Option (List D)
  | [.list xs, .list ys] => some (zipL xs ys)
  | [.tuple xs, .tuple ys] => some (zipL xs ys)
  | _ => none
theorem zipL_get {xs ys : List D} {i : Nat} {z : D} (h : (zipL xs ys)[i]? = some z) : ∃ x y, xs[i]? = some x ∧ ys[i]? = some y ∧ z = .tuple [x, y] := by
  unfold zipL at h
  rw [List.getElem?_map] at h
  cases q : (xs.zip ys)[i]? with
  | none => rw [q] at h; cases h
  | some p =>
    rw [q] at h
    cases h
    obtain ⟨x, y⟩ := p
    have := List.getElem?_zip_eq_some.mp q
    exact ⟨x, y, this.1, this.2, rfl⟩
theorem pair_new {K : PySem.W.Frag} {Hf H : Hp} {T : Addr} {v w : V} {x y : D} (e : Ex Hf H) (hT : H T = none) (d1 : Dp K Hf v x) (d2 : Dp K Hf w y) : ∃ Hf2, Grow Hf H Hf2 (upd H T (.tup [v, w])) ∧ Dp K Hf2 (.ref T) (.tuple [x, y]) := by
  have g := Grow.new (o := .tup [v, w]) e hT
  exact ⟨_, g, .tup (SqT.of upd_same) (.cons (Dp.mono g.f _ _ d1) (.cons (Dp.mono g.f _ _ d2) .nil))⟩
theorem zip_len {xs ys : List D} {i : Nat} (h : (zipL xs ys).length ≤ i) : xs.length ≤ i ∨ ys.length ≤ i := by
  unfold zipL at h
  rw [List.length_map, List.length_zip] at h
  omega
theorem it_zipL {K : PySem.W.Frag} {σ : L2.St} {Hf H0 : Hp} {ρ : DE} {a b : Addr} {us ws : List V} {xs ys : List D} (h : SqL K Hf a us) (d : DpAll K Hf us xs) (h' : SqL K Hf b ws) (d' : DpAll K Hf ws ys) : relI K σ Hf H0 ρ (Itz K a b) (zipL xs ys) := by
  refine ⟨fun i Hf1 H z e1 e2 hz => ?_, fun i Hf1 H e1 e2 hi => ⟨us, ws, Evl.ex_l (e1.trans e2) h, Evl.ex_l (e1.trans e2) h', by rw [d.length, d'.length]; exact zip_len hi⟩⟩
  obtain ⟨x, y, hx, hy, rfl⟩ := zipL_get hz
  obtain ⟨v, g1, g2⟩ := d.get hx
  obtain ⟨w, g3, g4⟩ := d'.get hy
  have q := Evl.ex_l (e1.trans e2) h
  have q' := Evl.ex_l (e1.trans e2) h'
  refine ⟨⟨us, ws, v, w, q, q', g1, g3⟩, fun v' H2 ⟨T, x', y', ev, hT, eH, hx', hy'⟩ => ?_⟩
  subst ev eH
  have a1 := (hx' us q).symm.trans g1
  have a2 := (hy' ws q').symm.trans g3
  cases a1
  cases a2
  exact pair_new e2 hT (Dp.mono e1 _ _ g2) (Dp.mono e1 _ _ g4)
theorem it_zipT {K : PySem.W.Frag} {σ : L2.St} {Hf H0 : Hp} {ρ : DE} {a b : Addr} {us ws : List V} {xs ys : List D} (h : SqT K Hf a us) (d : DpAll K Hf us xs) (h' : SqT K Hf b ws) (d' : DpAll K Hf ws ys) : relI K σ Hf H0 ρ (RZ.ItzT K a b) (zipL xs ys) := by
  refine ⟨fun i Hf1 H z e1 e2 hz => ?_, fun i Hf1 H e1 e2 hi => ⟨us, ws, Evl.ex_t (e1.trans e2) h, Evl.ex_t (e1.trans e2) h', by rw [d.length, d'.length]; exact zip_len hi⟩⟩
  obtain ⟨x, y, hx, hy, rfl⟩ := zipL_get hz
  obtain ⟨v, g1, g2⟩ := d.get hx
  obtain ⟨w, g3, g4⟩ := d'.get hy
  have q := Evl.ex_t (e1.trans e2) h
  have q' := Evl.ex_t (e1.trans e2) h'
  refine ⟨⟨us, ws, v, w, q, q', g1, g3⟩, fun v' H2 ⟨T, x', y', ev, hT, eH, hx', hy'⟩ => ?_⟩
  subst ev eH
  have a1 := (hx' us q).symm.trans g1
  have a2 := (hy' ws q').symm.trans g3
  cases a1
  cases a2
  exact pair_new e2 hT (Dp.mono e1 _ _ g2) (Dp.mono e1 _ _ g4)
theorem pdi_zip {elts : List Expr} {kk : Nat} (hm : X.mg "zip" = none) (ha : PDa X C [e, e2] ga) (hg : Gl X "zip" := by rfl)
    (hs : starEach [e, e2] X.env = (false, eval e X.env) :: starEach [e2] X.env := by rfl) (hpl : (backTo pos (starEach [e2] X.env)).any (·.1) = false := by rfl) : PDi X C (.Tuple elts kk tpos) (.Call (.Name "zip" p) [e, e2] [] pos) (M.callL zipD ga) :=
  pi_imp (RZ.pi_zipA hg hm ha hs hpl) fun σ H Q ⟨Hf, ρ, s, h⟩ => tG_bind s h fun vs as H1 Hf1 ρ1 e1 s1 d1 h1 => by
    obtain ⟨xs, z, hd, hz, h2⟩ := callL_go h1
    have da := ArgsRel.dats d1 hd
    unfold zipD at hz
    split at hz
    · cases hz
      obtain ⟨v, w, rfl, g, g'⟩ := dp2 da
      obtain ⟨a, us, rfl, a1, a2⟩ := g.list_of
      obtain ⟨b, ws, rfl, b1, b2⟩ := g'.list_of
      exact ⟨a, b, us, ws, rfl, .inl ⟨Evl.ex_l s1.e1 a1, Evl.ex_l s1.e1 b1, PostG.now (b := Itz X.K a b) h2 s1 (it_zipL a1 a2 b1 b2)⟩⟩
    · cases hz
      obtain ⟨v, w, rfl, g, g'⟩ := dp2 da
      obtain ⟨a, us, rfl, a1, a2⟩ := g.tup_of
      obtain ⟨b, ws, rfl, b1, b2⟩ := g'.tup_of
      exact ⟨a, b, us, ws, rfl, .inr ⟨Evl.ex_t s1.e1 a1, Evl.ex_t s1.e1 b1, PostG.now (b := RZ.ItzT X.K a b) h2 s1 (it_zipT a1 a2 b1 b2)⟩⟩
    · cases hz
end

/-! ### for, while -/
def forD (G : Gt) (g : MS) : List D → MS
  | [], ρ => .nx ρ
  | x :: r, ρ => match G x ρ with
    | none => .bad
    | some ρ1 => match g ρ1 with
      | .nx ρ2 => forD G g r ρ2
      | .ct ρ2 => forD G g r ρ2
      | .bk ρ2 => .nx ρ2
      | o => o
def S.for_ (it : M (List D)) (G : Gt) (g : MS) : MS := S.ofM it fun xs => forD G g xs
def whileN (p : M Bool) (g : MS) : Nat → MS
  | 0, _ => .bad
  | n + 1, ρ => match p ρ with
    | .ok b ρ1 => if b = true then (match g ρ1 with
        | .nx ρ2 => whileN p g n ρ2
        | .ct ρ2 => whileN p g n ρ2
        | .bk ρ2 => .nx ρ2
        | o => o) else .nx ρ1
    | .ex e ρ1 => .ex e ρ1
    | .bad => .bad
def Fl.isBad : Fl → Bool
  | .bad => true
  | _ => false
theorem whileN_up {p : M Bool} {g : MS} : ∀ {n : Nat} {ρ : DE}, (whileN p g n ρ).isBad = false → whileN p g (n + 1) ρ = whileN p g n ρ
  | 0, ρ, h => by cases h
  | n + 1, ρ, h => by
    have ih := fun ρ => @whileN_up p g n ρ
    unfold whileN at h ⊢
    cases hp : p ρ with
    | bad => rfl
    | ex e ρ1 => rfl
    | ok b ρ1 =>
      rw [hp] at h
      cases b with
      | false => rfl
      | true =>
        simp only [if_true] at h ⊢
        cases hg : g ρ1 with
        | nx ρ2 => rw [hg] at h; exact ih ρ2 h
        | ct ρ2 => rw [hg] at h; exact ih ρ2 h
        | bk ρ2 => rfl
        | rt x ρ2 => rfl
        | rl x ρ2 => rfl
        | ex e ρ2 => rfl
        | bad => rfl
theorem whileN_le {p : M Bool} {g : MS} {n m : Nat} {ρ : DE} (h : (whileN p g n ρ).isBad = false) (hm : n ≤ m) : whileN p g m ρ = whileN p g n ρ := by
  induction m with
  | zero => rw [Nat.le_zero.mp hm]
  | succ m ih =>
    by_cases e : n = m + 1
    · rw [e]
    · have h1 := ih (by omega)
      rw [whileN_up (by rw [h1]; exact h), h1]
open Classical in
noncomputable def S.while_ (p : M Bool) (g : MS) : MS := fun ρ => if h : ∃ n, (whileN p g n ρ).isBad = false then whileN p g (Classical.choose h) ρ else .bad
theorem while_eq {p : M Bool} {g : MS} {n : Nat} {ρ : DE} (h : (whileN p g n ρ).isBad = false) : S.while_ p g ρ = whileN p g n ρ := by
  have hx : ∃ n, (whileN p g n ρ).isBad = false := ⟨n, h⟩
  unfold S.while_
  rw [dif_pos hx]
  have hc := Classical.choose_spec hx
  rcases Nat.le_total n (Classical.choose hx) with hl | hl
  · exact whileN_le h hl
  · exact (whileN_le hc hl).symm
section
variable {X : Cx} {C : Fc} {pos : Pos} {tg iter c : Expr} {body : List Stmt} {it : M (List D)} {G : Gt} {g : MS} {sl : List Nat} {p : M Bool}
theorem pd_for (hp : PassesOwn (model X.prog X.w) X.A X.env X.xe) (hc : X.calm = true) (hi : PDi X C tg iter it) (hg : PDg X C tg G sl) (hb : PDss X C body g) (hs : ∀ x, foldedSetIterable iter X.env x = pure x := by intro _; rfl) : PDs X C (.For tg iter body [] pos) (S.for_ it G g) :=
  ps_imp (ps_for hp hc hi hg hb hs) fun E σ H ⟨Hf, ρ, s, q⟩ => tS_bind s q fun J xs H1 Hf1 ρ1 e1 s1 r1 q1 => by
    obtain ⟨rgo, rstop⟩ := r1
    refine ⟨fun i m σ H => ∃ Hf ρ, Ex Hf1 Hf ∧ SR X.K C Hf H σ ρ ∧ i ≤ xs.length ∧ m = xs.length - i ∧ PostS X.K C Hf (forD G g (xs.drop i) ρ) E, ⟨xs.length, Hf1, ρ1, Ex.refl _, s1, Nat.zero_le _, rfl, q1⟩, ?_⟩
    rintro i m σ2 H2 ⟨Hf2, ρ2, e2, s2, hi, rfl, q2⟩
    by_cases hlt : i < xs.length
    · have hx : xs[i]? = some xs[i] := List.getElem?_eq_getElem hlt
      obtain ⟨go, yl⟩ := rgo i Hf2 H2 _ e2 s2.e1 hx
      refine .inr ⟨go, fun σ' H' => ∃ Hf' ρ', Ex Hf1 Hf' ∧ SR X.K C Hf' H' σ' ρ' ∧ PostS X.K C Hf' (forD G g (xs.drop (i + 1)) ρ') E, fun σ' H' ⟨Hf', ρ', a1, a2, a3⟩ => ⟨xs.length - (i + 1), by omega, Hf', ρ', a1, a2, hlt, rfl, a3⟩, fun v H' y => ?_⟩
      obtain ⟨Hf3, gr, d3⟩ := yl v H' y
      rw [List.drop_eq_getElem_cons hlt] at q2
      unfold forD at q2
      cases hG : G xs[i] ρ2 with
      | none => rw [hG] at q2; exact (show False from q2).elim
      | some ρ3 =>
        rw [hG] at q2
        refine ⟨Hf3, ρ2, xs[i], ρ3, s2.grow gr, d3, hG, fun σ3 s3 _ _ => ⟨Hf3, ρ3, s3, ?_⟩⟩
        simp only at q2
        cases hgb : g ρ3 with
        | nx ρ4 =>
          rw [hgb] at q2
          exact fun σ4 H4 Hf4 e4 s4 => ⟨Hf4, ρ4, (e2.trans gr.f).trans e4, s4, PostS.mono (gr.f.trans e4) q2⟩
        | ct ρ4 =>
          rw [hgb] at q2
          exact fun σ4 H4 Hf4 e4 s4 => ⟨Hf4, ρ4, (e2.trans gr.f).trans e4, s4, PostS.mono (gr.f.trans e4) q2⟩
        | bk ρ4 =>
          rw [hgb] at q2
          exact fun σ4 H4 Hf4 e4 s4 => q2 σ4 H4 Hf4 (gr.f.trans e4) s4
        | rt x ρ4 =>
          rw [hgb] at q2
          exact fun v σ4 H4 Hf4 e4 s4 d4 => q2 v σ4 H4 Hf4 (gr.f.trans e4) s4 d4
        | rl x ρ4 =>
          rw [hgb] at q2
          exact fun a us σ4 H4 Hf4 e4 s4 => q2 a us σ4 H4 Hf4 (gr.f.trans e4) s4
        | ex e ρ4 =>
          rw [hgb] at q2
          exact fun σ4 H4 Hf4 e4 s4 => q2 σ4 H4 Hf4 (gr.f.trans e4) s4
        | bad =>
          rw [hgb] at q2
          exact q2
    · have e : i = xs.length := by omega
      subst e
      rw [List.drop_length] at q2
      exact .inl ⟨rstop _ Hf2 H2 e2 s2.e1 (Nat.le_refl _), PostS.nx q2 s2⟩
theorem pd_while (hp : PassesOwn (model X.prog X.w) X.A X.env X.xe) (hc : PDt X C c p) (hb : PDss X C body g) : PDs X C (.While c body [] pos) (S.while_ p g) :=
  ps_imp (ps_while hp hc hb) fun E σ H ⟨Hf, ρ, s, q⟩ => by
    have hx : ∃ n, PostS X.K C Hf (whileN p g n ρ) E := by
      unfold S.while_ at q
      split at q
      · exact ⟨_, q⟩
      · exact (show False from q).elim
    obtain ⟨n, hn⟩ := hx
    refine ⟨fun m σ H => ∃ Hf' ρ', Ex Hf Hf' ∧ SR X.K C Hf' H σ ρ' ∧ PostS X.K C Hf' (whileN p g m ρ') E, ⟨n, Hf, ρ, Ex.refl _, s, hn⟩, ?_⟩
    rintro m σ1 H1 ⟨Hf1, ρ1, e1, s1, q1⟩
    cases m with
    | zero => exact (show False from q1).elim
    | succ m =>
      unfold whileN at q1
      refine ⟨Hf1, ρ1, s1, ?_⟩
      cases hpp : p ρ1 with
      | bad => rw [hpp] at q1; exact (show False from q1).elim
      | ex e ρ2 =>
        rw [hpp] at q1
        exact fun H' Hf'' e' s' => q1 σ1 H' Hf'' e' s'
      | ok b ρ2 =>
        rw [hpp] at q1
        intro b' H2 Hf2 e2 s2 hb'
        have hb' : b' = b := hb'
        subst hb'
        cases b' with
        | false => exact L2.iteF (PostS.nx (PostS.mono e2 q1) s2)
        | true =>
          refine L2.iteT ⟨fun σ' H' => ∃ Hf' ρ', Ex Hf Hf' ∧ SR X.K C Hf' H' σ' ρ' ∧ PostS X.K C Hf' (whileN p g m ρ') E, fun σ' H' w => ⟨m, Nat.lt_succ_self m, w⟩, Hf2, ρ2, s2, ?_⟩
          simp only [if_true] at q1
          have q2 := PostS.mono e2 q1
          cases hgb : g ρ2 with
          | nx ρ4 =>
            rw [hgb] at q2
            exact fun σ4 H4 Hf4 e4 s4 => ⟨Hf4, ρ4, (e1.trans e2).trans e4, s4, PostS.mono e4 q2⟩
          | ct ρ4 =>
            rw [hgb] at q2
            exact fun σ4 H4 Hf4 e4 s4 => ⟨Hf4, ρ4, (e1.trans e2).trans e4, s4, PostS.mono e4 q2⟩
          | bk ρ4 => rw [hgb] at q2; exact q2
          | rt x ρ4 => rw [hgb] at q2; exact q2
          | rl x ρ4 => rw [hgb] at q2; exact q2
          | ex e ρ4 => rw [hgb] at q2; exact q2
          | bad => rw [hgb] at q2; exact q2
end
end PD

set_option maxRecDepth 100000
set_option maxHeartbeats 4000000
set_option autoImplicit false
namespace PD
open PySem PySem.Spec L2
open Evl (Ex)

/-! ### comprehensions -/
def wipeD (ρ : DE) : List Nat → DE
  | [] => ρ
  | v :: vs => (wipeD ρ vs).set v none
def restoreD (ρ0 ρe : DE) : List Nat → DE
  | [] => ρe
  | v :: vs => (restoreD ρ0 ρe vs).set v (ρ0.getD v none)
def isOwnB (ρ : DE) (i : Nat) : Bool := match ρ[i]? with
  | some (some (.own _)) => true
  | some (some (.dct _)) => true
  | _ => false
theorem isOwnB_of {ρ : DE} {i : Nat} {l : LV} (h : ρ[i]? = some (some l)) (o : l.owned = true) : isOwnB ρ i = true := by
  unfold isOwnB
  rw [h]
  cases l with
  | d x => cases o
  | own xs => rfl
  | dct kvs => rfl
def cleanD (ρ : DE) (vs : List Nat) : Bool := vs.all fun j => !isOwnB ρ j
def lcLoop (vs : List Nat) (G : Gt) (tt : M Bool) (te : M D) : List D → List D → M (List D)
  | [], acc, ρ => .ok acc ρ
  | x :: r, acc, ρ => match G x ρ with
    | none => .bad
    | some ρ1 => match tt ρ1 with
      | .ok b ρ2 => if b = true then (match te ρ2 with
          | .ok y ρ3 => if acc.length < sizeLine then lcLoop vs G tt te r (acc ++ [y]) (wipeD ρ3 vs) else .bad
          | _ => .bad) else lcLoop vs G tt te r acc (wipeD ρ2 vs)
      | _ => .bad
def M.lc (it : M (List D)) (vs : List Nat) (G : Gt) (tt : M Bool) (te : M D) : M (List D) := M.bind it fun xs ρ1 =>
  if cleanD ρ1 vs = true then (match lcLoop vs G tt te xs [] (wipeD ρ1 vs) with
    | .ok ys ρe => .ok ys (restoreD ρ1 ρe vs)
    | _ => .bad) else .bad
section
variable {K : PySem.W.Frag} {C : Fc} {Hf H : Hp} {σ : L2.St} {ρ : DE}
theorem SR.clear (s : SR K C Hf H σ ρ) {i : Nat} (hp : ∀ q, C.io = some q → q.1 ≠ i) : SR K C Hf H (σ.set i none) (ρ.set i none) := by
  have old : ∀ {j} {y : LV}, (ρ.set i none)[j]? = some (some y) → i ≠ j ∧ ρ[j]? = some (some y) := fun {j y} h => by
    rcases get_set h with ⟨_, e, _⟩ | h
    · cases e
    · exact h
  refine ⟨by simpa using s.len, s.e0, s.e1, s.fresh, s.keep, fun q hq => ?_, s.no, fun j y hj => ?_, fun j xs hj oj => ?_, fun j k a hne ⟨xs, h1, o1⟩ ⟨ys, h2, o2⟩ h3 h4 => ?_⟩
  · have ne := hp q hq
    obtain ⟨h1, xs, h2⟩ := s.pin q hq
    exact ⟨by rw [List.getElem?_set_ne (Ne.symm ne)]; exact h1, xs, by rw [List.getElem?_set_ne (Ne.symm ne)]; exact h2⟩
  · obtain ⟨ne, hj⟩ := old hj
    obtain ⟨v', h1, h2⟩ := s.val j y hj
    exact ⟨v', by rw [List.getElem?_set_ne ne]; exact h1, h2⟩
  · obtain ⟨ne, hj⟩ := old hj
    obtain ⟨a, vs, h1, h2⟩ := s.ownd j xs hj oj
    exact ⟨a, vs, by rw [List.getElem?_set_ne ne]; exact h1, h2⟩
  · obtain ⟨n1, h1⟩ := old h1
    obtain ⟨n2, h2⟩ := old h2
    rw [List.getElem?_set_ne n1] at h3
    rw [List.getElem?_set_ne n2] at h4
    exact s.apart j k a hne ⟨xs, h1, o1⟩ ⟨ys, h2, o2⟩ h3 h4
theorem SR.wipe (s : SR K C Hf H σ ρ) : ∀ {vs : List Nat}, (∀ q, C.io = some q → q.1 ∉ vs) → SR K C Hf H (L2.wipe σ vs) (wipeD ρ vs)
  | [], _ => s
  | v :: vs, hp => (SR.wipe s (vs := vs) fun q hq h => hp q hq (List.mem_cons_of_mem _ h)).clear fun q hq h => hp q hq (by rw [h]; exact List.mem_cons_self)
abbrev Fc.hide (C : Fc) (a : Addr) (vs : HO) : Fc := { C with no := (a, vs) :: C.no }
theorem SR.hide (s : SR K C Hf H σ ρ) {a : Addr} {vs : HO} (h1 : Hf a = none) (h2 : H a = some vs) (h3 : ∀ j, IsOwn ρ j → σ[j]? ≠ some (some (.ref a))) : SR K (C.hide a vs) Hf H σ ρ :=
  ⟨s.len, s.e0, s.e1, s.fresh, s.keep, s.pin, fun p hp => by
    rcases List.mem_cons.mp hp with e | hp
    · subst e; exact ⟨h1, h2⟩
    · exact s.no p hp, s.val, fun i xs hi oi => by
    obtain ⟨b, us, g1, g2, g3, g4, g5, g6⟩ := s.ownd i xs hi oi
    refine ⟨b, us, g1, g2, g3, g4, g5, fun p hp => ?_⟩
    rcases List.mem_cons.mp hp with e | hp
    · subst e
      exact fun e => h3 i ⟨xs, hi, oi⟩ (by rw [g1, e])
    · exact g6 p hp, s.apart⟩
theorem SR.show_ {a : Addr} {vs : HO} (s : SR K (C.hide a vs) Hf H σ ρ) : SR K C Hf H σ ρ :=
  ⟨s.len, s.e0, s.e1, s.fresh, s.keep, s.pin, fun p hp => s.no p (List.mem_cons_of_mem _ hp), s.val, fun i xs hi oi => by
    obtain ⟨b, us, g1, g2, g3, g4, g5, g6⟩ := s.ownd i xs hi oi
    exact ⟨b, us, g1, g2, g3, g4, g5, fun p hp => g6 p (List.mem_cons_of_mem _ hp)⟩, s.apart⟩
theorem SR.rehide {a : Addr} {vs ws : HO} (s : SR K (C.hide a vs) Hf H σ ρ) (hno : ∀ p ∈ C.no, a ≠ p.1) (h0 : C.H0 a = none) : SR K (C.hide a ws) Hf (upd H a ws) σ ρ := by
  obtain ⟨n1, n2⟩ := s.no (a, vs) List.mem_cons_self
  refine ⟨s.len, s.e0, fun b o h => ?_, s.fresh, fun b o h q => ?_, s.pin, fun p hp => ?_, s.val, fun i xs hi oi => ?_, s.apart⟩
  · have nb : b ≠ a := fun e => by rw [e] at h; rw [n1] at h; cases h
    rw [upd_ne nb]
    exact s.e1 b o h
  · have nb : b ≠ a := fun e => by
      rw [e] at h
      have h : C.H0 a = some o := h
      rw [h0] at h; cases h
    rw [upd_ne nb]
    exact s.keep b o h q
  · rcases List.mem_cons.mp hp with e | hp
    · subst e; exact ⟨n1, upd_same⟩
    · obtain ⟨g1, g2⟩ := s.no p (List.mem_cons_of_mem _ hp)
      exact ⟨g1, by rw [upd_ne (Ne.symm (hno p hp))]; exact g2⟩
  · obtain ⟨b, us, g1, g2, g3, g4, g5, g6⟩ := s.ownd i xs hi oi
    have nb : b ≠ a := g6 (a, vs) List.mem_cons_self
    refine ⟨b, us, g1, g2, by rw [upd_ne nb]; exact g3, g4, g5, fun p hp => ?_⟩
    rcases List.mem_cons.mp hp with e | hp
    · subst e; exact nb
    · exact g6 p (List.mem_cons_of_mem _ hp)
theorem restore_in {ρ0 ρe : DE} : ∀ {vs : List Nat} {i : Nat} {y : Option LV}, (restoreD ρ0 ρe vs)[i]? = some y → (i ∈ vs ∧ y = ρ0.getD i none) ∨ (i ∉ vs ∧ ρe[i]? = some y)
  | [], i, y, h => .inr ⟨by simp, h⟩
  | v :: vs, i, y, h => by
    rcases get_set h with ⟨e, e2, _⟩ | ⟨ne, h⟩
    · subst e
      exact .inl ⟨List.mem_cons_self, e2⟩
    · rcases restore_in h with ⟨h1, h2⟩ | ⟨h1, h2⟩
      · exact .inl ⟨List.mem_cons_of_mem _ h1, h2⟩
      · exact .inr ⟨by simp only [List.mem_cons, not_or]; exact ⟨Ne.symm ne, h1⟩, h2⟩
theorem restore_out {ρ0 ρe : DE} : ∀ {vs : List Nat} {i : Nat}, i ∉ vs → (restoreD ρ0 ρe vs)[i]? = ρe[i]?
  | [], i, _ => rfl
  | v :: vs, i, h => by
    simp only [List.mem_cons, not_or] at h
    show ((restoreD ρ0 ρe vs).set v _)[i]? = _
    rw [List.getElem?_set_ne (Ne.symm h.1), restore_out h.2]
theorem restore_len {ρ0 ρe : DE} : ∀ {vs : List Nat}, (restoreD ρ0 ρe vs).length = ρe.length
  | [] => rfl
  | v :: vs => by
    show ((restoreD ρ0 ρe vs).set v _).length = _
    rw [List.length_set, restore_len]
theorem wipe_out {σ : L2.St} : ∀ {vs : List Nat} {i : Nat}, i ∉ vs → (L2.wipe σ vs)[i]? = σ[i]?
  | [], i, _ => rfl
  | v :: vs, i, h => by
    simp only [List.mem_cons, not_or] at h
    show ((L2.wipe σ vs).set v none)[i]? = _
    rw [List.getElem?_set_ne (Ne.symm h.1), wipe_out h.2]
theorem wipe_at {σ : L2.St} : ∀ {vs : List Nat} {i : Nat}, i ∈ vs → i < σ.length → (L2.wipe σ vs)[i]? = some none
  | v :: vs, i, h, hl => by
    show ((L2.wipe σ vs).set v none)[i]? = _
    by_cases e : v = i
    · subst e
      rw [List.getElem?_set_self (by rw [L2.wipe_length]; exact hl)]
    · rw [List.getElem?_set_ne e]
      rcases List.mem_cons.mp h with h | h
      · exact absurd h.symm e
      · exact wipe_at h hl
theorem wipe_eq {σ σ2 : L2.St} {vs : List Nat} (hl : σ2.length = σ.length) (h : ∀ i : Nat, i ∉ vs → σ2[i]? = σ[i]?) : L2.wipe σ2 vs = L2.wipe σ vs := by
  refine List.ext_getElem? fun i => ?_
  by_cases hi : i ∈ vs
  · by_cases hb : i < σ.length
    · rw [wipe_at hi hb, wipe_at hi (by rw [hl]; exact hb)]
    · rw [List.getElem?_eq_none (by rw [L2.wipe_length]; omega), List.getElem?_eq_none (by rw [L2.wipe_length]; omega)]
  · rw [wipe_out hi, wipe_out hi, h i hi]
theorem SR.restore {Hf1 H1 : Hp} {ρ1 ρe : DE} {vs : List Nat} (s1 : SR K C Hf1 H1 σ ρ1) (e : Ex Hf1 Hf) (s : SR K C Hf H (L2.wipe σ vs) ρe) (hc : cleanD ρ1 vs = true) (hp : ∀ q, C.io = some q → q.1 ∉ vs) : SR K C Hf H σ (restoreD ρ1 ρe vs) := by
  have own' : ∀ {i} {l : LV}, (restoreD ρ1 ρe vs)[i]? = some (some l) → l.owned = true → i ∉ vs ∧ ρe[i]? = some (some l) := fun {i l} h o => by
    rcases restore_in h with ⟨h1, h2⟩ | h
    · unfold cleanD at hc
      have := List.all_eq_true.mp hc i h1
      have e : ρ1[i]? = some (some l) := by
        rw [List.getD_eq_getElem?_getD] at h2
        cases q : ρ1[i]? with
        | none => rw [q] at h2; cases h2
        | some y => rw [q] at h2; exact congrArg some h2.symm
      rw [isOwnB_of e o] at this
      cases this
    · exact h
  refine ⟨by rw [restore_len, ← s.len, L2.wipe_length], s.e0, s.e1, s.fresh, s.keep, fun q hq => ?_, s.no, fun i x hi => ?_, fun i xs hi oi => ?_, fun i j a hne ⟨xs, h1, o1⟩ ⟨ys, h2, o2⟩ h3 h4 => ?_⟩
  · obtain ⟨h1, xs, h2⟩ := s.pin q hq
    exact ⟨(L2.wipe_some h1).1, xs, by rw [restore_out (hp q hq)]; exact h2⟩
  · rcases restore_in hi with ⟨h1, h2⟩ | ⟨h1, h2⟩
    · have e' : ρ1[i]? = some (some (LV.d x)) := by
        rw [List.getD_eq_getElem?_getD] at h2
        cases q : ρ1[i]? with
        | none => rw [q] at h2; cases h2
        | some y => rw [q] at h2; exact congrArg some h2.symm
      obtain ⟨v, g1, g2⟩ := s1.val i x e'
      exact ⟨v, g1, Dp.mono e _ _ g2⟩
    · obtain ⟨v, g1, g2⟩ := s.val i x h2
      exact ⟨v, by rw [wipe_out h1] at g1; exact g1, g2⟩
  · obtain ⟨h1, h2⟩ := own' hi oi
    obtain ⟨a, us, g1, g2⟩ := s.ownd i xs h2 oi
    exact ⟨a, us, by rw [wipe_out h1] at g1; exact g1, g2⟩
  · obtain ⟨n1, h1⟩ := own' h1 o1
    obtain ⟨n2, h2⟩ := own' h2 o2
    exact s.apart i j a hne ⟨xs, h1, o1⟩ ⟨ys, h2, o2⟩ (by rw [wipe_out n1]; exact h3) (by rw [wipe_out n2]; exact h4)
end
/-- what does not change within: the caller's list, the World -/
def _root_.PD.Fc.sg (C : Fc) : Option (Nat × Addr) × World := (C.io, C.w)
/-- whatever lists are being made around -/
def gX (K : PySem.W.Frag) (io : Option (Nat × Addr) × World) (G : Gt) (sl : List Nat) : TG := fun v σ H Q => ∃ C : Fc, C.sg = io ∧ gD K C G sl v σ H Q
def tX {α β : Type} (K : PySem.W.Frag) (io : Option (Nat × Addr) × World) (rel : L2.St → Hp → Hp → DE → β → α → Prop) (f : M α) : L2.St → Hp → (β → Hp → Prop) → Prop := fun σ H Q => ∃ C : Fc, C.sg = io ∧ tG K C rel f σ H Q
theorem pg_any {X : Cx} {io : Option (Nat × Addr) × World} {tg : Expr} {G : Gt} {sl : List Nat} (h : ∀ C : Fc, C.sg = io → PDg X C tg G sl) : PG X tg (gX X.K io G sl) := ⟨fun pins s σ H v u Q I r ⟨C, e, q⟩ => (h C e).run pins s σ H v u Q I r q⟩
theorem pe_any {X : Cx} {io : Option (Nat × Addr) × World} {e : Expr} {f : M D} (h : ∀ C : Fc, C.sg = io → PDe X C e f) : PE X e (tX X.K io (relD X.K) f) := ⟨fun pins s σ H Q I ⟨C, ee, q⟩ => (h C ee).run pins s σ H Q I q⟩
def PDts (X : Cx) (C : Fc) (ifs : List Expr) (p : M Bool) : Prop := PTs X ifs (tG X.K C relB p)
theorem pdts_nil {X : Cx} {C : Fc} : PDts X C [] (M.ret true) := ⟨fun pins sh σ H Q I ⟨Hf, ρ, s, q⟩ => pts_nil.run pins sh σ H Q I (PostG.now (b := true) q s rfl)⟩
theorem pdts_one {X : Cx} {C : Fc} {c : Expr} {p : M Bool} (h : PDt X C c p) : PDts X C [c] p := pts_one h
theorem pts_any {X : Cx} {io : Option (Nat × Addr) × World} {ifs : List Expr} {p : M Bool} (h : ∀ C : Fc, C.sg = io → PDts X C ifs p) : PTs X ifs (tX X.K io relB p) := ⟨fun pins s σ H Q I ⟨C, ee, q⟩ => (h C ee).run pins s σ H Q I q⟩
section
variable {X : Cx} {C : Fc} {pos : Pos} {tg iter elt : Expr} {ifs : List Expr} {scope : Scope} {own : List (Str × Nat)} {it : M (List D)} {G : Gt} {sl : List Nat} {tt : M Bool} {te : M D}
theorem lc_go {vs : List Nat} (hp : ∀ q, C.io = some q → q.1 ∉ vs) (hsl : ∀ j ∈ sl, j ∈ vs) {σ : L2.St} {H : Hp} {Q : VK} (h : tG X.K C (relL X.K C) (M.lc it vs G tt te) σ H Q) :
    tLc (tG X.K C (relI X.K) it) (gX X.K C.sg G sl) (tX X.K C.sg relB tt) (tX X.K C.sg (relD X.K) te) vs σ H Q := by
  obtain ⟨Hf, ρ, s, h⟩ := h
  refine tG_bind s h fun J xs H1 Hf1 ρ1 e1 s1 r1 h1 => ?_
  obtain ⟨rgo, rstop⟩ := r1
  intro Dl hD
  by_cases hcl : cleanD ρ1 vs = true
  case neg => rw [if_neg hcl] at h1; exact (show False from h1).elim
  rw [if_pos hcl] at h1
  cases hfin : lcLoop vs G tt te xs [] (wipeD ρ1 vs) with
  | ex e ρe => rw [hfin] at h1; exact (show False from h1).elim
  | bad => rw [hfin] at h1; exact (show False from h1).elim
  | ok ys ρe =>
    rw [hfin] at h1
    have hno : ∀ p ∈ C.no, Dl ≠ p.1 := fun p hp e => by
      obtain ⟨_, g⟩ := s1.no p hp
      rw [e, g] at hD
      cases hD
    have h0 := s1.h0 hD
    have nf : Hf1 Dl = none := Evl.fresh_back s1.e1 hD
    have sW : SR X.K (C.hide Dl (.lst [])) Hf1 (upd H1 Dl (.lst [])) (L2.wipe σ vs) (wipeD ρ1 vs) := by
      have g := s1.grow (Grow.mine (o := .lst []) s1.e1 hD)
      refine (g.wipe hp).hide nf upd_same fun j ⟨zs, hj, oj⟩ hr => ?_
      obtain ⟨a, us, g1, _, g3, _⟩ := (s1.wipe hp).ownd j zs hj oj
      rw [hr] at g1
      cases g1
      rw [hD] at g3
      cases g3
    refine ⟨fun i m H => ∃ Hf ρ vacc acc, Ex Hf1 Hf ∧ SR X.K (C.hide Dl (.lst vacc)) Hf H (L2.wipe σ vs) ρ ∧ DpAll X.K Hf vacc acc ∧ i ≤ xs.length ∧ m = xs.length - i ∧ lcLoop vs G tt te (xs.drop i) acc ρ = .ok ys ρe,
      ⟨xs.length, Hf1, _, [], [], Ex.refl _, sW, .nil, Nat.zero_le _, rfl, hfin⟩, ?_⟩
    rintro i m H2 ⟨Hf2, ρ2, vacc, acc, e2, s2, da, hi, rfl, hl⟩
    obtain ⟨n1, n2⟩ := s2.no (Dl, .lst vacc) List.mem_cons_self
    by_cases hlt : i < xs.length
    · have hx : xs[i]? = some xs[i] := List.getElem?_eq_getElem hlt
      obtain ⟨go, yl⟩ := rgo i Hf2 H2 _ e2 s2.e1 hx
      rw [List.drop_eq_getElem_cons hlt] at hl
      unfold lcLoop at hl
      refine .inr ⟨go, fun H' => ∃ Hf ρ vacc acc, Ex Hf1 Hf ∧ SR X.K (C.hide Dl (.lst vacc)) Hf H' (L2.wipe σ vs) ρ ∧ DpAll X.K Hf vacc acc ∧ lcLoop vs G tt te (xs.drop (i + 1)) acc ρ = .ok ys ρe,
        fun H' ⟨Hf', ρ', va', ac', a1, a2, a3, a4⟩ => ⟨xs.length - (i + 1), by omega, Hf', ρ', va', ac', a1, a2, a3, hlt, rfl, a4⟩, fun v H' y => ?_⟩
      obtain ⟨Hf3, gr, d3⟩ := yl v H' y
      cases hG : G xs[i] ρ2 with
      | none => rw [hG] at hl; cases hl
      | some ρ3 =>
        rw [hG] at hl
        simp only at hl
        refine ⟨C.hide Dl (.lst vacc), rfl, Hf3, ρ2, xs[i], ρ3, s2.grow gr, d3, hG, fun σ3 s3 l3 o3 => ?_⟩
        have hw : L2.wipe σ3 vs = L2.wipe σ vs := by
          rw [wipe_eq (σ := L2.wipe σ vs) (vs := vs) l3 fun i hi => o3 i fun h => hi (hsl i h)]
          exact wipe_eq (L2.wipe_length σ vs) fun i hi => wipe_out hi
        refine ⟨hw, C.hide Dl (.lst vacc), rfl, Hf3, ρ3, s3, ?_⟩
        cases htt : tt ρ3 with
        | ex e ρ4 => rw [htt] at hl; cases hl
        | bad => rw [htt] at hl; cases hl
        | ok b ρ4 =>
          rw [htt] at hl
          simp only at hl
          intro b' H4 Hf4 e4 s4 hb'
          have hb' : b' = b := hb'
          subst hb'
          cases b' with
          | false =>
            simp only [Bool.false_eq_true, if_false] at hl ⊢
            have s5 := s4.wipe (vs := vs) hp
            rw [hw] at s5
            exact ⟨Hf4, _, vacc, acc, (e2.trans gr.f).trans e4, s5, DpAll.mono (gr.f.trans e4) _ _ da, hl⟩
          | true =>
            simp only [if_true] at hl ⊢
            refine ⟨C.hide Dl (.lst vacc), rfl, Hf4, ρ4, s4, ?_⟩
            cases hte : te ρ4 with
            | ex e ρ5 => rw [hte] at hl; cases hl
            | bad => rw [hte] at hl; cases hl
            | ok y ρ5 =>
              rw [hte] at hl
              simp only at hl
              split at hl
              · rename_i hacc
                intro w H5 Hf5 e5 s5 d5
                have d5 : Dp X.K Hf5 w y := d5
                have da5 := DpAll.mono ((gr.f.trans e4).trans e5) _ _ da
                obtain ⟨m1, m2⟩ := s5.no (Dl, .lst vacc) List.mem_cons_self
                refine ⟨vacc, m2, by rw [da.length]; exact hacc, ?_⟩
                have s6 := s5.rehide (ws := .lst (vacc ++ [w])) hno h0
                have s7 := s6.wipe (vs := vs) hp
                rw [hw] at s7
                exact ⟨Hf5, _, vacc ++ [w], acc ++ [y], ((e2.trans gr.f).trans e4).trans e5, s7, da5.append (.cons d5 .nil), hl⟩
              · cases hl
    · have e : i = xs.length := by omega
      subst e
      rw [List.drop_length] at hl
      unfold lcLoop at hl
      cases hl
      refine .inl ⟨rstop _ Hf2 H2 e2 s2.e1 (Nat.le_refl _), ?_⟩
      refine h1 (.ref Dl) H2 Hf2 e2 (s1.restore e2 s2.show_ hcl hp) ⟨Dl, vacc, rfl, n1, n2, da, h0, hno, fun j ⟨zs, hj, oj⟩ hr => ?_⟩
      rcases restore_in hj with ⟨g1, g2⟩ | ⟨g1, g2⟩
      · have := List.all_eq_true.mp hcl j g1
        rw [List.getD_eq_getElem?_getD] at g2
        cases q : ρ1[j]? with
        | none => rw [q] at g2; cases g2
        | some y =>
          rw [q] at g2
          have g2 : some zs = y := g2
          subst g2
          rw [isOwnB_of q oj] at this
          cases this
      · obtain ⟨a, us, a1, _, _, _, _, a6⟩ := s2.ownd j zs g2 oj
        rw [wipe_out g1, hr] at a1
        cases a1
        exact a6 (Dl, .lst vacc) List.mem_cons_self rfl
theorem pdl_lc (hp : ∀ q, C.io = some q → q.1 ∉ own.map (·.2)) (hsl : ∀ j ∈ sl, j ∈ own.map (·.2)) (hc : X.calm = true) (hN : X.N.Nodup) (ok : BlkOk X.N X.env.scope scope own) (hi : PDi X C tg iter it)
    (hg : ∀ (C' : Fc), C'.sg = C.sg → ∀ (s : Shared) (H : Hp) (Cc : Addr) (cl : List (Str × Addr)) (fp : List Addr), PDg (X.blk s H scope (compEnvC scope cl Cc X.env) fp) C' tg G sl)
    (ht : ∀ (C' : Fc), C'.sg = C.sg → ∀ (s : Shared) (H : Hp) (Cc : Addr) (cl : List (Str × Addr)) (fp : List Addr), PDts (X.blk s H scope (compEnvC scope cl Cc X.env) fp) C' ifs tt)
    (he : ∀ (C' : Fc), C'.sg = C.sg → ∀ (s : Shared) (H : Hp) (Cc : Addr) (cl : List (Str × Addr)) (fp : List Addr), PDe (X.blk s H scope (compEnvC scope cl Cc X.env) fp) C' elt te) (hs : ∀ x, foldedSetIterable iter X.env x = pure x := by intro _; rfl) :
    PDl X C (.ListComp elt [⟨tg, iter, ifs, 0⟩] scope pos) (M.lc it (own.map (·.2)) G tt te) :=
  pe_imp (pe_lc hc hN hi ok (fun s H Cc cl fp => pg_any fun C' e => hg C' e s H Cc cl fp) (fun s H Cc cl fp => pts_any fun C' e => ht C' e s H Cc cl fp) (fun s H Cc cl fp => pe_any fun C' e => he C' e s H Cc cl fp) hs) fun _ _ _ h => lc_go hp hsl h
/-- name = [..] -/
theorem pd_setLc {i : Nat} {y : Str} {py spos : Pos} (hpi : ∀ q, C.io = some q → q.1 ≠ i) (hp : ∀ q, C.io = some q → q.1 ∉ own.map (·.2)) (hsl : ∀ j ∈ sl, j ∈ own.map (·.2)) (hc : X.calm = true) (hN : X.N.Nodup) (ok : BlkOk X.N X.env.scope scope own) (hi : PDi X C tg iter it)
    (hg : ∀ (C' : Fc), C'.sg = C.sg → ∀ (s : Shared) (H : Hp) (Cc : Addr) (cl : List (Str × Addr)) (fp : List Addr), PDg (X.blk s H scope (compEnvC scope cl Cc X.env) fp) C' tg G sl)
    (ht : ∀ (C' : Fc), C'.sg = C.sg → ∀ (s : Shared) (H : Hp) (Cc : Addr) (cl : List (Str × Addr)) (fp : List Addr), PDts (X.blk s H scope (compEnvC scope cl Cc X.env) fp) C' ifs tt)
    (he : ∀ (C' : Fc), C'.sg = C.sg → ∀ (s : Shared) (H : Hp) (Cc : Addr) (cl : List (Str × Addr)) (fp : List Addr), PDe (X.blk s H scope (compEnvC scope cl Cc X.env) fp) C' elt te)
    (hsw : swapsWith (.ListComp elt [⟨tg, iter, ifs, 0⟩] scope pos) (some (.Name y py)) spos.line X.env = pure true)
    (hy : X.N[i]? = some y := by rfl) (hyl : X.env.scope.names.lookup y = some .local := by rfl)
    (hs : ∀ x, foldedSetIterable iter X.env x = pure x := by intro _; rfl) :
    PDs X C (.Assign [.Name y py] (.ListComp elt [⟨tg, iter, ifs, 0⟩] scope pos) spos) (S.own i (M.lc it (own.map (·.2)) G tt te)) :=
  ps_imp (ps_setLc hc hN hy hyl hsw hi ok (fun s H Cc cl fp => pg_any fun C' e => hg C' e s H Cc cl fp) (fun s H Cc cl fp => pts_any fun C' e => ht C' e s H Cc cl fp) (fun s H Cc cl fp => pe_any fun C' e => he C' e s H Cc cl fp) hs) fun E σ H ⟨Hf, ρ, s, q⟩ => by
    refine lc_go (it := it) (G := G) (sl := sl) (tt := tt) (te := te) hp hsl ⟨Hf, ρ, s, ?_⟩
    unfold S.own S.ofM at q
    cases hf : M.lc it (own.map (·.2)) G tt te ρ with
    | ok x ρ1 =>
      rw [hf] at q
      intro v H1 Hf1 e1 s1 d1
      obtain ⟨a, vs, rfl, g1, g2, g3, g4, g5, g6⟩ := d1
      exact PostS.nx (PostS.mono e1 q) (s1.setO g1 g2 g3 g4 g5 g6 hpi)
    | ex e ρ1 =>
      rw [hf] at q
      exact fun H' Hf'' e' s' => q σ H' Hf'' e' s'
    | bad => rw [hf] at q; exact q
/-- return of the list at a slot of ours -/
def S.retO (i : Nat) : MS := fun ρ => match ownAt ρ i with
  | some xs => .rl xs (ρ.set i none)
  | none => .bad
theorem pd_retO (i : Nat) {x : Str} {px : Pos} (hp : ∀ q, C.io = some q → q.1 ≠ i) (hN : X.N[i]? = some x := by rfl) (hv : Vis X.env.scope x := by first | exact Or.inl rfl | exact Or.inr (Or.inl rfl) | exact Or.inr (Or.inr rfl)) (hd : (x == ("__debug__" : Str)) = false := by decide)
    (hcd : (x == ("__classdict__" : Str)) = false := by decide) : PDs X C (.Return (some (.Name x px)) pos) (S.retO i) := ps_imp (ps_ret (pe_var hN hv hd hcd)) fun E σ H ⟨Hf, ρ, s, q⟩ => by
  unfold S.retO at q
  cases ho : ownAt ρ i with
  | none => rw [ho] at q; exact (show False from q).elim
  | some xs =>
    rw [ho] at q
    have hi := ownAt_get ho
    obtain ⟨a, us, g1, g2, g3, g4, g5, g6⟩ := s.own i xs hi
    refine ⟨.ref a, g1, q a us _ H Hf (Ex.refl _) (s.clear hp) g2 g3 g4 ?_⟩
    rcases g5 with g5 | ⟨q', h1, h2⟩
    · exact g5
    · obtain ⟨z1, zs, z2⟩ := s.pin q' h1
      exact absurd z1 fun z1 => s.apart i q'.1 a (Ne.symm (hp q' h1)) ⟨_, hi, rfl⟩ ⟨_, z2, rfl⟩ g1 (by rw [h2]; exact z1)
end
end PD

set_option maxRecDepth 100000
set_option maxHeartbeats 4000000
set_option autoImplicit false
namespace PD
open PySem PySem.Spec L2
open Evl (Ex)

/-! ### a def's promise -/
/-- what a def gives: a value, and what its own list holds then -/
inductive FR where
  | ret (x : D) (o : Option (List D))
  | retL (xs : List D) (o : Option (List D))
  | ex (e : EV) (o : Option (List D))
  | bad
def outO (io : Option Nat) (ρ : DE) : Option (List D) := match io with
  | none => none
  | some k => ownAt ρ k
def okIo (io : Option Nat) : Nat → List LV → Bool
  | _, [] => true
  | n, .d _ :: r => (match io with | some k => decide (k ≠ n) | none => true) && okIo io (n + 1) r
  | n, .own _ :: r => (match io with | some k => decide (k = n) | none => false) && okIo io (n + 1) r
  | _, .dct _ :: _ => false
def runF (np n : Nat) (io : Option Nat) (g : MS) (lvs : List LV) : FR :=
  if lvs.length = np ∧ okIo io 0 lvs = true ∧ (∀ k, io = some k → k < np) then (match g (lvs.map some ++ List.replicate (n - np) none) with
    | .rt x ρ => .ret x (outO io ρ)
    | .rl x ρ => .retL x (outO io ρ)
    | .nx ρ => .ret .none (outO io ρ)
    | .ex e ρ => .ex e (outO io ρ)
    | _ => .bad) else .bad
def ioA (io : Option Nat) (vs : List V) : Option (Nat × Addr) := match io with
  | none => none
  | some k => match vs[k]? with
    | some (.ref a) => some (k, a)
    | _ => none
section
variable (K : PySem.W.Frag)
/-- the arguments -/
def AOk (Hf H : Hp) (io : Option Nat) (vs : List V) (lvs : List LV) : Prop := vs.length = lvs.length ∧ ∀ (i : Nat) (lv : LV), lvs[i]? = some lv → ∃ v, vs[i]? = some v ∧ match lv with
  | .d x => Dp K Hf v x
  | .own xs => io = some i ∧ ∃ a us, v = .ref a ∧ Hf a = none ∧ H a = some (.lst us) ∧ DpAll K Hf us xs
  | .dct _ => False
def OutOk (Hf H : Hp) (q : Option (Nat × Addr)) (o : Option (List D)) : Prop := match q, o with
  | some q, some xs => Hf q.2 = none ∧ ∃ us, H q.2 = some (.lst us) ∧ DpAll K Hf us xs
  | none, _ => True
  | _, _ => False
def spF (io : Option Nat) (F : List LV → FR) : Sp := fun vs H Q E => ∃ Hf lvs, Ex Hf H ∧ AOk K Hf H io vs lvs ∧ match F lvs with
  | .ret x o => ∀ (v : V) (H' Hf' : Hp), Ex Hf Hf' → Ex Hf' H' → (∀ b u, Hf' b = some u → Hf b = some u ∨ H b = none) → (∀ b u, H b = some u → (∀ q, ioA io vs = some q → b ≠ q.2) → H' b = some u) → OutOk K Hf' H' (ioA io vs) o → Dp K Hf' v x → Q v H'
  | .retL xs o => ∀ (a : Addr) (us : List V) (H' Hf' : Hp), Ex Hf Hf' → Ex Hf' H' → (∀ b u, Hf' b = some u → Hf b = some u ∨ H b = none) → (∀ b u, H b = some u → (∀ q, ioA io vs = some q → b ≠ q.2) → H' b = some u) → OutOk K Hf' H' (ioA io vs) o → Hf' a = none → H' a = some (.lst us) → DpAll K Hf' us xs → H a = none → Q (.ref a) H'
  | .ex _ _ => False
  | .bad => False
end
theorem io_ne {io : Option Nat} {C : Fc} (h : ∀ q, C.io = some q → io = some q.1) {i : Nat} (e : io ≠ some i := by decide) : ∀ q, C.io = some q → q.1 ≠ i := fun q hq z => e ((h q hq).trans (congrArg some z))
def ioOut (io : Option Nat) (l : List Nat) : Bool := match io with
  | some k => decide (k ∉ l)
  | none => true
theorem io_nin {io : Option Nat} {C : Fc} (h : ∀ q, C.io = some q → io = some q.1) {l : List Nat} (e : ioOut io l = true := by decide) : ∀ q, C.io = some q → q.1 ∉ l := fun q hq z => by
  rw [h q hq] at e
  exact (of_decide_eq_true (show decide (q.1 ∉ l) = true from e)) z
theorem io_eq {io : Option Nat} {C C' : Fc} (h : ∀ q, C.io = some q → io = some q.1) (e : C'.sg = C.sg) : ∀ q, C'.io = some q → io = some q.1 := fun q hq => h q ((congrArg Prod.fst e).symm.trans hq)
theorem w_eq {w : World} {C C' : Fc} (h : C.w = w) (e : C'.sg = C.sg) : C'.w = w := (congrArg Prod.snd e).trans h
theorem io_no {io : Option Nat} {C : Fc} (e : C.io = none) : ∀ q, C.io = some q → io = some q.1 := fun q hq => by rw [e] at hq; cases hq
section
variable {P : Program} {w : World} {K : PySem.W.Frag} {mg : Str → Option Value} {base : Heap}
theorem okIo_d {io : Option Nat} {k : Nat} (hio : io = some k) : ∀ {lvs : List LV} {n : Nat}, okIo io n lvs = true → n ≤ k → k < n + lvs.length → ∃ xs, lvs[k - n]? = some (.own xs)
  | [], n, _, h1, h2 => by simp at h2; omega
  | .d x :: r, n, h, h1, h2 => by
    unfold okIo at h
    rw [hio] at h
    simp only [Bool.and_eq_true, decide_eq_true_eq] at h
    obtain ⟨xs, e⟩ := okIo_d hio (lvs := r) (n := n + 1) (by rw [hio]; exact h.2) (by omega) (by simp at h2; omega)
    refine ⟨xs, ?_⟩
    have : k - n = (k - (n + 1)) + 1 := by omega
    rw [this]
    simpa using e
  | .own xs :: r, n, h, h1, h2 => by
    unfold okIo at h
    rw [hio] at h
    simp only [Bool.and_eq_true, decide_eq_true_eq] at h
    exact ⟨xs, by rw [h.1, Nat.sub_self]; rfl⟩
/-- THE RULE for a def, over data -/
theorem fn_pd {x qual : Str} {st : Stmt} {f : Addr} {fd : FuncData} {N ps : List Str} {k : Nat} {io : Option Nat} {g : MS} (F : Fun K x qual st f fd) (S : FnScope N ps (defScope st)) (hN : ps.length ≤ N.length)
    (hbody : ∀ (cdv : Value) (A : Around) (outer : List Env) (s : Shared) (H : Hp) (E : XK) (C : Fc), Room k (A.deeper (PyProof.Rows.envOfC qual (defScope st) s.heap.objs.size f cdv)) → (∀ q, C.io = some q → io = some q.1) → C.w = w →
      PDss (cxOf CX0 P w K mg base N qual (defScope st) f cdv A outer s H E).nox C (defBody st) g) : FnOk P w K mg base CX0 (k + 1) f fd ps (spF K io (runF ps.length N.length io g)) := by
  refine F.ok S (fun vs H Q E h => ?_) (fun cdv A outer s H vs Q E hr h => ?_)
  · obtain ⟨Hf, lvs, _, ha, h⟩ := h
    rw [ha.1]
    unfold runF at h
    split at h
    · rename_i heq
      split at heq
      · rename_i hc; exact hc.1
      · cases heq
    · rename_i heq
      split at heq
      · rename_i hc; exact hc.1
      · cases heq
    · exact h.elim
    · exact h.elim
  · obtain ⟨Hf, lvs, hex, ha, h⟩ := h
    obtain ⟨hl, ha⟩ := ha
    unfold runF at h
    by_cases hc : lvs.length = ps.length ∧ okIo io 0 lvs = true ∧ (∀ k, io = some k → k < ps.length)
    case neg => rw [if_neg hc] at h; exact (show False from h).elim
    rw [if_pos hc] at h
    have hC : ∀ q, (ioA io vs) = some q → io = some q.1 ∧ vs[q.1]? = some (.ref q.2) := fun q hq => by
      unfold ioA at hq
      split at hq
      · cases hq
      · split at hq
        · cases hq
          rename_i hv
          exact ⟨rfl, hv⟩
        · cases hq
    have hσ : ∀ {i : Nat} {v : V}, vs[i]? = some v → (L2.start N vs)[i]? = some (some v) := fun {i v} e => by
      unfold L2.start
      rw [List.getElem?_append_left (by rw [List.length_map]; exact (List.getElem?_eq_some_iff.mp e).1), List.getElem?_map, e]
      rfl
    have hρ : ∀ {i : Nat} {lv : LV}, (lvs.map some ++ List.replicate (N.length - ps.length) none)[i]? = some (some lv) → lvs[i]? = some lv := fun {i lv} e => by
      by_cases hi : i < lvs.length
      · rw [List.getElem?_append_left (by rw [List.length_map]; exact hi), List.getElem?_map] at e
        cases q : lvs[i]? with
        | none => rw [q] at e; cases e
        | some y => rw [q] at e; cases e; rfl
      · rw [List.getElem?_append_right (by rw [List.length_map]; omega), List.getElem?_replicate] at e
        split at e <;> cases e
    have hρ2 : ∀ {i : Nat} {lv : LV}, lvs[i]? = some lv → (lvs.map some ++ List.replicate (N.length - ps.length) none)[i]? = some (some lv) := fun {i lv} e => by
      rw [List.getElem?_append_left (by rw [List.length_map]; exact (List.getElem?_eq_some_iff.mp e).1), List.getElem?_map, e]
      rfl
    have only : ∀ {i : Nat}, IsOwn (lvs.map some ++ List.replicate (N.length - ps.length) none) i → io = some i := fun {i} ⟨xs, e, o⟩ => by
      cases xs with
      | d x => cases o
      | own xs =>
        obtain ⟨v, _, h1, _⟩ := ha i _ (hρ e)
        exact h1
      | dct kvs =>
        obtain ⟨v, _, h1⟩ := ha i _ (hρ e)
        exact h1.elim
    have S0 : SR K ⟨Hf, H, ioA io vs, [], fun _ _ => False, w⟩ Hf H (L2.start N vs) (lvs.map some ++ List.replicate (N.length - ps.length) none) := by
      refine ⟨?_, Ex.refl _, hex, fun b o e => .inl e, fun b o e _ => e, fun q hq => ?_, (fun p hp => by cases hp), fun i y e => ?_, fun i xs e oi => ?_, fun i j a hne h1 h2 _ _ => ?_⟩
      · unfold L2.start
        simp only [List.length_append, List.length_map, List.length_replicate]
        omega
      · obtain ⟨h1, h2⟩ := hC q hq
        refine ⟨hσ h2, ?_⟩
        obtain ⟨xs, e⟩ := okIo_d h1 hc.2.1 (Nat.zero_le _) (by have := hc.2.2 _ h1; omega)
        exact ⟨xs, hρ2 (by simpa using e)⟩
      · obtain ⟨v, h1, h2⟩ := ha i _ (hρ e)
        exact ⟨v, hσ h1, h2⟩
      · cases xs with
        | d x => cases oi
        | own xs =>
          obtain ⟨v, h1, h2, a, us, rfl, h3, h4, h5⟩ := ha i _ (hρ e)
          refine ⟨a, _, hσ h1, h3, h4, ⟨us, rfl, h5⟩, .inr ⟨(i, a), ?_, rfl⟩, fun p hp => by cases hp⟩
          show ioA io vs = _
          unfold ioA
          rw [h2]
          simp only [h1]
        | dct kvs =>
          obtain ⟨v, _, h1⟩ := ha i _ (hρ e)
          exact h1.elim
      · exact hne (Option.some.inj ((only h1).symm.trans (only h2)))
    refine ⟨_, hbody cdv A outer s H E ⟨Hf, H, ioA io vs, [], fun _ _ => False, w⟩ hr (fun q hq => (hC q hq).1) rfl, Hf, _, S0, ?_⟩
    have out : ∀ {σ' : L2.St} {H' Hf' : Hp} {ρ' : DE}, SR K ⟨Hf, H, ioA io vs, [], fun _ _ => False, w⟩ Hf' H' σ' ρ' → OutOk K Hf' H' (ioA io vs) (outO io ρ') := fun {σ' H' Hf' ρ'} s' => by
      unfold OutOk
      cases hq : ioA io vs with
      | none => exact True.intro
      | some q =>
        obtain ⟨h1, h2⟩ := hC q hq
        obtain ⟨g1, xs, g2⟩ := s'.pin q hq
        obtain ⟨a, us, a1, a2, a3, a4, _⟩ := s'.own _ _ g2
        rw [g1] at a1
        cases a1
        have e : outO io ρ' = some xs := by
          unfold outO
          rw [h1]
          simp only [ownAt, g2]
        rw [e]
        exact ⟨a2, us, a3, a4⟩
    cases hg : g (lvs.map some ++ List.replicate (N.length - ps.length) none) with
    | nx ρ' =>
      rw [hg] at h
      exact fun σ' H' Hf' e' s' => h .non H' Hf' e' s'.e1 s'.fresh s'.keep (out s') .non
    | rt y ρ' =>
      rw [hg] at h
      exact fun v σ' H' Hf' e' s' d => h v H' Hf' e' s'.e1 s'.fresh s'.keep (out s') d
    | rl y ρ' =>
      rw [hg] at h
      exact fun a us σ' H' Hf' e' s' z1 z2 z3 z4 => h a us H' Hf' e' s'.e1 s'.fresh s'.keep (out s') z1 z2 z3 z4
    | bk ρ' => rw [hg] at h; exact (show False from h).elim
    | ct ρ' => rw [hg] at h; exact (show False from h).elim
    | ex e ρ' => rw [hg] at h; exact (show False from h).elim
    | bad => rw [hg] at h; exact (show False from h).elim
end

/-! ### a call -/
def lvsOf (ρ : DE) : List Arg → Option (List LV)
  | [] => some []
  | .dat x :: r => (lvsOf ρ r).map (.d x :: ·)
  | .slot i :: r => (ownAt ρ i).bind fun xs => (lvsOf ρ r).map (.own xs :: ·)
def putO (io : Option Nat) (as : List Arg) (o : Option (List D)) (ρ : DE) : Option DE := match io with
  | none => some ρ
  | some k => match as[k]?, o with
    | some (.slot i), some xs => some (ρ.set i (some (.own xs)))
    | _, _ => none
def argIo (io : Option Nat) : Nat → List Arg → Bool
  | _, [] => true
  | n, .dat _ :: r => argIo io (n + 1) r
  | n, .slot _ :: r => (match io with | some k => decide (k = n) | none => false) && argIo io (n + 1) r
def M.fn (io : Option Nat) (F : List LV → FR) (g : M (List Arg)) : M D := M.bind g fun as ρ => match lvsOf ρ as with
  | none => .bad
  | some lvs => if argIo io 0 as = true then (match F lvs with
      | .ret x o => (match putO io as o ρ with
        | some ρ' => .ok x ρ'
        | none => .bad)
      | .retL xs o => (match putO io as o ρ with
        | some ρ' => .ok (.list xs) ρ'
        | none => .bad)
      | _ => .bad) else .bad
/-- the call of a def that hands back a new list -/
def M.fnL (io : Option Nat) (F : List LV → FR) (g : M (List Arg)) : M (List D) := M.bind g fun as ρ => match lvsOf ρ as with
  | none => .bad
  | some lvs => if argIo io 0 as = true then (match F lvs with
      | .retL xs o => (match putO io as o ρ with
        | some ρ' => .ok xs ρ'
        | none => .bad)
      | _ => .bad) else .bad
section
variable {K : PySem.W.Frag} {C : Fc} {Hf H Hf' H' : Hp} {σ : L2.St} {ρ : DE}
theorem SR.called (s : SR K C Hf H σ ρ) {i : Nat} {a : Addr} {us : List V} {xs ys : List D} (hi : ρ[i]? = some (some (.own ys))) (ha : σ[i]? = some (some (.ref a))) (e : Ex Hf Hf') (e' : Ex Hf' H') (hn : ∀ b u, Hf' b = some u → Hf b = some u ∨ H b = none)
    (hk : ∀ b u, H b = some u → b ≠ a → H' b = some u) (h1 : Hf' a = none) (h2 : H' a = some (.lst us)) (h3 : DpAll K Hf' us xs) : SR K C Hf' H' σ (ρ.set i (some (.own xs))) := by
  obtain ⟨a', ws, g1, g2, g3, g4, g5, g6⟩ := s.own i ys hi
  rw [ha] at g1
  cases g1
  have hown : ∀ {j}, IsOwn (ρ.set i (some (.own xs))) j → IsOwn ρ j := fun {j} ⟨zs, h, o⟩ => by
    rcases get_set h with ⟨e, _, _⟩ | ⟨_, h⟩
    · subst e; exact ⟨_, hi, rfl⟩
    · exact ⟨zs, h, o⟩
  refine ⟨by simpa using s.len, s.e0.trans e, e', fun b o h => ?_, fun b o h q => ?_, fun q hq => ?_, fun p hp => ?_, fun j y hj => ?_, fun j zs hj oj => ?_, fun j k b hne h1 h2 h3 h4 => s.apart j k b hne (hown h1) (hown h2) h3 h4⟩
  · rcases hn b o h with q | q
    · exact s.fresh b o q
    · exact .inr (s.h0 q)
  · refine hk b o (s.keep b o h q) fun eb => ?_
    subst eb
    rcases g5 with g5 | ⟨q', z1, z2⟩
    · rw [g5] at h; cases h
    · exact q q' z1 z2
  · obtain ⟨z1, zs, z2⟩ := s.pin q hq
    refine ⟨z1, ?_⟩
    by_cases ei : i = q.1
    · subst ei
      exact ⟨xs, List.getElem?_set_self (List.getElem?_eq_some_iff.mp hi).1⟩
    · exact ⟨zs, by rw [List.getElem?_set_ne ei]; exact z2⟩
  · obtain ⟨z1, z2⟩ := s.no p hp
    refine ⟨?_, hk _ _ z2 (Ne.symm (g6 p hp))⟩
    cases q : Hf' p.1 with
    | none => rfl
    | some o =>
      rcases hn _ _ q with z | z
      · rw [z1] at z; cases z
      · rw [z2] at z; cases z
  · rcases get_set hj with ⟨_, e2, _⟩ | ⟨ne, hj⟩
    · cases e2
    · obtain ⟨v, z1, z2⟩ := s.val j y hj
      exact ⟨v, z1, Dp.mono e _ _ z2⟩
  · rcases get_set hj with ⟨ej, e2, hl⟩ | ⟨ne, hj⟩
    · subst ej
      cases e2
      exact ⟨a, _, ha, h1, h2, ⟨us, rfl, h3⟩, g5, g6⟩
    · obtain ⟨b, ws', q1, q2, q3, q4, q5, q6⟩ := s.ownd j zs hj oj
      have nb : b ≠ a := fun eb => by
        subst eb
        exact s.apart i j b ne ⟨_, hi, rfl⟩ ⟨zs, hj, oj⟩ ha q1
      refine ⟨b, ws', q1, ?_, hk _ _ q3 nb, q4.mono e, q5, q6⟩
      cases q : Hf' b with
      | none => rfl
      | some o =>
        rcases hn _ _ q with z | z
        · rw [q2] at z; cases z
        · rw [q3] at z; cases z
theorem args_ok {io : Option Nat} (s : SR K C Hf H σ ρ) : ∀ {vs : List V} {as : List Arg} {lvs : List LV} {n : Nat}, ArgsRel K σ Hf vs as → lvsOf ρ as = some lvs → argIo io n as = true →
    vs.length = lvs.length ∧ ∀ (i : Nat) (lv : LV), lvs[i]? = some lv → ∃ v, vs[i]? = some v ∧ match lv with
      | .d x => Dp K Hf v x
      | .own xs => io = some (n + i) ∧ ∃ a us, v = .ref a ∧ Hf a = none ∧ H a = some (.lst us) ∧ DpAll K Hf us xs
      | .dct _ => False
  | _, _, lvs, n, .nil, e, _ => by cases e; exact ⟨rfl, fun i lv h => by simp at h⟩
  | _, _, lvs, n, .dat (x := x) (vs := vs) (as := as) h t, e, ha => by
    unfold lvsOf at e
    cases q : lvsOf ρ as with
    | none => rw [q] at e; cases e
    | some l =>
      rw [q] at e
      cases e
      obtain ⟨h1, h2⟩ := args_ok (io := io) (n := n + 1) s t q ha
      refine ⟨by simp [h1], fun i lv hi => ?_⟩
      cases i with
      | zero => cases hi; exact ⟨_, rfl, h⟩
      | succ i =>
        obtain ⟨v, g1, g2⟩ := h2 i lv (by simpa using hi)
        refine ⟨v, by simpa using g1, ?_⟩
        cases lv with
        | d y => exact g2
        | own xs => exact ⟨by rw [g2.1]; congr 1; omega, g2.2⟩
        | dct kvs => exact g2.elim
  | _, _, lvs, n, .slot (v := v) (i := j) (vs := vs) (as := as) h t, e, ha => by
    unfold lvsOf at e
    cases ho : ownAt ρ j with
    | none => rw [ho] at e; cases e
    | some xs =>
      rw [ho] at e
      cases q : lvsOf ρ as with
      | none => rw [q] at e; cases e
      | some l =>
        rw [q] at e
        cases e
        unfold argIo at ha
        rw [Bool.and_eq_true] at ha
        obtain ⟨h1, h2⟩ := args_ok (io := io) (n := n + 1) s t q ha.2
        refine ⟨by simp [h1], fun i lv hi => ?_⟩
        cases i with
        | zero =>
          cases hi
          obtain ⟨a, us, z1, z2, z3, z4, _⟩ := s.own j xs (ownAt_get ho)
          rw [h] at z1
          cases z1
          refine ⟨_, rfl, ?_, a, us, rfl, z2, z3, z4⟩
          cases io with
          | none => cases ha.1
          | some k => rw [of_decide_eq_true ha.1]; rfl
        | succ i =>
          obtain ⟨v, g1, g2⟩ := h2 i lv (by simpa using hi)
          refine ⟨v, by simpa using g1, ?_⟩
          cases lv with
          | d y => exact g2
          | own xs => exact ⟨by rw [g2.1]; congr 1; omega, g2.2⟩
          | dct kvs => exact g2.elim
theorem slot_get : ∀ {vs : List V} {as : List Arg} {k i : Nat}, ArgsRel K σ Hf vs as → as[k]? = some (.slot i) → ∃ v, vs[k]? = some v ∧ σ[i]? = some (some v)
  | _, _, k, i, .nil, e => by simp at e
  | _, _, 0, i, .dat _ _, e => by cases e
  | _, _, 0, i, .slot h _, e => by cases e; exact ⟨_, rfl, h⟩
  | _, _, k + 1, i, .dat _ t, e => by
    obtain ⟨v, h1, h2⟩ := slot_get t (by simpa using e)
    exact ⟨v, by simpa using h1, h2⟩
  | _, _, k + 1, i, .slot _ t, e => by
    obtain ⟨v, h1, h2⟩ := slot_get t (by simpa using e)
    exact ⟨v, by simpa using h1, h2⟩
theorem lvs_slot {ρ : DE} : ∀ {as : List Arg} {lvs : List LV} {k i : Nat}, lvsOf ρ as = some lvs → as[k]? = some (.slot i) → ∃ xs, ownAt ρ i = some xs
  | [], _, k, i, _, h => by simp at h
  | .dat x :: r, lvs, k, i, e, h => by
    unfold lvsOf at e
    cases q : lvsOf ρ r with
    | none => rw [q] at e; cases e
    | some l =>
      cases k with
      | zero => cases h
      | succ k => exact lvs_slot q (by simpa using h)
  | .slot j :: r, lvs, k, i, e, h => by
    unfold lvsOf at e
    cases ho : ownAt ρ j with
    | none => rw [ho] at e; cases e
    | some xs =>
      rw [ho] at e
      cases q : lvsOf ρ r with
      | none => rw [q] at e; cases e
      | some l =>
        cases k with
        | zero => cases h; exact ⟨xs, ho⟩
        | succ k => exact lvs_slot q (by simpa using h)
end
section
variable {X : Cx} {C : Fc} {k : Nat} {f : Addr} {fd : FuncData} {ps : List Str} {io : Option Nat} {F : List LV → FR} {x : Str} {p pos : Pos} {e : Expr} {es : List Expr} {ga : M (List Arg)}
theorem put_go {vs : List V} {as : List Arg} {lvs : List LV} {o : Option (List D)} {σ : L2.St} {H H' Hf1 Hf' : Hp} {ρ1 ρ2 : DE} (s1 : SR X.K C Hf1 H σ ρ1) (d1 : ArgsRel X.K σ Hf1 vs as) (hl : lvsOf ρ1 as = some lvs) (hp : putO io as o ρ1 = some ρ2) (e2 : Ex Hf1 Hf') (e3 : Ex Hf' H') (hn : ∀ b u, Hf' b = some u → Hf1 b = some u ∨ H b = none)
    (hk : ∀ b u, H b = some u → (∀ q, ioA io vs = some q → b ≠ q.2) → H' b = some u) (ho : OutOk X.K Hf' H' (ioA io vs) o) : SR X.K C Hf' H' σ ρ2 ∧ ∀ j, IsOwn ρ2 j → IsOwn ρ1 j := by
  unfold putO at hp
  cases io with
  | none =>
    cases hp
    exact ⟨s1.grow ⟨e2, fun b u hb => hk b u hb (fun q hq => by cases hq), e3, hn⟩, fun _ h => h⟩
  | some kk =>
    simp only at hp
    split at hp
    · rename_i i xs hs
      cases hp
      obtain ⟨v0, b1, b2⟩ := slot_get d1 hs
      obtain ⟨zs, ho2⟩ := lvs_slot hl hs
      obtain ⟨a, us, z1, z2, z3, z4, _⟩ := s1.own i zs (ownAt_get ho2)
      rw [b2] at z1
      cases z1
      have hA : ioA (some kk) vs = some (kk, a) := by
        unfold ioA
        simp only [b1]
      rw [hA] at hk ho
      obtain ⟨o1, us2, o2, o3⟩ := ho
      refine ⟨s1.called (ownAt_get ho2) b2 e2 e3 hn (fun b u hb ne => hk b u hb (fun q hq => by cases hq; exact ne)) o1 o2 o3, fun j ⟨ws, hj, oj⟩ => ?_⟩
      rcases get_set hj with ⟨e, _, _⟩ | ⟨_, hj⟩
      · subst e; exact ⟨_, ownAt_get ho2, rfl⟩
      · exact ⟨ws, hj, oj⟩
    · cases hp
theorem fresh_rel {σ : L2.St} {H H' Hf1 Hf' : Hp} {ρ1 ρ2 : DE} {a : Addr} {us : List V} {xs : List D} (s1 : SR X.K C Hf1 H σ ρ1) (hso : ∀ j, IsOwn ρ2 j → IsOwn ρ1 j) (z1 : Hf' a = none) (z2 : H' a = some (.lst us)) (z3 : DpAll X.K Hf' us xs) (z4 : H a = none) : relL X.K C σ Hf' H' ρ2 (.ref a) xs := by
  refine ⟨a, us, rfl, z1, z2, z3, s1.h0 z4, fun p hp e => ?_, fun j hj e => ?_⟩
  · obtain ⟨_, h⟩ := s1.no p hp
    rw [e, h] at z4
    cases z4
  · obtain ⟨ys, hj, oj⟩ := hso j hj
    obtain ⟨b, ws, h1, _, h3, _⟩ := s1.ownd j ys hj oj
    rw [h1] at e
    cases e
    rw [h3] at z4
    cases z4
theorem fn_go {E : XK} {σ : L2.St} {H : Hp} {Q : VK} (h : tG X.K C (relD X.K) (M.fn io F ga) σ H Q) : tCall (spF X.K io F) [] E (tG X.K C (relA X.K) ga) σ H Q := by
  obtain ⟨Hf, ρ, s, h⟩ := h
  refine tG_bind s h fun vs as H1 Hf1 ρ1 e1 s1 d1 h1 => ?_
  rw [List.append_nil]
  cases hl : lvsOf ρ1 as with
  | none => simp only [hl] at h1; exact (show False from h1).elim
  | some lvs =>
    simp only [hl] at h1
    by_cases hio : argIo io 0 as = true
    case neg => rw [if_neg hio] at h1; exact (show False from h1).elim
    rw [if_pos hio] at h1
    obtain ⟨a1, a2⟩ := args_ok (io := io) (n := 0) s1 d1 hl hio
    refine ⟨Hf1, lvs, s1.e1, ⟨a1, fun i lv hi => ?_⟩, ?_⟩
    · obtain ⟨v, g1, g2⟩ := a2 i lv hi
      refine ⟨v, g1, ?_⟩
      cases lv with
      | d y => exact g2
      | own xs => exact ⟨by rw [g2.1, Nat.zero_add], g2.2⟩
      | dct kvs => exact g2.elim
    · cases hF : F lvs with
      | bad => simp only [hF] at h1; exact (show False from h1).elim
      | ex e o => simp only [hF] at h1; exact (show False from h1).elim
      | ret y o =>
        simp only [hF] at h1 ⊢
        intro v H' Hf' e2 e3 hn hk ho hd
        cases hp : putO io as o ρ1 with
        | none => simp only [hp] at h1; exact (show False from h1).elim
        | some ρ2 =>
          simp only [hp] at h1
          exact h1 v H' Hf' e2 (put_go s1 d1 hl hp e2 e3 hn hk ho).1 hd
      | retL ys o =>
        simp only [hF] at h1 ⊢
        intro a us H' Hf' e2 e3 hn hk ho z1 z2 z3 z4
        cases hp : putO io as o ρ1 with
        | none => simp only [hp] at h1; exact (show False from h1).elim
        | some ρ2 =>
          simp only [hp] at h1
          obtain ⟨s2, hso⟩ := put_go s1 d1 hl hp e2 e3 hn hk ho
          obtain ⟨Hf3, e3, s3, d3⟩ := s2.known (fresh_rel s1 hso z1 z2 z3 z4)
          exact h1 (.ref a) H' Hf3 (e2.trans e3) s3 d3
theorem fnL_go {E : XK} {σ : L2.St} {H : Hp} {Q : VK} (h : tG X.K C (relL X.K C) (M.fnL io F ga) σ H Q) : tCall (spF X.K io F) [] E (tG X.K C (relA X.K) ga) σ H Q := by
  obtain ⟨Hf, ρ, s, h⟩ := h
  refine tG_bind s h fun vs as H1 Hf1 ρ1 e1 s1 d1 h1 => ?_
  rw [List.append_nil]
  cases hl : lvsOf ρ1 as with
  | none => simp only [hl] at h1; exact (show False from h1).elim
  | some lvs =>
    simp only [hl] at h1
    by_cases hio : argIo io 0 as = true
    case neg => rw [if_neg hio] at h1; exact (show False from h1).elim
    rw [if_pos hio] at h1
    obtain ⟨a1, a2⟩ := args_ok (io := io) (n := 0) s1 d1 hl hio
    refine ⟨Hf1, lvs, s1.e1, ⟨a1, fun i lv hi => ?_⟩, ?_⟩
    · obtain ⟨v, g1, g2⟩ := a2 i lv hi
      refine ⟨v, g1, ?_⟩
      cases lv with
      | d y => exact g2
      | own xs => exact ⟨by rw [g2.1, Nat.zero_add], g2.2⟩
      | dct kvs => exact g2.elim
    · cases hF : F lvs with
      | bad => simp only [hF] at h1; exact (show False from h1).elim
      | ex e o => simp only [hF] at h1; exact (show False from h1).elim
      | ret y o => simp only [hF] at h1; exact (show False from h1).elim
      | retL ys o =>
        simp only [hF] at h1 ⊢
        intro a us H' Hf' e2 e3 hn hk ho z1 z2 z3 z4
        cases hp : putO io as o ρ1 with
        | none => simp only [hp] at h1; exact (show False from h1).elim
        | some ρ2 =>
          simp only [hp] at h1
          obtain ⟨s2, hso⟩ := put_go s1 d1 hl hp e2 e3 hn hk ho
          exact h1 (.ref a) H' Hf' e2 s2 (fresh_rel s1 hso z1 z2 z3 z4)
theorem pd_fn (G : FnOk X.prog X.w X.K X.mg X.base CX0 k f fd ps (spF X.K io F)) (hr : Room k X.A) (hm : X.mg x = some (.ref f)) (hk : PySem.W.keepIn X.K (.ref f) = true) (hb : Binds X.K fd ps []) (ha : PDa X C (e :: es) ga) (hg : Gl X x := by rfl)
    (hdb : (x == ("__debug__" : Str)) = false := by decide) (he : starEach (e :: es) X.env = (false, eval e X.env) :: starEach es X.env := by rfl) (hpl : (backTo pos (starEach es X.env)).any (·.1) = false := by rfl) : PDe X C (.Call (.Name x p) (e :: es) [] pos) (M.fn io F ga) :=
  pe_imp (pe_call G hr hg hm hk hb .nil pass0 ha hdb he hpl) fun _ _ _ h => fn_go h
theorem pdl_fn (G : FnOk X.prog X.w X.K X.mg X.base CX0 k f fd ps (spF X.K io F)) (hr : Room k X.A) (hm : X.mg x = some (.ref f)) (hk : PySem.W.keepIn X.K (.ref f) = true) (hb : Binds X.K fd ps []) (ha : PDa X C (e :: es) ga) (hg : Gl X x := by rfl)
    (hdb : (x == ("__debug__" : Str)) = false := by decide) (he : starEach (e :: es) X.env = (false, eval e X.env) :: starEach es X.env := by rfl) (hpl : (backTo pos (starEach es X.env)).any (·.1) = false := by rfl) : PDl X C (.Call (.Name x p) (e :: es) [] pos) (M.fnL io F ga) :=
  pe_imp (pe_call G hr hg hm hk hb .nil pass0 ha hdb he hpl) fun _ _ _ h => fnL_go h
end
/-- a weaker F (it says less) -/
theorem spF_le {K : PySem.W.Frag} {io : Option Nat} {F F' : List LV → FR} (h : ∀ lvs, F' lvs = .bad ∨ F' lvs = F lvs) : ∀ vs H Q E, spF K io F' vs H Q E → spF K io F vs H Q E := fun vs H Q E ⟨Hf, lvs, h1, h2, h3⟩ => by
  refine ⟨Hf, lvs, h1, h2, ?_⟩
  rcases h lvs with e | e
  · rw [e] at h3; exact h3.elim
  · rw [← e]; exact h3
end PD

set_option maxRecDepth 100000
set_option maxHeartbeats 4000000
set_option autoImplicit false
namespace PD
open PySem PySem.Spec L2
open Evl (Ex)
theorem tuple_mul1 (l : Addr) (items : Array Value) (n : Nat) (dd : Option Addr) (sl : Array (Option Value)) (x : Int) (u : Tok) (c0 : (decide (x < -(2 ^ 63)) || decide (x ≥ 2 ^ 63)) = false) (c1 : (items.isEmpty || x == 1) = true) :
    Meets (Builtin.«tuple.__mul__» ⟨[.ref l, .int x u], []⟩) (fun _ R s => s.heap.get? l = some { cls := .type "tuple", dict := dd, data := .seq items n, slots := sl } ∧
      R (.ok (.ret (Value.ref l))) s) :=
  .of_wp fun prog w A R s h => by
    obtain ⟨hp, g, d, tk, os⟩ := s
    obtain ⟨hl, h⟩ := h
    have f1 := AutoSeq1.idx_int
    wp_walk using wpAny_loadPart' hl
    refine wpAny_ite_false (decide_eq_false (by rw [c0]; exact Bool.false_ne_true)) ?_
    wp_walk using wpAny_loadPart' hl
    exact ⟨_, rfl, h⟩
/-- tuple * int that is the tuple itself -/
def rRepS (K : PySem.W.Frag) : R2 := fun x y H Q => ∃ l k xs, x = .ref l ∧ y = .int k ∧ SqT K H l xs ∧ (xs = [] ∨ k = 1) ∧ -1000 ≤ k ∧ k ≤ 1000 ∧ Q (.ref l) H
theorem op_repS {X : Cx} : OpR X (binaryOp .Mult) (rRepS X.K) := by
  intro pins s σ H x y v u Q I rx ry h
  obtain ⟨l, k, xs, rfl, rfl, hT, hne, h1, h2, q⟩ := h
  cases rx
  obtain ⟨t, rfl⟩ := ry
  obtain ⟨its, r, ⟨⟨cls, dd, data, sl⟩, ho, hc, n, hd⟩, hs⟩ := I.tuple hT
  simp only at hc hd
  subst hc hd
  have c0 : (decide (k < -(2 ^ 63)) || decide (k ≥ 2 ^ 63)) = false := by
    rw [decide_eq_false (by omega), decide_eq_false (by omega)] <;> rfl
  have c1 : (its.toArray.isEmpty || k == 1) = true := by
    rcases hne with e | e
    · subst e
      cases r
      rfl
    · subst e
      simp
  exact wpAny_binaryOp_repeat_ref (T := "tuple") (U := "int") (by decide) ⟨_, ho, rfl⟩ (fun s' => typeIs_int s' k t) noFill_tuple_mul F.fills_int_mul F.slot_int_rmul repeat_tuple F.slot_int_index.lookup
    (call_meets F.slot_int_rmul (typeIs_int s k t) F.entry_int_rmul (F.args_int_rmul_2 _ _) (int_rmul_tuple k t l its.toArray n dd sl)
      ⟨ho, rfl, ⟨_, ho, rfl⟩, call_meets F.slot_tuple_mul ⟨_, ho, rfl⟩ F.entry_tuple_mul (F.args_tuple_mul_2 _ _) (tuple_mul1 l its.toArray n dd sl k t c0 c1) ⟨ho, ⟨.ref l, H, I, rfl, q⟩⟩⟩)
def repTD : D → D → Option D
  | .tuple xs, .int k => if xs = [] ∧ -1000 ≤ k ∧ k ≤ 1000 then some (.tuple []) else if 1 ≤ k ∧ k ≤ 1000 ∧ xs.length ≤ 1000 then some (.tuple (List.replicate k.toNat xs).flatten) else none
  | _, _ => none
section
variable {X : Cx} {C : Fc} {pos : Pos} {a b : Expr} {f g : M D}
theorem repT_ok : Op2 X.K (fun x y H Q => rRepT X.K x y H Q ∨ rRepS X.K x y H Q) repTD := fun C Hf H σ ρ v w x y z Q s d1 d2 e q => by
  cases x with
  | tuple xs =>
    cases y with
    | int k =>
      simp only [repTD] at e
      obtain ⟨p, us, rfl, h1, h2⟩ := d1.tup_of
      have hl := h2.length
      split at e
      · rename_i h
        cases e
        obtain ⟨rfl, h3, h4⟩ := h
        have : us = [] := List.eq_nil_of_length_eq_zero hl
        subst this
        exact .inr ⟨p, k, [], rfl, d2.int_of, Evl.ex_t s.e1 h1, .inl rfl, h3, h4, q.now s (.tup h1 .nil)⟩
      · split at e
        · rename_i hn h
          cases e
          obtain ⟨h3, h4, h5⟩ := h
          by_cases hk : k = 1
          · subst hk
            have e1 : (List.replicate (1 : Int).toNat xs).flatten = xs := by simp
            rw [e1] at q
            exact .inr ⟨p, 1, us, rfl, d2.int_of, Evl.ex_t s.e1 h1, .inr rfl, by omega, by omega, q.now s (.tup h1 h2)⟩
          · refine .inl ⟨p, k, us, rfl, d2.int_of, Evl.ex_t s.e1 h1, fun e => ?_, by omega, h4, by omega, fun t ht => ?_⟩
            · subst e
              have : xs = [] := List.eq_nil_of_length_eq_zero hl.symm
              exact hn ⟨this, by omega, h4⟩
            · have gr := Grow.new (o := .tup (List.replicate k.toNat us).flatten) s.e1 ht
              exact q.nowG s gr (.tup (SqT.of upd_same) (DpAll.rep _ (DpAll.mono gr.f _ _ h2)))
        · cases e
    | _ => cases e
  | _ => cases e
/-- a if t else b, as a test -/
theorem pdt_if {c : Expr} {p q r : M Bool} (hc : PDt X C c p) (ha : PDt X C a q) (hb : PDt X C b r) : PDt X C (.IfExp c a b pos) (M.ite p q r) := ⟨fun pins sh σ H Q I ⟨Hf, ρ, s, h⟩ => by
  refine PyProof.Rows.isTrue_IfExp (thn (hc.run pins sh σ H (fun t H1 => if t = true then tG X.K C relB q σ H1 Q else tG X.K C relB r σ H1 Q) I (tG_bind s h fun v x H1 Hf1 ρ1 e1 s1 d1 h1 => ?_)) fun t s2 ⟨H2, I2, q2⟩ => ?_)
  · have d1 : v = x := d1
    subst d1
    cases v with
    | true => exact L2.iteT ⟨Hf1, ρ1, s1, h1⟩
    | false => exact L2.iteF ⟨Hf1, ρ1, s1, h1⟩
  · cases t with
    | true => exact ha.run pins s2 σ H2 Q I2 q2
    | false => exact hb.run pins s2 σ H2 Q I2 q2⟩
/-- a constant of the module -/
theorem pd_const {x : Str} {u : Value} {d : D} (hm : X.mg x = some u) (hr : ∃ v, RelV v u ∧ ∀ H, Dp X.K H v d) (hg : Gl X x := by rfl) (hdb : (x == ("__debug__" : Str)) = false := by decide) : PDe X C (.Name x pos) (M.ret d) := by
  obtain ⟨v, r, hd⟩ := hr
  exact pd_glob hg hm r hd hdb
theorem pd_mulT (ha : PDe X C a f) (hb : PDe X C b g) : PDe X C (.BinOp a .Mult b pos) (M.op2 repTD f g) := pd_op (op_repT.or op_repS) repT_ok ha hb
end
section
variable {X : Cx} {C : Fc} {pos : Pos} {tg iter elt : Expr} {ifs : List Expr} {scope : Scope} {own : List (Str × Nat)} {it : M (List D)} {G : Gt} {sl : List Nat} {tt : M Bool} {te : M D}
/-- name = [..], the list a datum -/
theorem pd_setLcF {i : Nat} {y : Str} {py spos : Pos} (hpi : ∀ q, C.io = some q → q.1 ≠ i) (hp : ∀ q, C.io = some q → q.1 ∉ own.map (·.2)) (hsl : ∀ j ∈ sl, j ∈ own.map (·.2)) (hc : X.calm = true) (hN : X.N.Nodup) (ok : BlkOk X.N X.env.scope scope own) (hi : PDi X C tg iter it)
    (hg : ∀ (C' : Fc), C'.sg = C.sg → ∀ (s : Shared) (H : Hp) (Cc : Addr) (cl : List (Str × Addr)) (fp : List Addr), PDg (X.blk s H scope (compEnvC scope cl Cc X.env) fp) C' tg G sl)
    (ht : ∀ (C' : Fc), C'.sg = C.sg → ∀ (s : Shared) (H : Hp) (Cc : Addr) (cl : List (Str × Addr)) (fp : List Addr), PDts (X.blk s H scope (compEnvC scope cl Cc X.env) fp) C' ifs tt)
    (he : ∀ (C' : Fc), C'.sg = C.sg → ∀ (s : Shared) (H : Hp) (Cc : Addr) (cl : List (Str × Addr)) (fp : List Addr), PDe (X.blk s H scope (compEnvC scope cl Cc X.env) fp) C' elt te)
    (hsw : swapsWith (.ListComp elt [⟨tg, iter, ifs, 0⟩] scope pos) (some (.Name y py)) spos.line X.env = pure true)
    (hy : X.N[i]? = some y := by rfl) (hyl : X.env.scope.names.lookup y = some .local := by rfl)
    (hs : ∀ x, foldedSetIterable iter X.env x = pure x := by intro _; rfl) :
    PDs X C (.Assign [.Name y py] (.ListComp elt [⟨tg, iter, ifs, 0⟩] scope pos) spos) (S.asg i (M.known (M.lc it (own.map (·.2)) G tt te))) :=
  ps_imp (ps_setLc hc hN hy hyl hsw hi ok (fun s H Cc cl fp => pg_any fun C' e => hg C' e s H Cc cl fp) (fun s H Cc cl fp => pts_any fun C' e => ht C' e s H Cc cl fp) (fun s H Cc cl fp => pe_any fun C' e => he C' e s H Cc cl fp) hs) fun E σ H ⟨Hf, ρ, s, q⟩ => by
    refine lc_go (it := it) (G := G) (sl := sl) (tt := tt) (te := te) hp hsl ⟨Hf, ρ, s, ?_⟩
    unfold S.asg S.ofM M.known M.bind at q
    cases hf : M.lc it (own.map (·.2)) G tt te ρ with
    | ok x ρ1 =>
      rw [hf] at q
      intro v H1 Hf1 e1 s1 d1
      obtain ⟨Hf2, e2, s2, d2⟩ := s1.known d1
      exact PostS.nx (PostS.mono (e1.trans e2) q) (s2.setD d2 hpi)
    | ex e ρ1 =>
      rw [hf] at q
      exact fun H' Hf'' e' s' => q σ H' Hf'' e' s'
    | bad => rw [hf] at q; exact q
end
end PD

set_option maxRecDepth 100000
set_option maxHeartbeats 4000000
set_option autoImplicit false
namespace L2
open PySem PySem.Spec PyProof.Rows PD
/-! ### dicts with nested keys, by their raw entries -/
section
variable {X : Cx} {pins : List (Addr × Obj)} {σ : St} {H : Hp} {s : Shared}
mutual
theorem key_dp (I : Inv X pins σ H s) : ∀ (x : PyData) (v : V) (u : Value) (k : NestedKey), Dp X.K H v x → RelV v u → nk x = some k → NestedIs s.heap k u
  | .none, _, _, k, h, r, e => by cases h; cases r; cases e; exact .none
  | .bool b, _, _, k, h, r, e => by cases h; cases r; cases e; exact .bool rfl
  | .int i, _, _, k, h, r, e => by cases h; obtain ⟨t, rfl⟩ := r; cases e; exact .int i t
  | .str x, _, _, k, h, r, e => by cases h; obtain ⟨t, rfl⟩ := r; cases e; exact .text x t
  | .list ds, _, _, k, h, r, e => by cases e
  | .dict ds, _, _, k, h, r, e => by cases e
  | .tuple ds, _, _, k, h, r, e => by
    cases h with
    | tup hs ha =>
      cases r
      obtain ⟨its, rv, ⟨o, ho, hc, n, hd⟩, _⟩ := I.tuple hs
      unfold nk at e
      cases q : nkAll ds with
      | none => rw [q] at e; cases e
      | some ks =>
        rw [q] at e
        cases e
        exact .tup ho hc hd (by simpa using key_dps I ds _ its ks ha rv q)
theorem key_dps (I : Inv X pins σ H s) : ∀ (ds : List PyData) (vs : List V) (us : List Value) (ks : List NestedKey), DpAll X.K H vs ds → Vals vs us → nkAll ds = some ks → NestedAll s.heap ks us
  | [], _, _, ks, h, r, e => by cases h; cases r; cases e; exact .nil
  | d :: ds, _, _, ks, h, r, e => by
    cases h with
    | cons h1 h2 =>
      cases r with
      | cons r1 r2 =>
        unfold nkAll at e
        cases q : nk d with
        | none => rw [q] at e; cases e
        | some k =>
          rw [q] at e
          simp only [Option.bind_some] at e
          cases q2 : nkAll ds with
          | none => rw [q2] at e; cases e
          | some ks' =>
            rw [q2] at e
            cases e
            exact .cons (key_dp I d _ _ k h1 r1 q) (key_dps I ds _ _ ks' h2 r2 q2)
end
/-- the tuple y is the key k -/
def KeyIs (K : PySem.W.Frag) (H : Hp) (y : V) (k : NestedKey) : Prop := (∃ b, y = .ref b) ∧ ∃ x, Dp K H y x ∧ nk x = some k ∧ k.depth ≤ 8
theorem KeyIs.is (I : Inv X pins σ H s) {b : Addr} {k : NestedKey} (h : KeyIs X.K H (.ref b) k) : (nestedKind X.prog X.w).is s.heap k b := by
  obtain ⟨_, x, d, e, hd⟩ := h
  exact ⟨key_dp I x _ _ k d rfl e, hd⟩
theorem KeyIs.mono {K : PySem.W.Frag} {H H' : Hp} (e : Evl.Ex H H') {y : V} {k : NestedKey} (h : KeyIs K H y k) : KeyIs K H' y k := by
  obtain ⟨a, x, d, h⟩ := h
  exact ⟨a, x, Dp.mono e _ _ d, h⟩
def KeysAre (K : PySem.W.Frag) (H : Hp) (xs : List (NestedKey × Addr × Value)) : Prop := ∀ z ∈ xs, KeyIs K H (.ref z.2.1) z.1
theorem raw_dict (I : Inv X pins σ H s) {a : Addr} {xs : List (NestedKey × Addr × Value)} (e : H a = some (.ext (RawN X.w a xs))) (hk : KeysAre X.K H xs) :
    xs.length ≤ sizeLine ∧ (a == sysModules) = false ∧ s.heap.DictOfH (nestedKind X.prog X.w) a xs := by
  obtain ⟨⟨h1, h2, o, es, ep, h3, h4, h5, h6, h7⟩, _⟩ := (show ObjOk X.prog X.w H s.heap a (.ext (RawN X.w a xs)) from I.hok a _ e)
  exact ⟨h1, h2, o, es, ep, h3, h4, h5, h6, fun z hz => (hk z hz).is I, h7⟩
/-- so, or an empty one -/
def RawAt (w : World) (H : Hp) (a : Addr) (xs : List (NestedKey × Addr × Value)) : Prop := H a = some (.ext (RawN w a xs)) ∨ (H a = some (.dK []) ∧ xs = [])
theorem raw_at (I : Inv X pins σ H s) {a : Addr} {xs : List (NestedKey × Addr × Value)} (e : RawAt X.w H a xs) (hk : KeysAre X.K H xs) :
    (a == sysModules) = false ∧ s.heap.DictOfH (nestedKind X.prog X.w) a xs ∧ Mut (H a) := by
  rcases e with e | ⟨e, rfl⟩
  · obtain ⟨z, hd, dd⟩ := raw_dict I e hk
    exact ⟨hd, dd, by rw [e]; exact True.intro⟩
  · obtain ⟨z, hd, vs, rel, o, es, ep, h1, h2, h3, _, h4, _⟩ := dk_of I.hok e
    cases rel
    have h5 : es.toList = [] := by
      generalize es.toList = l at h4
      cases l with
      | nil => rfl
      | cons e l => cases h4
    exact ⟨hd, ⟨o, es, ep, h1, h2, h3, h5, (fun _ hz => by cases hz), List.nodup_nil⟩, by rw [e]; exact True.intro⟩
theorem raw_new {w : World} {P : Program} {H' : Hp} {h' : Heap} {a : Addr} {xs : List (NestedKey × Addr × Value)} (z : xs.length ≤ sizeLine) (hd : (a == sysModules) = false) (dd : h'.DictOfH (nestedKind P w) a xs) : ObjOk P w H' h' a (.ext (RawN w a xs)) := by
  obtain ⟨o, es, ep, h3, h4, h5, h6, _, h7⟩ := dd
  refine ⟨⟨z, hd, o, es, ep, h3, h4, h5, h6, h7⟩, ⟨o, h3⟩, fun h1 h2 g hh => ?_⟩
  obtain ⟨g1, g2, o, es, ep, g3, g4⟩ := g
  exact ⟨g1, g2, o, es, ep, hh o g3, g4⟩
/-- the dict at a holds at the key y this (as the entries say) -/
def DAt (w : World) (K : PySem.W.Frag) (H : Hp) (a : Addr) (y : V) (xs : List (NestedKey × Addr × Value)) (k : NestedKey) : Prop :=
  RawAt w H a xs ∧ KeysAre K H xs ∧ KeyIs K H y k
variable {a : Addr} {y v : V} {u r : Value} {A : Around} {E : Value → Shared → Prop} {xs : List (NestedKey × Addr × Value)} {k : NestedKey}
theorem room8 (hu : A.units + 9 < cLine) : (nestedKind X.prog X.w).room A.in1 := by
  show A.units + 1 + 8 < cLine
  omega
theorem n_getItem {Q : Value → Shared → Prop} {p : Addr × Value} (hu : A.units + 9 < cLine) (I : Inv X pins σ H s) (g : DAt X.w X.K H a y xs k) (ry : RelV y u) (hp : atKey xs k = some p) (h : ∀ s', Inv X pins σ H s' → Q p.2 s') :
    wpAny (model X.prog X.w) A (getItem (.ref a) u) Q E s := by
  obtain ⟨e, ks, kk⟩ := g
  obtain ⟨b, rfl⟩ := kk.1
  cases (show u = Value.ref b from ry)
  obtain ⟨hd, dd, _⟩ := raw_at I e ks
  exact wpAny_getItem_heap (room8 hu) (kk.is I) dd hp (h _ (I.tok _))
theorem n_in {Q : Value → Shared → Prop} (hu : A.units + 9 < cLine) (I : Inv X pins σ H s) (g : DAt X.w X.K H a y xs k) (ry : RelV y u) (h : ∀ s', Inv X pins σ H s' → Q (.bool (atKey xs k).isSome) s') :
    wpAny (model X.prog X.w) A (compareOp .In u (.ref a)) Q E s := by
  obtain ⟨e, ks, kk⟩ := g
  obtain ⟨b, rfl⟩ := kk.1
  cases (show u = Value.ref b from ry)
  obtain ⟨hd, dd, _⟩ := raw_at I e ks
  exact wpAny_in_heap (room8 hu) (kk.is I) hd dd (h _ (I.tok _))
theorem n_notIn {Q : Value → Shared → Prop} (hu : A.units + 9 < cLine) (I : Inv X pins σ H s) (g : DAt X.w X.K H a y xs k) (ry : RelV y u) (h : ∀ s', Inv X pins σ H s' → Q (.bool (!(atKey xs k).isSome)) s') :
    wpAny (model X.prog X.w) A (compareOp .NotIn u (.ref a)) Q E s := by
  obtain ⟨e, ks, kk⟩ := g
  obtain ⟨b, rfl⟩ := kk.1
  cases (show u = Value.ref b from ry)
  obtain ⟨hd, dd, _⟩ := raw_at I e ks
  exact wpAny_notIn_heap (room8 hu) (kk.is I) hd dd (h _ (I.tok _))
theorem storedH_len (xs : List (NestedKey × Addr × Value)) (k : NestedKey) (b : Addr) (r : Value) : (storedH xs k b r).length ≤ xs.length + 1 := by
  unfold storedH
  split
  · rw [List.length_map]; omega
  · rw [List.length_append, List.length_singleton]; exact Nat.le_refl _
/-- d[y] = v, in a dict with nested keys, or in an empty one -/
theorem n_setItem {Q : Unit → Shared → Prop} {b : Addr} (hu : A.units + 9 < cLine) (I : Inv X pins σ H s) (e : RawAt X.w H a xs) (ks : KeysAre X.K H xs) (kk : KeyIs X.K H (.ref b) k) (hl : xs.length < sizeLine)
    (h : ∀ s', Inv X pins σ (upd H a (.ext (RawN X.w a (storedH xs k b r)))) s' → Q () s') :
    wpAny (model X.prog X.w) A (setItem (.ref a) (.ref b) r) Q E s := by
  obtain ⟨hd, dd, hm⟩ := raw_at I e ks
  refine wpAny_setItem_heap (hsz := Nat.le_of_lt hl) (room8 hu) (kk.is I) dd fun h' dd' hs => h _ ?_
  have he : ∃ q, h'.get? a = some q := let ⟨q, _, _, hq, _⟩ := dd'; ⟨q, hq⟩
  exact d_write I hm hs he (raw_new (by have := storedH_len xs k b r; omega) hd dd')
theorem raw_type (I : Inv X pins σ H s) (g : DAt X.w X.K H a y xs k) : s.TypeIs (.ref a) "dict" := by
  obtain ⟨hd, dd, _⟩ := raw_at I g.1 g.2.1
  exact dd.typeIs
end
/-- what the dict at a gives at y -/
def DGetN (w : World) (K : PySem.W.Frag) (H : Hp) (a : Addr) (y : V) (o : Option V) : Prop := DGet H a y o ∨ ∃ xs k, DAt w K H a y xs k ∧ RelO o ((atKey xs k).map (·.2))
def tGetN (w : World) (K : PySem.W.Frag) (td ty : TE) : TE := fun σ H Q => td σ H fun x H1 => ty σ H1 fun y H2 => ∃ a v, x = .ref a ∧ DGetN w K H2 a y (some v) ∧ Q v H2
def tInN (w : World) (K : PySem.W.Frag) (neg : Bool) (ty td : TE) : TE := fun σ H Q => ty σ H fun y H1 => td σ H1 fun x H2 => ∃ a o, x = .ref a ∧ DGetN w K H2 a y o ∧ Q (.bl (if neg then !o.isSome else o.isSome)) H2
def DPutN (w : World) (K : PySem.W.Frag) (H : Hp) (a : Addr) (y v : V) (D : Hp → Prop) : Prop :=
  (∃ H', DPut H a y v H' ∧ D H') ∨ ∃ xs k b, y = .ref b ∧ RawAt w H a xs ∧ KeysAre K H xs ∧ KeyIs K H (.ref b) k ∧ xs.length < sizeLine ∧ ∀ r, RelV v r → D (upd H a (.ext (RawN w a (storedH xs k b r))))
def sPutN (w : World) (K : PySem.W.Frag) (td ty tv : TE) : TS := fun D σ H => tv σ H fun v H1 => td σ H1 fun x H2 => ty σ H2 fun y H3 => ∃ a, x = .ref a ∧ DPutN w K H3 a y v (D.nx σ)
section
variable {X : Cx} {o i value : Expr} {pos pos' tpos : Pos} {td ty tv : TE}
theorem pe_getN (hu : X.A.units + 9 < cLine) (ho : PE X o td) (hi : PE X i ty) (hs : NoSl i) : PE X (.Subscript o i pos) (tGetN X.w X.K td ty) := by
  refine ⟨fun pins s σ H Q I h => ?_⟩
  refine subD_of PySem.F.slot_dict_getitem.lookup hs (thn (ho.run pins s σ H _ I h) fun u s1 ⟨x, H1, I1, rx, q1⟩ => thn (hi.run pins s1 σ H1 _ I1 q1) fun iv s2 ⟨y, H2, I2, ry, a, v, ex, g, q2⟩ => ?_)
  subst ex
  obtain rfl : u = Value.ref a := rx
  rcases g with g | ⟨xs, k, g, r⟩
  · exact ⟨dict_typeIs I2 g, d_getItem (by omega) I2 g ry fun w' s3 I3 rw' => ⟨v, H2, I3, rw', q2⟩⟩
  · cases hp : atKey xs k with
    | none => rw [hp] at r; exact r.elim
    | some p =>
      rw [hp] at r
      exact ⟨raw_type I2 g, n_getItem hu I2 g ry hp fun s3 I3 => ⟨v, H2, I3, r, q2⟩⟩
theorem relO_some {o : Option V} {u : Option Value} (r : RelO o u) : u.isSome = o.isSome := by
  cases o <;> cases u <;> first | rfl | exact r.elim
theorem pc_inN (hu : X.A.units + 9 < cLine) (hi : PE X i ty) (ho : PE X o td) : PC X .In i o (tInN X.w X.K false ty td) := by
  refine ⟨fun pins s σ H Q I h => ?_⟩
  refine thn (hi.run pins s σ H _ I h) fun iv s1 ⟨y, H1, I1, ry, q1⟩ => thn (ho.run pins s1 σ H1 _ I1 q1) fun u s2 ⟨x, H2, I2, rx, a, ov, ex, g, q2⟩ => ?_
  subst ex
  obtain rfl : u = Value.ref a := rx
  rcases g with g | ⟨xs, k, g, r⟩
  · exact d_in (by omega) I2 g ry fun s3 I3 => ⟨.bl ov.isSome, H2, I3, rfl, q2⟩
  · refine n_in hu I2 g ry fun s3 I3 => ⟨.bl ov.isSome, H2, I3, ?_, q2⟩
    have := relO_some r
    rw [Option.isSome_map] at this
    rw [this]
    rfl
theorem pc_notInN (hu : X.A.units + 9 < cLine) (hi : PE X i ty) (ho : PE X o td) : PC X .NotIn i o (tInN X.w X.K true ty td) := by
  refine ⟨fun pins s σ H Q I h => ?_⟩
  refine thn (hi.run pins s σ H _ I h) fun iv s1 ⟨y, H1, I1, ry, q1⟩ => thn (ho.run pins s1 σ H1 _ I1 q1) fun u s2 ⟨x, H2, I2, rx, a, ov, ex, g, q2⟩ => ?_
  subst ex
  obtain rfl : u = Value.ref a := rx
  rcases g with g | ⟨xs, k, g, r⟩
  · exact d_notIn (by omega) I2 g ry fun s3 I3 => ⟨.bl (!ov.isSome), H2, I3, rfl, q2⟩
  · refine n_notIn hu I2 g ry fun s3 I3 => ⟨.bl (!ov.isSome), H2, I3, ?_, q2⟩
    have := relO_some r
    rw [Option.isSome_map] at this
    rw [this]
    rfl
theorem ps_putN (hu : X.A.units + 9 < cLine) (ho : PE X o td) (hi : PE X i ty) (hv : PE X value tv) (hs : swapsWith value (some (.Subscript o i pos')) pos.line X.env = pure false) :
    PS X (.Assign [.Subscript o i pos'] value pos) (sPutN X.w X.K td ty tv) := by
  refine ⟨fun pins s σ H D I h => ?_⟩
  refine wpAny_Assign_Subscript (thn (hv.run pins s σ H _ I h) fun r s1 ⟨v, H1, I1, rv, q1⟩ => thn (ho.run pins s1 σ H1 _ I1 q1) fun u s2 ⟨x, H2, I2, rx, q2⟩ => thn (hi.run pins s2 σ H2 _ I2 q2) fun iv s3 ⟨y, H3, I3, ry, a, ex, g⟩ => ?_) hs
  subst ex
  obtain rfl : u = Value.ref a := rx
  rcases g with ⟨H4, g, q3⟩ | ⟨xs, k, b, rfl, g, ks, kk, hl, q3⟩
  · exact d_setItem (by omega) I3 g ry rv fun s4 I4 => ⟨σ, H4, I4, q3⟩
  · obtain rfl : iv = Value.ref b := ry
    exact n_setItem hu I3 g ks kk hl fun s4 I4 => ⟨σ, _, I4, q3 r rv⟩
end
end L2

set_option maxRecDepth 100000
set_option maxHeartbeats 4000000
set_option autoImplicit false
namespace PD
open PySem PySem.Spec L2
open Evl (Ex)
/-! ### dicts over data -/
def getK : List (D × D) → D → Option D
  | [], _ => none
  | (y, v) :: r, x => if nk y = nk x then some v else getK r x
def putKD (kvs : List (D × D)) (x d : D) : List (D × D) := if (getK kvs x).isSome = true then kvs.map (fun p => if nk p.1 = nk x then (p.1, d) else p) else kvs ++ [(x, d)]
/-- a key that is an int or a text; a key that is a tuple -/
def scalK : D → Bool
  | .int _ => true
  | .str _ => true
  | _ => false
def tupK : D → Bool
  | .tuple xs => match nk (.tuple xs) with
    | some k => decide (k.depth ≤ 8)
    | none => false
  | _ => false
def okKey (kvs : List (D × D)) (x : D) : Bool := (scalK x && kvs.all fun p => scalK p.1) || (tupK x && kvs.all fun p => tupK p.1)
def toKey : D → Option Key
  | .int i => some (.inl i)
  | .str s => some (.inr s)
  | _ => none
theorem scalK_key {x : D} (h : scalK x = true) : ∃ k, x = keyD k := by
  cases x <;> first | cases h | skip
  · exact ⟨.inl _, rfl⟩
  · exact ⟨.inr _, rfl⟩
theorem nk_keyD {j k : Key} : nk (keyD j) = nk (keyD k) ↔ j = k := by
  refine ⟨fun h => ?_, fun h => by rw [h]⟩
  cases j <;> cases k <;> unfold keyD nk at h <;> simp at h
  · rw [h]
  · rw [h]
theorem tupK_of {x : D} (h : tupK x = true) : ∃ xs k, x = .tuple xs ∧ nk x = some k ∧ k.depth ≤ 8 := by
  cases x <;> first | cases h | skip
  rename_i xs
  have h : (match nk (.tuple xs) with | some k => decide (k.depth ≤ 8) | none => false) = true := h
  cases q : nk (.tuple xs) with
  | none => rw [q] at h; cases h
  | some k => rw [q] at h; exact ⟨xs, k, rfl, rfl, of_decide_eq_true h⟩
theorem scal_not_tup {x : D} (h : scalK x = true) (h2 : tupK x = true) : False := by cases x <;> first | (cases h; done) | (cases h2; done)
section
variable {K : PySem.W.Frag} {Hf : Hp}
def RelOD (K : PySem.W.Frag) (Hf : Hp) : Option V → Option D → Prop
  | some v, some d => Dp K Hf v d
  | none, none => True
  | _, _ => False
theorem KeysRel.get {k : Key} : ∀ {ks : List (Key × V)} {kvs : List (D × D)}, KeysRel K Hf ks kvs → RelOD K Hf (valV ks k) (getK kvs (keyD k))
  | _, _, .nil => True.intro
  | _, _, .cons (a := p) (l₁ := ps) (b := q) (l₂ := qs) h t => by
    have ih := KeysRel.get (k := k) t
    obtain ⟨y, d⟩ := q
    obtain ⟨h1, h2⟩ := h
    have h1 : keyD p.1 = y := h1
    subst h1
    by_cases e : p.1 = k
    · rw [valV_pos e]
      show RelOD K Hf _ (if nk (keyD p.1) = nk (keyD k) then some d else getK qs (keyD k))
      rw [if_pos (nk_keyD.mpr e)]
      exact h2
    · have e2 : valV (p :: ps) k = valV ps k := by simp [valV, List.find?_cons, e]
      rw [e2]
      show RelOD K Hf _ (if nk (keyD p.1) = nk (keyD k) then some d else getK qs (keyD k))
      rw [if_neg (fun z => e (nk_keyD.mp z))]
      exact ih
theorem RelN.get {k : NestedKey} {x : D} (hx : nk x = some k) : ∀ {xs : List (NestedKey × Addr × Value)} {kvs : List (D × D)}, RelN K Hf xs kvs →
    (∃ p v d, atKey xs k = some p ∧ getK kvs x = some d ∧ RelV v p.2 ∧ Dp K Hf v d) ∨ (atKey xs k = none ∧ getK kvs x = none)
  | _, _, .nil => .inr ⟨rfl, rfl⟩
  | _, _, .cons (a := p) (l₁ := ps) (b := q) (l₂ := qs) h t => by
    have ih := RelN.get hx t
    obtain ⟨y, d⟩ := q
    obtain ⟨h1, h2, h3, v, h4, h5⟩ := h
    have h1 : nk y = some p.1 := h1
    have eg : getK ((y, d) :: qs) x = if p.1 = k then some d else getK qs x := by
      show (if nk y = nk x then some d else getK qs x) = _
      rw [h1, hx]
      by_cases e : p.1 = k
      · rw [if_pos e, if_pos (by rw [e])]
      · rw [if_neg e, if_neg (fun z => e (Option.some.inj z))]
    by_cases e : p.1 = k
    · refine .inl ⟨p.2, v, d, ?_, by rw [eg, if_pos e], h4, h5⟩
      simp [atKey, List.find?_cons, e]
    · rw [eg, if_neg e]
      have e2 : atKey (p :: ps) k = atKey ps k := by simp [atKey, List.find?_cons, e]
      rw [e2]
      exact ih
theorem KeysRel.put {k : Key} {v : V} {d : D} (hd : Dp K Hf v d) {ks : List (Key × V)} {kvs : List (D × D)} (r : KeysRel K Hf ks kvs) : KeysRel K Hf (putK ks k v) (putKD kvs (keyD k) d) := by
  have hg := r.get (k := k)
  have e : (ks.any fun kv => decide (kv.1 = k)) = (getK kvs (keyD k)).isSome := by
    rw [valV_any]
    cases h1 : valV ks k <;> cases h2 : getK kvs (keyD k) <;> rw [h1, h2] at hg <;> first | rfl | exact hg.elim
  unfold putK putKD
  rw [e]
  cases (getK kvs (keyD k)).isSome with
  | false => exact Paired.snoc r ⟨rfl, hd⟩
  | true =>
    simp only [if_true]
    clear hg e
    induction r with
    | nil => exact .nil
    | cons h t ih =>
      rename_i p q ps qs
      obtain ⟨h1, h2⟩ := h
      refine .cons ?_ ih
      dsimp only
      by_cases e : p.1 = k
      · rw [if_pos e, if_pos (by rw [← h1]; exact nk_keyD.mpr e)]
        exact ⟨h1, hd⟩
      · rw [if_neg e, if_neg (by rw [← h1]; exact fun z => e (nk_keyD.mp z))]
        exact ⟨h1, h2⟩
theorem RelN.put {k : NestedKey} {b : Addr} {x d : D} {v : V} {u : Value} (hx : nk x = some k) (hk : k.depth ≤ 8) (hb : Dp K Hf (.ref b) x) (ru : RelV v u) (hd : Dp K Hf v d) {xs : List (NestedKey × Addr × Value)} {kvs : List (D × D)} (r : RelN K Hf xs kvs) :
    RelN K Hf (storedH xs k b u) (putKD kvs x d) := by
  have e : (atKey xs k).isSome = (getK kvs x).isSome := by
    rcases r.get hx with ⟨p, v', d', h1, h2, _⟩ | ⟨h1, h2⟩ <;> rw [h1, h2] <;> rfl
  unfold storedH putKD
  rw [e]
  cases (getK kvs x).isSome with
  | false => exact Paired.snoc r ⟨hx, hk, hb, v, ru, hd⟩
  | true =>
    simp only [if_true]
    clear e
    induction r with
    | nil => exact .nil
    | cons h t ih =>
      rename_i p q ps qs
      obtain ⟨h1, h2, h3, h4⟩ := h
      refine .cons ?_ ih
      unfold putAt
      dsimp only
      by_cases e : p.1 = k
      · rw [if_pos e, if_pos (by rw [h1, hx, e])]
        exact ⟨h1, h2, h3, v, ru, hd⟩
      · rw [if_neg e, if_neg (by rw [h1, hx]; exact fun z => e (Option.some.inj z))]
        exact ⟨h1, h2, h3, h4⟩
theorem RelN.keys {xs : List (NestedKey × Addr × Value)} {kvs : List (D × D)} (r : RelN K Hf xs kvs) : KeysAre K Hf xs := by
  induction r with
  | nil => intro z hz; cases hz
  | cons h t ih =>
    intro z hz
    rcases List.mem_cons.mp hz with e | hz
    · subst e
      obtain ⟨h1, h2, h3, _⟩ := h
      exact ⟨⟨_, rfl⟩, _, h3, h1, h2⟩
    · exact ih z hz
theorem ref_scal {b : Addr} {x : D} (h : Dp K Hf (.ref b) x) : scalK x = false := by
  cases x <;> first | rfl | cases h
theorem keyD_scal (k : Key) : scalK (keyD k) = true := by cases k <;> rfl
theorem KeysRel.scal {ks : List (Key × V)} {kvs : List (D × D)} (r : KeysRel K Hf ks kvs) (h : (kvs.all fun p => tupK p.1) = true) : ks = [] ∧ kvs = [] := by
  cases r with
  | nil => exact ⟨rfl, rfl⟩
  | cons h1 t =>
    rw [List.all_cons, Bool.and_eq_true] at h
    have := h.1
    rw [← h1.1] at this
    exact (scal_not_tup (keyD_scal _) this).elim
theorem RelN.notScal {xs : List (NestedKey × Addr × Value)} {kvs : List (D × D)} (r : RelN K Hf xs kvs) (hx : xs ≠ []) (h : (kvs.all fun p => scalK p.1) = true) : False := by
  cases r with
  | nil => exact hx rfl
  | cons h1 t =>
    rw [List.all_cons, Bool.and_eq_true] at h
    have := h.1
    rw [ref_scal h1.2.2.1] at this
    cases this
theorem keyV {k : Key} {y : V} (d : Dp K Hf y (keyD k)) : y = kV k := by
  cases k with
  | inl i => exact d.int_of
  | inr s => exact d.str_of
theorem DictHo.get {w : World} {H : Hp} {a : Addr} {ho : HO} {kvs : List (D × D)} {x : D} {y : V} (h : DictHo w K Hf a ho kvs) (e : Ex Hf H) (ha : H a = some ho) (d : Dp K Hf y x) (ok : okKey kvs x = true) :
    ∃ o, DGetN w K H a y o ∧ RelOD K Hf o (getK kvs x) := by
  unfold okKey at ok
  rw [Bool.or_eq_true, Bool.and_eq_true, Bool.and_eq_true] at ok
  rcases ok with ⟨o1, o2⟩ | ⟨o1, o2⟩
  · obtain ⟨k, rfl⟩ := scalK_key o1
    rcases h with ⟨ks, rfl, r⟩ | ⟨xs, rfl, r, hne⟩
    · rw [keyV d]
      exact ⟨_, .inl (DGet.k ha), r.get⟩
    · exact (r.notScal hne o2).elim
  · obtain ⟨zs, k, rfl, hk, hd⟩ := tupK_of o1
    obtain ⟨b, vs, rfl, _, _⟩ := d.tup_of
    have kk : KeyIs K H (.ref b) k := KeyIs.mono e ⟨⟨b, rfl⟩, _, d, hk, hd⟩
    rcases h with ⟨ks, rfl, r⟩ | ⟨xs, rfl, r, hne⟩
    · obtain ⟨rfl, rfl⟩ := r.scal o2
      exact ⟨none, .inr ⟨[], k, ⟨.inr ⟨ha, rfl⟩, (fun z hz => by cases hz), kk⟩, True.intro⟩, True.intro⟩
    · have dd : DAt w K H a (.ref b) xs k := ⟨.inl ha, fun z hz => KeyIs.mono e (r.keys z hz), kk⟩
      rcases r.get hk with ⟨p, v, dv, h1, h2, h3, h4⟩ | ⟨h1, h2⟩
      · exact ⟨some v, .inr ⟨xs, k, dd, by rw [h1]; exact h3⟩, by rw [h2]; exact h4⟩
      · exact ⟨none, .inr ⟨xs, k, dd, by rw [h1]; exact True.intro⟩, by rw [h2]; exact True.intro⟩
theorem paired_len {α β : Type} {F : α → β → Prop} {l : List α} {m : List β} (h : Paired F l m) : l.length = m.length := Paired.length h
theorem storedH_ne {xs : List (NestedKey × Addr × Value)} {k : NestedKey} {b : Addr} {u : Value} : storedH xs k b u ≠ [] := by
  unfold storedH
  split
  · rename_i h
    cases xs with
    | nil => cases h
    | cons x xs => exact fun e => nomatch e
  · exact fun e => by simp at e
theorem DictHo.put {w : World} {H : Hp} {a : Addr} {ho : HO} {kvs : List (D × D)} {x dv : D} {y v : V} {Dl : Hp → Prop} (h : DictHo w K Hf a ho kvs) (e : Ex Hf H) (ha : H a = some ho) (d : Dp K Hf y x) (d2 : Dp K Hf v dv) (ok : okKey kvs x = true) (hl : kvs.length < sizeLine)
    (hD : ∀ ho', DictHo w K Hf a ho' (putKD kvs x dv) → Dl (upd H a ho')) : DPutN w K H a y v Dl := by
  unfold okKey at ok
  rw [Bool.or_eq_true, Bool.and_eq_true, Bool.and_eq_true] at ok
  rcases ok with ⟨o1, o2⟩ | ⟨o1, o2⟩
  · obtain ⟨k, rfl⟩ := scalK_key o1
    rcases h with ⟨ks, rfl, r⟩ | ⟨xs, rfl, r, hne⟩
    · rw [keyV d]
      exact .inl ⟨_, DPut.k ha (by rw [paired_len r]; exact hl), hD _ (.inl ⟨_, rfl, r.put d2⟩)⟩
    · exact (r.notScal hne o2).elim
  · obtain ⟨zs, k, rfl, hk, hd⟩ := tupK_of o1
    obtain ⟨b, vs, rfl, _, _⟩ := d.tup_of
    have kk : KeyIs K H (.ref b) k := KeyIs.mono e ⟨⟨b, rfl⟩, _, d, hk, hd⟩
    rcases h with ⟨ks, rfl, r⟩ | ⟨xs, rfl, r, hne⟩
    · obtain ⟨rfl, rfl⟩ := r.scal o2
      exact .inr ⟨[], k, b, rfl, .inr ⟨ha, rfl⟩, (fun z hz => by cases hz), kk, hl, fun u ru => hD _ (.inr ⟨_, rfl, RelN.put hk hd d ru d2 .nil, storedH_ne⟩)⟩
    · exact .inr ⟨xs, k, b, rfl, .inl ha, fun z hz => KeyIs.mono e (r.keys z hz), kk, by rw [paired_len r]; exact hl, fun u ru => hD _ (.inr ⟨_, rfl, RelN.put hk hd d ru d2 r, storedH_ne⟩)⟩
end
/-! ### the rules -/
def dctAt (ρ : DE) (i : Nat) : Option (List (D × D)) := match ρ[i]? with
  | some (some (.dct kvs)) => some kvs
  | _ => none
theorem dctAt_get {ρ : DE} {i : Nat} {kvs : List (D × D)} (h : dctAt ρ i = some kvs) : ρ[i]? = some (some (.dct kvs)) := by
  unfold dctAt at h
  split at h
  · rename_i ys hy
    cases h
    exact hy
  · cases h
/-- x in d, x not in d -/
def M.inK (neg : Bool) (i : Nat) (f : M D) : M D := M.bind f fun x ρ => M.lift ((dctAt ρ i).bind fun kvs => if okKey kvs x = true then some (.bool (if neg then !(getK kvs x).isSome else (getK kvs x).isSome)) else none) ρ
/-- d[x] -/
def M.subK (i : Nat) (f : M D) : M D := fun ρ => match dctAt ρ i with
  | some _ => M.bind f (fun x ρ1 => M.lift ((dctAt ρ1 i).bind fun kvs => if okKey kvs x = true then getK kvs x else none) ρ1) ρ
  | none => .bad
/-- d[x] = v -/
def S.setK (i : Nat) (f g : M D) : MS := S.ofM f fun v ρ0 => match dctAt ρ0 i with
  | some _ => S.ofM g (fun x => S.ofM (fun ρ1 => M.lift ((dctAt ρ1 i).bind fun kvs => if okKey kvs x = true ∧ kvs.length < sizeLine then some (putKD kvs x v) else none) ρ1) fun kvs ρ1 => .nx (ρ1.set i (some (.dct kvs)))) ρ0
  | none => .bad
theorem relOD_some {K : PySem.W.Frag} {Hf : Hp} {o : Option V} {d : Option D} (r : RelOD K Hf o d) : o.isSome = d.isSome := by
  cases o <;> cases d <;> first | rfl | exact r.elim
section
variable {X : Cx} {C : Fc} {pos p2 : Pos} {e b : Expr} {f g : M D}
theorem in_go (hw : C.w = X.w) {i : Nat} {neg : Bool} {σ : L2.St} {H : Hp} {Q : VK} (h : tG X.K C (relD X.K) (M.inK neg i f) σ H Q) : tInN X.w X.K neg (tG X.K C (relD X.K) f) (tVar i) σ H Q := by
  obtain ⟨Hf, ρ, s, h⟩ := h
  refine tG_bind s h fun v x H1 Hf1 ρ1 e1 s1 d1 h1 => ?_
  obtain ⟨z, hz, h2⟩ := h1.lift
  cases hk : dctAt ρ1 i with
  | none => rw [hk] at hz; cases hz
  | some kvs =>
    rw [hk] at hz
    simp only [Option.bind_some] at hz
    split at hz
    · rename_i ok
      cases hz
      obtain ⟨a, ho, g1, g2, g3, g4, _⟩ := s1.dct i kvs (dctAt_get hk)
      rw [hw] at g4
      obtain ⟨o, q1, q2⟩ := g4.get s1.e1 g3 d1 ok
      refine ⟨.ref a, g1, a, o, rfl, q1, ?_⟩
      rw [relOD_some q2]
      exact PostG.now h2 s1 (.bl _)
    · cases hz
section
variable {x : Str} {px : Pos} {i : Nat}
theorem pd_inK (i : Nat) (hw : C.w = X.w) (hu : X.A.units + 9 < cLine) (ha : PDe X C e f) (hN : X.N[i]? = some x := by rfl) (hv : Vis X.env.scope x := by first | exact Or.inl rfl | exact Or.inr (Or.inl rfl) | exact Or.inr (Or.inr rfl)) (hd : (x == ("__debug__" : Str)) = false := by decide)
    (hcd : (x == ("__classdict__" : Str)) = false := by decide) (h1 : behindInMarks .In (.Name x px) = false := by rfl) : PDe X C (.Compare e [.In] [.Name x px] pos) (M.inK false i f) :=
  pe_imp (pe_cmp (pc_inN hu ha (pe_var hN hv hd hcd)) h1) fun _ _ _ h => in_go hw h
theorem pd_notInK (i : Nat) (hw : C.w = X.w) (hu : X.A.units + 9 < cLine) (ha : PDe X C e f) (hN : X.N[i]? = some x := by rfl) (hv : Vis X.env.scope x := by first | exact Or.inl rfl | exact Or.inr (Or.inl rfl) | exact Or.inr (Or.inr rfl)) (hd : (x == ("__debug__" : Str)) = false := by decide)
    (hcd : (x == ("__classdict__" : Str)) = false := by decide) (h1 : behindInMarks .NotIn (.Name x px) = false := by rfl) : PDe X C (.Compare e [.NotIn] [.Name x px] pos) (M.inK true i f) :=
  pe_imp (pe_cmp (pc_notInN hu ha (pe_var hN hv hd hcd)) h1) fun _ _ _ h => in_go hw h
theorem pdt_inK (i : Nat) (hw : C.w = X.w) (hu : X.A.units + 9 < cLine) (ha : PDe X C e f) (hN : X.N[i]? = some x := by rfl) (hv : Vis X.env.scope x := by first | exact Or.inl rfl | exact Or.inr (Or.inl rfl) | exact Or.inr (Or.inr rfl)) (hd : (x == ("__debug__" : Str)) = false := by decide)
    (hcd : (x == ("__classdict__" : Str)) = false := by decide) (h1 : behindInMarks .In (.Name x px) = false := by rfl) : PDt X C (.Compare e [.In] [.Name x px] pos) (M.test (M.inK false i f)) :=
  pt_imp (pt_cmp (pc_inN hu ha (pe_var hN hv hd hcd)) h1) fun _ _ _ h => in_go hw (test_go (t := tC .non) h)
theorem pdt_notInK (i : Nat) (hw : C.w = X.w) (hu : X.A.units + 9 < cLine) (ha : PDe X C e f) (hN : X.N[i]? = some x := by rfl) (hv : Vis X.env.scope x := by first | exact Or.inl rfl | exact Or.inr (Or.inl rfl) | exact Or.inr (Or.inr rfl)) (hd : (x == ("__debug__" : Str)) = false := by decide)
    (hcd : (x == ("__classdict__" : Str)) = false := by decide) (h1 : behindInMarks .NotIn (.Name x px) = false := by rfl) : PDt X C (.Compare e [.NotIn] [.Name x px] pos) (M.test (M.inK true i f)) :=
  pt_imp (pt_cmp (pc_notInN hu ha (pe_var hN hv hd hcd)) h1) fun _ _ _ h => in_go hw (test_go (t := tC .non) h)
theorem pd_subK (i : Nat) (hw : C.w = X.w) (hu : X.A.units + 9 < cLine) (ha : PDe X C e f) (hs : NoSl e) (hN : X.N[i]? = some x := by rfl) (hv : Vis X.env.scope x := by first | exact Or.inl rfl | exact Or.inr (Or.inl rfl) | exact Or.inr (Or.inr rfl)) (hd : (x == ("__debug__" : Str)) = false := by decide)
    (hcd : (x == ("__classdict__" : Str)) = false := by decide) : PDe X C (.Subscript (.Name x px) e pos) (M.subK i f) :=
  pe_imp (pe_getN hu (pe_var hN hv hd hcd) ha hs) fun σ H Q ⟨Hf, ρ, s, h⟩ => by
    unfold M.subK at h
    cases hk : dctAt ρ i with
    | none => simp only [hk] at h; exact (show False from h).elim
    | some kvs =>
      simp only [hk] at h
      obtain ⟨a, ho, g1, g2, g3, g4, _⟩ := s.dct i kvs (dctAt_get hk)
      refine ⟨.ref a, g1, tG_bind s h fun v x H1 Hf1 ρ1 e1 s1 d1 h1 => ?_⟩
      obtain ⟨z, hz, h2⟩ := h1.lift
      cases hk2 : dctAt ρ1 i with
      | none => rw [hk2] at hz; cases hz
      | some kvs2 =>
        rw [hk2] at hz
        simp only [Option.bind_some] at hz
        split at hz
        · rename_i ok
          obtain ⟨a2, ho2, z1, z2, z3, z4, _⟩ := s1.dct i kvs2 (dctAt_get hk2)
          rw [g1] at z1
          cases z1
          rw [hw] at z4
          obtain ⟨o, q1, q2⟩ := z4.get s1.e1 z3 d1 ok
          rw [hz] at q2
          cases o with
          | none => exact q2.elim
          | some w => exact ⟨a, w, rfl, q1, PostG.now h2 s1 q2⟩
        · cases hz
theorem pd_setK (i : Nat) {tpos : Pos} {g : M D} (hp : ∀ q, C.io = some q → q.1 ≠ i) (hw : C.w = X.w) (hu : X.A.units + 9 < cLine) (ha : PDe X C e f) (hb : PDe X C b g)
    (hs : swapsWith e (some (.Subscript (.Name x px) b tpos)) pos.line X.env = pure false := by rfl)
    (hN : X.N[i]? = some x := by rfl) (hv : Vis X.env.scope x := by first | exact Or.inl rfl | exact Or.inr (Or.inl rfl) | exact Or.inr (Or.inr rfl)) (hd : (x == ("__debug__" : Str)) = false := by decide)
    (hcd : (x == ("__classdict__" : Str)) = false := by decide) : PDs X C (.Assign [.Subscript (.Name x px) b tpos] e pos) (S.setK i f g) :=
  ps_imp (ps_putN hu (pe_var hN hv hd hcd) hb ha hs) fun E σ H ⟨Hf, ρ, s, q⟩ => tS_bind s q fun v y H1 Hf1 ρ1 e1 s1 d1 q1 => by
    cases ho : dctAt ρ1 i with
    | none => simp only [ho] at q1; exact (show False from q1).elim
    | some kvs =>
      simp only [ho] at q1
      obtain ⟨a, ho1, h1, h2, h3, _⟩ := s1.dct i kvs (dctAt_get ho)
      refine ⟨.ref a, h1, tS_bind s1 q1 fun w k H2 Hf2 ρ2 e2 s2 d2 q2 => ?_⟩
      obtain ⟨zs, hz, q3⟩ := ofM_s q2
      cases ho2 : dctAt ρ2 i with
      | none => rw [ho2] at hz; cases hz
      | some kvs2 =>
        rw [ho2] at hz
        simp only [Option.bind_some] at hz
        split at hz
        · rename_i ok
          cases hz
          obtain ⟨b, ho3, g1, g2, g3, g4, _⟩ := s2.dct i kvs2 (dctAt_get ho2)
          rw [h1] at g1
          cases g1
          rw [hw] at g4
          refine ⟨a, rfl, g4.put s2.e1 g3 d2 (Dp.mono e2 _ _ d1) ok.1 ok.2 fun ho' hh => ?_⟩
          exact PostS.nx q3 (s2.mutL (dctAt_get ho2) rfl h1 (l' := .dct (putKD kvs2 k y)) (by rw [hw]; exact hh) fun q hq e => absurd e (hp q hq))
        · cases hz
end
end
end PD

set_option maxRecDepth 100000
set_option maxHeartbeats 4000000
set_option autoImplicit false
namespace PD
open PySem PySem.Spec L2
open Evl (Ex)
/-! ### x, y, z = (..): data, new lists, new dicts side by side -/
/-- an owned thing that no slot holds yet -/
structure Fresh (K : PySem.W.Frag) (C : Fc) (σ : L2.St) (Hf H : Hp) (ρ : DE) (a : Addr) (ho : HO) (l : LV) : Prop where
  f : Hf a = none
  h : H a = some ho
  o : HoldsO C.w K Hf a ho l
  z : C.H0 a = none
  n : ∀ p ∈ C.no, a ≠ p.1
  j : ∀ j, IsOwn ρ j → σ[j]? ≠ some (some (.ref a))
/-- a datum, or an owned thing -/
def relX (K : PySem.W.Frag) (C : Fc) : L2.St → Hp → Hp → DE → V → LV → Prop := fun σ Hf H ρ v l => match l with
  | .d x => Dp K Hf v x
  | l => ∃ a ho, v = .ref a ∧ Fresh K C σ Hf H ρ a ho l
def PDn (X : Cx) (C : Fc) (e : Expr) (f : M LV) : Prop := PE X e (tG X.K C (relX X.K C) f)
inductive News (K : PySem.W.Frag) (σ : L2.St) (Hf H : Hp) (ρ : DE) : Fc → List V → List LV → Prop
  | nil {C : Fc} : News K σ Hf H ρ C [] []
  | d {C : Fc} {v : V} {x : D} {vs : List V} {ls : List LV} : Dp K Hf v x → News K σ Hf H ρ C vs ls → News K σ Hf H ρ C (v :: vs) (.d x :: ls)
  | o {C : Fc} {a : Addr} {ho : HO} {l : LV} {vs : List V} {ls : List LV} : Fresh K C σ Hf H ρ a ho l → News K σ Hf H ρ (C.hide a ho) vs ls → News K σ Hf H ρ C (.ref a :: vs) (l :: ls)
def tNs (X : Cx) (C : Fc) (g : M (List LV)) : TA := fun σ H Q => ∃ Hf ρ, SR X.K C Hf H σ ρ ∧ match g ρ with
  | .ok ls ρ' => ∀ (vs : List V) (H' Hf' : Hp), Ex Hf Hf' → SR X.K C Hf' H' σ ρ' → News X.K σ Hf' H' ρ' C vs ls → Q vs H'
  | _ => False
def PDns (X : Cx) (C : Fc) (es : List Expr) (g : M (List LV)) : Prop := PA X es (tNs X C g)
section
variable {X : Cx} {C : Fc} {e : Expr} {es : List Expr} {f : M LV} {g : M (List LV)}
def M.nD (f : M D) : M LV := M.bind f fun x => M.ret (.d x)
def M.nL (f : M (List D)) : M LV := M.bind f fun x => M.ret (.own x)
theorem pdn_d {f : M D} (h : PDe X C e f) : PDn X C e (M.nD f) := pe_imp h fun σ H Q ⟨Hf, ρ, s, h⟩ =>
  tG_bind s h fun v x H1 Hf1 ρ1 e1 s1 d1 h1 => PostG.now (b := v) h1 s1 d1
theorem pdn_l {f : M (List D)} (h : PDl X C e f) : PDn X C e (M.nL f) := pe_imp h fun σ H Q ⟨Hf, ρ, s, h⟩ =>
  tG_bind s h fun v x H1 Hf1 ρ1 e1 s1 d1 h1 => by
    obtain ⟨a, vs, rfl, g1, g2, g3, g4, g5, g6⟩ := d1
    exact PostG.now (b := V.ref a) h1 s1 ⟨a, _, rfl, g1, g2, ⟨vs, rfl, g3⟩, g4, g5, g6⟩
/-- {} -/
theorem pdn_k0 {pos : Pos} : PDn X C (.Dict [] [] pos) (M.ret (.dct [])) := pe_imp pe_dnewK fun σ H Q ⟨Hf, ρ, s, h⟩ p hp => by
  have gr := Grow.mine (o := .dK []) s.e1 hp
  have s1 := s.grow gr
  refine PostG.now (b := V.ref p) h s1 ⟨p, _, rfl, Evl.fresh_back s.e1 hp, upd_same, .inl ⟨[], rfl, .nil⟩, s.h0 hp, fun q hq e => ?_, fun j ⟨l, hj, oj⟩ e => ?_⟩
  · obtain ⟨_, h⟩ := s.no q hq
    rw [← e, hp] at h
    cases h
  · obtain ⟨b, ho, h1, h2, h3, _⟩ := s.ownd j l hj oj
    rw [h1] at e
    cases e
    rw [hp] at h3
    cases h3
theorem pdns_nil : PDns X C [] (M.ret []) := pa_imp pa_nil fun σ H Q ⟨Hf, ρ, s, h⟩ => h [] H Hf (Ex.refl _) s .nil
def M.nC (f : M LV) (g : M (List LV)) : M (List LV) := M.bind f fun l => M.bind g fun ls => M.ret (l :: ls)
theorem Fresh.later {K : PySem.W.Frag} {σ : L2.St} {Hf H Hf' H' : Hp} {ρ ρ' : DE} {a : Addr} {ho : HO} {l : LV} (r : Fresh K C σ Hf H ρ a ho l) (e : Ex Hf Hf') (s : SR K (C.hide a ho) Hf' H' σ ρ') : Fresh K C σ Hf' H' ρ' a ho l := by
  obtain ⟨n1, n2⟩ := s.no (a, ho) List.mem_cons_self
  refine ⟨n1, n2, r.o.mono e, r.z, r.n, fun j ⟨l, hj, oj⟩ h => ?_⟩
  obtain ⟨b, ho', h1, _, _, _, _, h6⟩ := s.ownd j l hj oj
  rw [h1] at h
  cases h
  exact h6 (a, ho) List.mem_cons_self rfl
/-- what is made around does not matter -/
theorem pa_any {io : Option (Nat × Addr) × World} {es : List Expr} {g : M (List LV)} (h : ∀ C : Fc, C.sg = io → PDns X C es g) : PA X es (fun σ H Q => ∃ C : Fc, C.sg = io ∧ tNs X C g σ H Q) := ⟨fun pos pins s σ H Q I ⟨C, e, q⟩ => (h C e).run pos pins s σ H Q I q⟩
theorem pdns_cons (ha : PDn X C e f) (hr : ∀ C' : Fc, C'.sg = C.sg → PDns X C' es g) (hs : starEach (e :: es) X.env = (false, eval e X.env) :: starEach es X.env := by rfl) : PDns X C (e :: es) (M.nC f g) :=
  pa_imp (pa_cons ha (pa_any hr) hs) fun σ H Q ⟨Hf, ρ, s, h⟩ => by
    refine ⟨Hf, ρ, s, ?_⟩
    unfold M.nC M.bind at h
    cases hf : f ρ with
    | ex e ρ1 => rw [hf] at h; exact (show False from h).elim
    | bad => rw [hf] at h; exact (show False from h).elim
    | ok l ρ1 =>
      rw [hf] at h
      simp only at h
      intro v H1 Hf1 e1 s1 r1
      cases hg : g ρ1 with
      | ex e ρ2 => rw [hg] at h; exact (show False from h).elim
      | bad => rw [hg] at h; exact (show False from h).elim
      | ok ls ρ2 =>
        rw [hg] at h
        have h : ∀ (vs : List V) (H' Hf' : Hp), Ex Hf Hf' → SR X.K C Hf' H' σ ρ2 → News X.K σ Hf' H' ρ2 C vs (l :: ls) → Q vs H' := h
        have own : l.owned = true → relX X.K C σ Hf1 H1 ρ1 v l → ∃ C' : Fc, C'.sg = C.sg ∧ tNs X C' g σ H1 fun vs H2 => Q (v :: vs) H2 := fun hl r1 => by
          obtain ⟨a, ho, rfl, fr⟩ : ∃ a ho, v = .ref a ∧ Fresh X.K C σ Hf1 H1 ρ1 a ho l := by cases l <;> first | (cases hl; done) | exact r1
          refine ⟨C.hide a ho, rfl, Hf1, ρ1, s1.hide fr.f fr.h fr.j, ?_⟩
          rw [hg]
          exact fun vs H2 Hf2 e2 s2 news => h (.ref a :: vs) H2 Hf2 (e1.trans e2) s2.show_ (.o (fr.later e2 s2) news)
        cases l with
        | d x =>
          refine ⟨C, rfl, Hf1, ρ1, s1, ?_⟩
          rw [hg]
          exact fun vs H2 Hf2 e2 s2 news => h (v :: vs) H2 Hf2 (e1.trans e2) s2 (.d (Dp.mono e2 _ _ r1) news)
        | own xs => exact own rfl r1
        | dct kvs => exact own rfl r1
theorem News.move {K : PySem.W.Frag} {σ σ' : L2.St} {Hf H : Hp} {ρ ρ' : DE} {C1 : Fc} {vs : List V} {ls : List LV} (h : News K σ Hf H ρ C1 vs ls) : ∀ {C2 : Fc}, C2.H0 = C1.H0 → C2.w = C1.w → (∀ p ∈ C2.no, p ∈ C1.no) →
    (∀ (j : Nat) (b : Addr), IsOwn ρ' j → σ'[j]? = some (some (.ref b)) → (∃ j', IsOwn ρ j' ∧ σ[j']? = some (some (.ref b))) ∨ ∃ ho, (b, ho) ∈ C1.no) → News K σ' Hf H ρ' C2 vs ls := by
  induction h with
  | nil => exact fun _ _ _ _ => .nil
  | d hd _ ih => exact fun h1 h2 h3 h4 => .d hd (ih h1 h2 h3 h4)
  | @o C a ho l vs ls fr _ ih =>
    intro C2 h1 h2 h3 h4
    refine .o ⟨fr.f, fr.h, by rw [h2]; exact fr.o, by rw [h1]; exact fr.z, fun p hp => fr.n p (h3 p hp), fun j hj e => ?_⟩ (ih (C2 := C2.hide a ho) h1 h2 (fun p hp => ?_) fun j b hj e => ?_)
    · rcases h4 j a hj e with ⟨j', g1, g2⟩ | ⟨ho', g⟩
      · exact fr.j j' g1 g2
      · exact fr.n _ g rfl
    · rcases List.mem_cons.mp hp with e | hp
      · rw [e]; exact List.mem_cons_self
      · exact List.mem_cons_of_mem _ (h3 p hp)
    · rcases h4 j b hj e with g | ⟨ho', g⟩
      · exact .inl g
      · exact .inr ⟨ho', List.mem_cons_of_mem _ g⟩
/-- the names take them -/
theorem News.set {K : PySem.W.Frag} {σ : L2.St} {Hf H : Hp} {ρ : DE} {C : Fc} {v : V} {vs : List V} {l : LV} {ls : List LV} (h : News K σ Hf H ρ C (v :: vs) (l :: ls)) (s : SR K C Hf H σ ρ) {i : Nat} (hp : ∀ q, C.io = some q → q.1 ≠ i) :
    SR K C Hf H (σ.set i (some v)) (ρ.set i (some l)) ∧ News K (σ.set i (some v)) Hf H (ρ.set i (some l)) C vs ls := by
  cases h with
  | d hd hn =>
    refine ⟨s.setD hd hp, hn.move rfl rfl (fun p h => h) fun j b ⟨m, hj, oj⟩ e => ?_⟩
    rcases get_set hj with ⟨_, e2, _⟩ | ⟨ne, hj⟩
    · cases e2
      cases oj
    · rw [List.getElem?_set_ne ne] at e
      exact .inl ⟨j, ⟨m, hj, oj⟩, e⟩
  | @o _ a ho _ _ _ fr hn =>
    refine ⟨s.setL fr.f fr.h fr.o fr.z fr.n fr.j hp, hn.move rfl rfl (fun p h => List.mem_cons_of_mem _ h) fun j b ⟨m, hj, oj⟩ e => ?_⟩
    rcases get_set hj with ⟨e1, e2, hl⟩ | ⟨ne, hj⟩
    · subst e1
      rw [List.getElem?_set_self (by rw [s.len]; exact hl)] at e
      cases e
      exact .inr ⟨ho, List.mem_cons_self⟩
    · rw [List.getElem?_set_ne ne] at e
      exact .inl ⟨j, ⟨m, hj, oj⟩, e⟩
theorem News.len {K : PySem.W.Frag} {σ : L2.St} {Hf H : Hp} {ρ : DE} {C : Fc} {vs : List V} {ls : List LV} (h : News K σ Hf H ρ C vs ls) : vs.length = ls.length := by
  induction h with
  | nil => rfl
  | d _ _ ih => rw [List.length_cons, List.length_cons, ih]
  | o _ _ ih => rw [List.length_cons, List.length_cons, ih]
def setN (ρ : DE) : List Nat → List LV → Option DE
  | [], [] => some ρ
  | i :: is, l :: ls => setN (ρ.set i (some l)) is ls
  | _, _ => none
def parR (is : List Nat) (r : R (List LV)) : Fl := match r with
  | .ok ls ρ => (match setN ρ is ls with
    | some ρ' => .nx ρ'
    | none => .bad)
  | _ => .bad
/-- x, y, .. = a, b, .. -/
def S.parN (is : List Nat) (g : M (List LV)) : MS := fun ρ => parR is (g ρ)
section
variable {pos : Pos}
theorem pd_parN2 {i j : Nat} {x y : Str} {a b : Expr} {px py pt : Pos} {kt k2 pt2} (hpi : ∀ q, C.io = some q → q.1 ≠ i) (hpj : ∀ q, C.io = some q → q.1 ≠ j) (hc : X.calm = true) (hN : X.N.Nodup) (ha : PDns X C [a, b] g) (hi : X.N[i]? = some x := by rfl) (hj : X.N[j]? = some y := by rfl) (hij : i ≠ j := by decide)
    (hx : X.env.scope.names.lookup x = some .local := by rfl) (hy : X.env.scope.names.lookup y = some .local := by rfl)
    (hw : swappedStores [.Tuple [.Name x px, .Name y py] kt pt] (.Tuple [a, b] k2 pt2) X.env = pure (some [x, y]) := by rfl)
    (hs : swapsWithSole [.Tuple [.Name x px, .Name y py] kt pt] (.Tuple [a, b] k2 pt2) pos.line X.env = pure false := by rfl) :
    PDs X C (.Assign [.Tuple [.Name x px, .Name y py] kt pt] (.Tuple [a, b] k2 pt2) pos) (S.parN [i, j] g) :=
  ps_imp (ps_par hc hN hi hj hij hx hy ha hw hs) fun E σ H ⟨Hf, ρ, s, q⟩ => by
    refine ⟨Hf, ρ, s, ?_⟩
    unfold S.parN parR at q
    cases hg : g ρ with
    | ex e ρ1 => rw [hg] at q; exact (show False from q).elim
    | bad => rw [hg] at q; exact (show False from q).elim
    | ok ls ρ1 =>
      rw [hg] at q
      simp only at q
      intro vs H1 Hf1 e1 s1 nw
      match ls, q with
      | [], q => exact (show False from q).elim
      | [_], q => exact (show False from q).elim
      | _ :: _ :: _ :: _, q => exact (show False from q).elim
      | [l1, l2], q =>
        have hl := nw.len
        match vs, hl with
        | [v1, v2], _ =>
          obtain ⟨s2, n2⟩ := nw.set s1 hpi
          obtain ⟨s3, n3⟩ := n2.set s2 hpj
          exact ⟨v1, v2, rfl, PostS.nx (PostS.mono e1 q) s3⟩
theorem pd_parN3 {i j l : Nat} {x y z : Str} {a b c : Expr} {px py pz pt : Pos} {kt k2 pt2} (hpi : ∀ q, C.io = some q → q.1 ≠ i) (hpj : ∀ q, C.io = some q → q.1 ≠ j) (hpl : ∀ q, C.io = some q → q.1 ≠ l) (hc : X.calm = true) (hN : X.N.Nodup) (ha : PDns X C [a, b, c] g)
    (hi : X.N[i]? = some x := by rfl) (hj : X.N[j]? = some y := by rfl) (hl : X.N[l]? = some z := by rfl) (hij : i ≠ j := by decide) (hil : i ≠ l := by decide) (hjl : j ≠ l := by decide)
    (hx : X.env.scope.names.lookup x = some .local := by rfl) (hy : X.env.scope.names.lookup y = some .local := by rfl) (hz : X.env.scope.names.lookup z = some .local := by rfl)
    (hw : swappedStores [.Tuple [.Name x px, .Name y py, .Name z pz] kt pt] (.Tuple [a, b, c] k2 pt2) X.env = pure (some [x, y, z]) := by rfl)
    (hs : swapsWithSole [.Tuple [.Name x px, .Name y py, .Name z pz] kt pt] (.Tuple [a, b, c] k2 pt2) pos.line X.env = pure false := by rfl) :
    PDs X C (.Assign [.Tuple [.Name x px, .Name y py, .Name z pz] kt pt] (.Tuple [a, b, c] k2 pt2) pos) (S.parN [i, j, l] g) :=
  ps_imp (ps_par3 hc hN hi hj hl hij hil hjl hx hy hz ha hw hs) fun E σ H ⟨Hf, ρ, s, q⟩ => by
    refine ⟨Hf, ρ, s, ?_⟩
    unfold S.parN parR at q
    cases hg : g ρ with
    | ex e ρ1 => rw [hg] at q; exact (show False from q).elim
    | bad => rw [hg] at q; exact (show False from q).elim
    | ok ls ρ1 =>
      rw [hg] at q
      simp only at q
      intro vs H1 Hf1 e1 s1 nw
      match ls, q with
      | [], q => exact (show False from q).elim
      | [_], q => exact (show False from q).elim
      | [_, _], q => exact (show False from q).elim
      | _ :: _ :: _ :: _ :: _, q => exact (show False from q).elim
      | [l1, l2, l3], q =>
        have hl := nw.len
        match vs, hl with
        | [v1, v2, v3], _ =>
          obtain ⟨s2, n2⟩ := nw.set s1 hpi
          obtain ⟨s3, n3⟩ := n2.set s2 hpj
          obtain ⟨s4, n4⟩ := n3.set s3 hpl
          exact ⟨v1, v2, v3, rfl, PostS.nx (PostS.mono e1 q) s4⟩
end
end
end PD

set_option maxRecDepth 100000
set_option maxHeartbeats 4000000
set_option autoImplicit false
namespace L2
open PySem PySem.Spec PyProof.Rows PD
/-! ### {k: v} with a tuple for a key -/
def d1N (w : World) (K : PySem.W.Frag) (p : Addr) (Q : VK) : List (V × V) → Hp → Prop := fun ps H2 => H2 p = some (.dK []) ∧ ∃ b k y, ps = [(.ref b, y)] ∧ KeyIs K H2 (.ref b) k ∧
  ∀ r, RelV y r → Q (.ref p) (upd H2 p (.ext (RawN w p (storedH [] k b r))))
def tDisp1N (w : World) (K : PySem.W.Frag) (tk tv : TE) : TE := fun σ H Q => ∀ p, H p = none → tk σ (upd H p (.dK [])) fun x H1 => tv σ H1 fun y H2 => d1N w K p Q [(x, y)] H2
theorem pe_disp1N {X : Cx} {pos : Pos} {ke ve : Expr} {tk tv : TE} (hu : X.A.units + 9 < cLine) (hk : PE X ke tk) (hv : PE X ve tv) : PE X (.Dict [some ke] [ve] pos) (tDisp1N X.w X.K tk tv) := by
  refine ⟨fun pins s σ H Q I q => ?_⟩
  have hn := I.hok.fresh (Nat.le_refl s.heap.objs.size)
  have I1 := I.laid (a := s.heap.objs.size) (o := .dK []) (h' := s.heap.push { cls := .type "dict", data := .dict #[] }) (t' := s.toks) (fun _ _ q => Heap.get?_push_of_some _ q) (Nat.le_refl _) (dk_empty s.heap I.big)
  have h : PPs X pos [some ke] [ve] [(tk, tv)] := pps_cons hk hv pps_nil
  have h1 := h.run pins _ σ _ (d1N X.w X.K s.heap.objs.size Q) I1 (q s.heap.objs.size hn)
  have hlen := pairTrees_length [some ke] [ve] X.env pos rfl rfl
  rw [arm_eval_Dict, zip_pairTrees [some ke] [ve] X.env pos rfl rfl, dictDisplay_pairs (pairTrees [some ke] [ve] X.env pos) (fun e => by rw [e] at hlen; cases hlen) (by rw [hlen]; show 1 < 17; decide)]
  refine wpAny_bind (wpAny_standAt (wpAny_bind (wpAny_subDictH (knd := nestedKind X.prog X.w) (show X.A.units + 8 < cLine by omega) (by rw [hlen]; show 1 ≤ 15; decide) (thn h1 fun vs s2 hh => ?_))))
  obtain ⟨ps, H2, I2, rel, e, b, k, y, rfl, kk, hq⟩ := hh
  cases rel with
  | @cons p q ps qs hr t =>
    cases t
    obtain ⟨q1, q2⟩ := q
    obtain ⟨r1, r2⟩ := hr
    obtain rfl : q1 = Value.ref b := r1
    obtain ⟨hd, dd, hm⟩ := raw_at I2 (xs := []) (.inr ⟨e, rfl⟩) (fun z hz => by cases hz)
    refine ⟨[(k, b, q2)], ⟨rfl, rfl, kk.is I2, True.intro⟩, dd, fun h' tk' dd' hs' => wpAny_pure ⟨.ref s.heap.objs.size, _, ?_, rfl, hq q2 r2⟩⟩
    have he : ∃ q, h'.get? s.heap.objs.size = some q := let ⟨q, _, _, hq, _⟩ := dd'; ⟨q, hq⟩
    exact d_write I2 hm hs' he (raw_new (by have := storedH_len [] k b q2; rw [sizeLine_eq]; simp only [List.length_nil] at this; omega) hd dd')
end L2
namespace PD
open PySem PySem.Spec L2
open Evl (Ex)
section
variable {X : Cx} {C : Fc} {pos : Pos} {ke ve : Expr} {f g : M D}
theorem u9 {n : Nat} (h : n + 64 < cLine) : n + 9 < cLine := by omega
/-- {k: v}, a new dict -/
def M.dict1 (f g : M D) : M LV := M.bind f fun k => M.bind g fun v => M.lift (if tupK k = true then some (.dct (putKD [] k v)) else none)
theorem pdn_k1 (hw : C.w = X.w) (hu : X.A.units + 9 < cLine) (ha : ∀ C' : Fc, C'.sg = C.sg → PDe X C' ke f) (hb : ∀ C' : Fc, C'.sg = C.sg → PDe X C' ve g) : PDn X C (.Dict [some ke] [ve] pos) (M.dict1 f g) :=
  pe_imp (pe_disp1N hu (pe_any ha) (pe_any hb)) fun σ H Q ⟨Hf, ρ, s, h⟩ p hp => by
    have nf : Hf p = none := Evl.fresh_back s.e1 hp
    have hno : ∀ q ∈ C.no, p ≠ q.1 := fun q hq e => by
      obtain ⟨_, h⟩ := s.no q hq
      rw [← e, hp] at h
      cases h
    have s0 : SR X.K (C.hide p (.dK [])) Hf (upd H p (.dK [])) σ ρ := (s.grow (Grow.mine (o := .dK []) s.e1 hp)).hide nf upd_same fun j ⟨l, hj, oj⟩ e => by
      obtain ⟨b, ho, h1, h2, h3, _⟩ := s.ownd j l hj oj
      rw [h1] at e
      cases e
      rw [hp] at h3
      cases h3
    refine ⟨C.hide p (.dK []), rfl, Hf, ρ, s0, ?_⟩
    unfold M.dict1 M.bind at h
    cases hf : f ρ with
    | ex e ρ1 => rw [hf] at h; exact fun H' Hf' e1 s1 => h H' Hf' e1 s1.show_
    | bad => rw [hf] at h; exact (show False from h).elim
    | ok k ρ1 =>
      rw [hf] at h
      simp only at h
      intro v H1 Hf1 e1 s1 d1
      refine ⟨C.hide p (.dK []), rfl, Hf1, ρ1, s1, ?_⟩
      cases hg : g ρ1 with
      | ex e ρ2 => rw [hg] at h; exact fun H' Hf' e2 s2 => h H' Hf' (e1.trans e2) s2.show_
      | bad => rw [hg] at h; exact (show False from h).elim
      | ok x ρ2 =>
        rw [hg] at h
        simp only at h
        intro y H2 Hf2 e2 s2 d2
        obtain ⟨n1, n2⟩ := s2.no (p, .dK []) List.mem_cons_self
        unfold M.lift at h
        by_cases ht : tupK k = true
        case neg => rw [if_neg ht] at h; exact (show False from h).elim
        rw [if_pos ht] at h
        obtain ⟨zs, kk, rfl, hk, hd⟩ := tupK_of ht
        have d1' : Dp X.K Hf2 v (.tuple zs) := Dp.mono e2 _ _ d1
        obtain ⟨b, vs, rfl, _, _⟩ := d1'.tup_of
        refine ⟨n2, b, kk, y, rfl, KeyIs.mono s2.e1 ⟨⟨b, rfl⟩, _, d1', hk, hd⟩, fun r rr => ?_⟩
        have s3 := s2.rehide (ws := .ext (RawN X.w p (storedH [] kk b r))) hno (s.h0 hp)
        refine h (.ref p) _ Hf2 (e1.trans e2) s3.show_ ⟨p, _, rfl, n1, upd_same, ?_, s.h0 hp, hno, fun j ⟨l, hj, oj⟩ e => ?_⟩
        · rw [hw]
          exact .inr ⟨_, rfl, RelN.put hk hd d1' rr d2 .nil, storedH_ne⟩
        · obtain ⟨b', ho, z1, _, _, _, _, z6⟩ := s2.ownd j l hj oj
          rw [z1] at e
          cases e
          exact z6 (p, .dK []) List.mem_cons_self rfl
/-- d = {} and the like -/
def S.new (i : Nat) (f : M LV) : MS := S.ofM f fun l ρ => .nx (ρ.set i (some l))
theorem pd_new {i : Nat} {x : Str} {e : Expr} {f : M LV} {pos' : Pos} (hp : ∀ q, C.io = some q → q.1 ≠ i) (hN : X.N.Nodup) (ha : PDn X C e f) (hi : X.N[i]? = some x := by rfl) (hx : Loc X.env.scope x := by first | exact Or.inl rfl | exact Or.inr rfl) (hs : swapsWith e (some (.Name x pos')) pos.line X.env = pure false := by rfl)
    (hf : X.fn x = true ∨ X.env.scope.names.lookup x = some .local := by first | exact .inl rfl | exact .inr rfl) : PDs X C (.Assign [.Name x pos'] e pos) (S.new i f) :=
  ps_imp (ps_set hN hi hx ha hs hf) fun E σ H ⟨Hf, ρ, s, q⟩ => tS_bind s q fun v l H1 Hf1 ρ1 e1 s1 d1 h1 => by
    cases l with
    | d x => exact PostS.nx h1 (s1.setD d1 hp)
    | own xs =>
      obtain ⟨a, ho, rfl, fr⟩ := d1
      exact PostS.nx h1 (s1.setL fr.f fr.h fr.o fr.z fr.n fr.j hp)
    | dct kvs =>
      obtain ⟨a, ho, rfl, fr⟩ := d1
      exact PostS.nx h1 (s1.setL fr.f fr.h fr.o fr.z fr.n fr.j hp)
/-- a new list times an int -/
def repO (xs : List D) : D → Option (List D)
  | .int k => if -(2 ^ 63) ≤ k ∧ k < 2 ^ 63 ∧ xs.length * k.toNat ≤ sizeLine then some (List.replicate k.toNat xs).flatten else none
  | _ => none
def M.repL (f : M (List D)) (g : M D) : M (List D) := M.bind f fun xs => M.bind g fun y => M.lift (repO xs y)
theorem pdl_rep {a b : Expr} {f : M (List D)} {g : M D} (ha : PDl X C a f) (hb : ∀ C' : Fc, C'.sg = C.sg → PDe X C' b g) : PDl X C (.BinOp a .Mult b pos) (M.repL f g) :=
  pe_imp (pe_op op_rep ha (pe_any hb)) fun σ H Q ⟨Hf, ρ, s, h⟩ => tG_bind s h fun v xs H1 Hf1 ρ1 e1 s1 r1 h1 => by
    obtain ⟨a, vs, rfl, g1, g2, g3, g4, g5, g6⟩ := r1
    refine ⟨C.hide a (.lst vs), rfl, Hf1, ρ1, s1.hide g1 g2 g6, ?_⟩
    unfold M.bind at h1
    cases hg : g ρ1 with
    | ex e ρ2 => rw [hg] at h1; exact fun H' Hf' e2 s2 => h1 H' Hf' e2 s2.show_
    | bad => rw [hg] at h1; exact (show False from h1).elim
    | ok y ρ2 =>
      rw [hg] at h1
      simp only at h1
      intro w H2 Hf2 e2 s2 d2
      obtain ⟨n1, n2⟩ := s2.no (a, .lst vs) List.mem_cons_self
      obtain ⟨z, hz, h4⟩ := PostG.lift h1
      cases y <;> first | (cases hz; done) | skip
      rename_i k
      have hz : (if -(2 ^ 63) ≤ k ∧ k < 2 ^ 63 ∧ xs.length * k.toNat ≤ sizeLine then some (List.replicate k.toNat xs).flatten else none) = some z := hz
      split at hz
      · rename_i hk
        cases hz
        have g3' := DpAll.mono e2 _ _ g3
        have hl : vs.length = xs.length := DpAll.length g3
        refine ⟨a, k, vs, rfl, d2.int_of, n2, hk.1, hk.2.1, by rw [hl]; exact hk.2.2, fun p hp => ?_⟩
        have s3 := s2.show_
        exact PostG.nowG (b := V.ref p) (PostG.mono e2 h4) s3 (Grow.mine (o := .lst (List.replicate k.toNat vs).flatten) s3.e1 hp) (s3.newL hp (DpAll.rep _ g3'))
      · cases hz
end
end PD

set_option maxRecDepth 100000
set_option maxHeartbeats 4000000
set_option autoImplicit false
namespace PD
open PySem PySem.Spec L2
open Evl (Ex)
/-! ### four names at once: by way of a tuple -/
theorem News.grow {K : PySem.W.Frag} {σ : L2.St} {Hf H : Hp} {ρ : DE} {C : Fc} {vs : List V} {ls : List LV} {p : Addr} {o : HO} (hp : H p = none) (h : News K σ Hf H ρ C vs ls) : News K σ Hf (upd H p o) ρ C vs ls := by
  induction h with
  | nil => exact .nil
  | d hd _ ih => exact .d hd ih
  | @o C a ho l vs ls fr _ ih =>
    refine .o ⟨fr.f, ?_, fr.o, fr.z, fr.n, fr.j⟩ ih
    have : a ≠ p := fun e => by have := fr.h; rw [e, hp] at this; cases this
    rw [upd_ne this]
    exact fr.h
section
variable {X : Cx} {C : Fc} {pos : Pos} {g : M (List LV)}
theorem pd_parN4 {i j k l : Nat} {x y z u : Str} {a b c d : Expr} {px py pz pu pt : Pos} {kt k2 pt2} (hpi : ∀ q, C.io = some q → q.1 ≠ i) (hpj : ∀ q, C.io = some q → q.1 ≠ j) (hpk : ∀ q, C.io = some q → q.1 ≠ k) (hpl : ∀ q, C.io = some q → q.1 ≠ l) (hc : X.calm = true) (hN : X.N.Nodup) (ha : PDns X C [a, b, c, d] g)
    (hi : X.N[i]? = some x := by rfl) (hj : X.N[j]? = some y := by rfl) (hk : X.N[k]? = some z := by rfl) (hl : X.N[l]? = some u := by rfl)
    (hx : X.env.scope.names.lookup x = some .local := by rfl) (hy : X.env.scope.names.lookup y = some .local := by rfl) (hz : X.env.scope.names.lookup z = some .local := by rfl) (hu : X.env.scope.names.lookup u = some .local := by rfl)
    (hn : (assignEach [.Name x px, .Name y py, .Name z pz, .Name u pu] X.env).length = 4 := by rfl) (hst : (assignEach [.Name x px, .Name y py, .Name z pz, .Name u pu] X.env).findIdx? (·.1) = none := by rfl)
    (hs : swapsWithSole [.Tuple [.Name x px, .Name y py, .Name z pz, .Name u pu] kt pt] (.Tuple [a, b, c, d] k2 pt2) pos.line X.env = pure false := by rfl) (hw : swappedStores [.Tuple [.Name x px, .Name y py, .Name z pz, .Name u pu] kt pt] (.Tuple [a, b, c, d] k2 pt2) X.env = pure none := by rfl)
    (h1 : (assignEach [.Tuple [.Name x px, .Name y py, .Name z pz, .Name u pu] kt pt] X.env).map (·.2) = [assign (.Tuple [.Name x px, .Name y py, .Name z pz, .Name u pu] kt pt) X.env] := by rfl) :
    PDs X C (.Assign [.Tuple [.Name x px, .Name y py, .Name z pz, .Name u pu] kt pt] (.Tuple [a, b, c, d] k2 pt2) pos) (S.parN [i, j, k, l] g) :=
  ps_imp (ps_asg (pe_tup ha) (pg_tup hc (pgs_cons (pg_name hN hi (.inl hx) (.inr hx)) (pgs_cons (pg_name hN hj (.inl hy) (.inr hy)) (pgs_cons (pg_name hN hk (.inl hz) (.inr hz)) (pgs_cons (pg_name hN hl (.inl hu) (.inr hu)) pgs_nil)))) hn hst) hs hw h1) fun E σ H ⟨Hf, ρ, s, q⟩ => by
    refine ⟨Hf, ρ, s, ?_⟩
    unfold S.parN parR at q
    cases hg : g ρ with
    | ex e ρ1 => rw [hg] at q; exact (show False from q).elim
    | bad => rw [hg] at q; exact (show False from q).elim
    | ok ls ρ1 =>
      rw [hg] at q
      simp only at q
      intro vs H1 Hf1 e1 s1 nw
      have hlen := nw.len
      match ls, q with
      | [], q => exact (show False from q).elim
      | [_], q => exact (show False from q).elim
      | [_, _], q => exact (show False from q).elim
      | [_, _, _], q => exact (show False from q).elim
      | _ :: _ :: _ :: _ :: _ :: _, q => exact (show False from q).elim
      | [l1, l2, l3, l4], q =>
        match vs, hlen with
        | [v1, v2, v3, v4], _ =>
          refine ⟨by rw [sizeLine_eq]; show 4 ≤ 16777216; decide, fun p hp => ?_⟩
          have s1' := s1.grow (Grow.mine (o := .tup [v1, v2, v3, v4]) s1.e1 hp)
          have nw' := nw.grow (o := .tup [v1, v2, v3, v4]) hp
          obtain ⟨s2, n2⟩ := nw'.set s1' hpi
          obtain ⟨s3, n3⟩ := n2.set s2 hpj
          obtain ⟨s4, n4⟩ := n3.set s3 hpk
          obtain ⟨s5, n5⟩ := n4.set s4 hpl
          exact ⟨p, _, rfl, SqT.of upd_same, rfl, v1, _, rfl, v2, _, rfl, v3, _, rfl, v4, _, rfl, rfl, PostS.nx (PostS.mono e1 q) s5⟩
end
end PD

set_option maxRecDepth 100000
set_option maxHeartbeats 4000000
set_option autoImplicit false
namespace PySem
open Sem (wp)
theorem pd_meets_enum {v : Value} {o : Obj} {H : Heap → Prop} (B : Begins v o H) :
    Meets (Builtin.«enumerate.__new__» ⟨[.type "enumerate", v], []⟩) (fun _ R s => H s.heap ∧
      R (.ok (.ret (.ref (s.heap.push o).objs.size))) { s with heap := (s.heap.push o).push { cls := .type "enumerate", data := .fields #[.none, .bool false, .ref s.heap.objs.size, rawInt 0, .none, .none] } }) :=
  .of_wp fun prog w A R s h => by
    obtain ⟨hp, g, d, tk, os⟩ := s; obtain ⟨h1, h⟩ := h
    have hsub := sub_enumerate
    have q1 : ∀ {A' : Around} {E : Value → Shared → Prop} {Q : Value → Shared → Prop}, Q (.ref hp.objs.size) ⟨hp.push o, g, d, tk, os⟩ → wpAny (model prog w) A' (pyIter v) Q E ⟨hp, g, d, tk, os⟩ :=
      fun q => B.iter prog w _ _ ⟨hp, g, d, tk, os⟩ _ h1 q
    wp_walk using q1
    refine wpAny_stack_any fun st => wpAny_pure ?_
    split
    · rename_i c _ _ _ _ _
      cases (c == Value.type "enumerate")
      · wp_walk using q1
        exact ⟨_, rfl, h⟩
      · wp_walk using q1
        exact ⟨_, rfl, h⟩
    · wp_walk using q1
      exact ⟨_, rfl, h⟩
section
variable {prog : Program} {w : World} {A : Around} {E : Value → Shared → Prop} {s : Shared}
theorem pd_enum_begins {v : Value} {o : Obj} {H : Heap → Prop} {Q : Value → Shared → Prop} (B : Begins v o H) (h1 : H s.heap)
    (h : ∀ h', IsEnum h' (s.heap.objs.size + 1) s.heap.objs.size 0 .none → h'.get? s.heap.objs.size = some o → h'.objs.size = s.heap.objs.size + 2 →
      (∀ b o, s.heap.get? b = some o → h'.get? b = some o) → Q (.ref (s.heap.objs.size + 1)) { s with heap := h' }) :
    wpAny (model prog w) A (call (.type "enumerate") [v]) Q E s := by
  refine callType_new F.called_enumerate (by decide) (F.typeCall_enumerate_1 _) (F.newCall_enumerate_1 _) (fun obj => F.args_object_init_2 obj _) F.entry_enumerate_new
    (pd_meets_enum B) ⟨h1, ?_⟩
  have hz : (s.heap.push o).objs.size = s.heap.objs.size + 1 := Heap.size_push ..
  show _ ∧ _
  rw [hz]
  have he : IsEnum ((s.heap.push o).push { cls := .type "enumerate", data := .fields #[.none, .bool false, .ref s.heap.objs.size, rawInt 0, .none, .none] }) (s.heap.objs.size + 1) s.heap.objs.size 0 .none := by
    have := Heap.get?_push_size (s.heap.push o) (o := { cls := .type "enumerate", data := .fields #[.none, .bool false, .ref s.heap.objs.size, rawInt 0, .none, .none] }) rfl
    rw [hz] at this; exact this
  refine ⟨⟨_, he, rfl⟩, h _ he (Heap.get?_push_of_some _ (Heap.get?_push_size _ B.free)) (by rw [Heap.size_push, hz]) fun b o x => Heap.get?_push_of_some _ (Heap.get?_push_of_some _ x)⟩
end
end PySem
namespace PySem
open Sem (wp)
section
variable {prog : Program} {w : World} {A : Around} {E : Value → Shared → Prop} {s : Shared}
theorem pd_enum_endT {e it a : Addr} {items : Array Value} {i : Nat} {old : Value} {Q : Option Value → Shared → Prop} (hh : A.handled = none)
    (he : IsEnum s.heap e it i old) (hit : s.heap.IsTupleIter it a i) (ht : s.heap.IsTuple a items) (hx : items[i]? = none)
    (hQ : ∀ h', Heap.ExtBut it s.heap h' → Q none { s with heap := h' }) : wpAny (model prog w) A (pyNext (.ref e)) Q E s := by
  have hT : s.TypeIs (.ref e) "enumerate" := ⟨_, he, rfl⟩
  unfold pyNext
  refine wpAny_bind (wpAny_attempt (wpAny_callSpecial?_slot (name := Str.ofString "__next__") hT F.slot_enumerate_next
    (wpAny_call_entry F.slot_enumerate_next hT F.entry_enumerate_next ?_ (F.args_enumerate_next_1 _))))
  show wpAny _ _ (field (.ref e) 2 >>= _) _ _ _
  refine wpAny_bind (wpAny_field he rfl (x := .ref it) rfl ?_)
  refine wpAny_bind (wpAny_nextOf_tuple_end (A := A.in1) hh hit ht hx fun h' x he' hx' => ?_)
  obtain ⟨o, ho, hc⟩ := hx'
  refine wpAny_bind (wpAny_isInstance (T := "StopIteration") (b := true) ⟨o, ho, hc⟩ isSubtype_stop ?_)
  exact wpAny_pure (hQ _ he')
end
end PySem
namespace PD
open PySem PySem.Spec L2 PyProof.Rows
/-! ### enumerate(tuple), enumerate(list) -/
/-- the tuple at a, each item in a new pair -/
def IteT (K : PySem.W.Frag) (a : Addr) : It :=
  ⟨fun i H => ∃ (xs : List V) (x : V), SqT K H a xs ∧ xs[i]? = some x, fun i H v H' => ∃ T x, v = .ref T ∧ H T = none ∧ H' = upd H T (.tup [.int (i : Nat), x]) ∧ ∀ xs, SqT K H a xs → xs[i]? = some x, fun i H => ∃ xs : List V, SqT K H a xs ∧ xs.length ≤ i⟩
theorem turn_enumT {P : Program} {w : World} {K : PySem.W.Frag} {elts : List Expr} {kk : Nat} {tpos : Pos} (a e it : Addr) (hne : e ≠ it) (hea : e ≠ a) (hai : a ≠ it) :
    Turn P w K (.Tuple elts kk tpos) (IteT K a) [e, it] e (fun i h => (∃ old, IsEnum h e it ((i : Nat) : Int) old) ∧ h.IsTupleIter it a i) where
  mem := by simp
  obj := fun i h st b hb => by
    obtain ⟨⟨old, he⟩, ⟨o, ho, hc, hd⟩⟩ := st
    have e' : b = e ∨ b = it := by simpa using hb
    rcases e' with z | z
    · rw [z]; exact ⟨_, he, fun v q => nomatch q⟩
    · rw [z]; exact ⟨o, ho, fun v q => by rw [hd] at q; cases q⟩
  keep := fun i h h' st k => let ⟨⟨old, he⟩, hi⟩ := st; ⟨⟨old, k e (by simp) _ he⟩, hi.at fun o q => k it (by simp) o q⟩
  item := by
    intro X hP hw hK hc i pins s σ H E I hf st hg
    subst hP hw hK
    obtain ⟨⟨old, he⟩, hit⟩ := st
    obtain ⟨xs, x, hq, hx⟩ := hg
    obtain ⟨its, rv, p, hz⟩ := I.tuple hq
    obtain ⟨u, hu, ru⟩ := rv.get hx
    have hel : e < s.heap.objs.size := Heap.lt_size he
    have hil : it < s.heap.objs.size := by obtain ⟨_, q, _⟩ := hit; exact Heap.lt_size q
    have D := Draws.tuple (prog := X.prog) (w := X.w) (A := X.A.in1) (I.ok.hd hc) it a hai its.toArray
    have hu' : its.toArray[i]? = some u := by simpa using hu
    have hlt : i < its.toArray.size := by
      have := (List.getElem?_eq_some_iff.mp hu).1
      simpa using this
    refine wpAny_pyNext_enum_itemD D he ⟨hit, p⟩ hlt hne (by simp [hne, hea]) fun x' h' tk hP ho hst' hT hsz hk => ?_
    have ex : x' = u := by
      have := hP.symm.trans hu'
      exact Option.some.inj this
    subst ex
    refine ⟨_, rfl, wpAny_letOwnedTupleGo_enum (s := { s with heap := h', toks := tk + 1 }) ho fun h'' he' sb => ?_⟩
    have hT2 : h''.get? s.heap.objs.size = some { cls := .type "tuple", data := .seq #[.int i tk, x'] } := (sb.2 _ (Nat.ne_of_gt hel)).trans hT
    have new : ObjOk X.prog X.w (upd H s.heap.objs.size (.tup [.int (i : Nat), x])) h'' s.heap.objs.size (.tup [.int (i : Nat), x]) :=
      ⟨by show 2 ≤ sizeLine; decide, [.int i tk, x'], .cons ⟨_, rfl⟩ (.cons ru .nil), ⟨_, hT2, rfl, _, rfl⟩⟩
    have I1 : Inv X pins σ (upd H s.heap.objs.size (.tup [.int (i : Nat), x])) { s with heap := h'', toks := tk + 1 } :=
      I.turnedNew (ch := [e, it]) (fun b ob hb q => (sb.2 b (fun z => hb (by simp [z]))).trans (hk b ob (fun z => hb (by simp [z])) (fun z => hb (by simp [z])) q)) hf (Nat.le_refl _) new
    refine ⟨.ref s.heap.objs.size, _, I1, rfl, ⟨_, x, rfl, I.hok.fresh (Nat.le_refl _), rfl, fun ys hy => by rw [I.tuple_inj hy hq]; exact hx⟩, ⟨⟨x', ?_⟩, hst'.1.at fun o q => (sb.2 it (Ne.symm hne)).trans q⟩, fun b hb => ?_⟩
    · have e1 : ((i + 1 : Nat) : Int) = (i : Int) + 1 := by omega
      rw [e1]; exact he'
    · have hb' : b < s.heap.objs.size := by
        have e' : b = e ∨ b = it := by simpa using hb
        rcases e' with z | z
        · rw [z]; exact hel
        · rw [z]; exact hil
      rw [upd_ne (Nat.ne_of_lt hb')]
      exact (hf b hb).1
  done := by
    intro X hP hw hK hc i pins s σ H E I hf st hg
    subst hP hw hK
    obtain ⟨⟨old, he⟩, hit⟩ := st
    obtain ⟨xs, hq, hx⟩ := hg
    obtain ⟨its, rv, p, hz⟩ := I.tuple hq
    obtain ⟨f0, f1, f2, f3, f4, f5⟩ := hf it (by simp)
    have hl := rv.length
    exact pd_enum_endT (I.ok.hd hc) he hit p (by simp; omega) fun h' eb => ⟨rfl, I.turned (t' := s.toks) (fun b o hb q => eb b o hb q) f0 f1 f3 f4 f5⟩
  self := fun A i s Q E st h => let ⟨⟨_, he⟩, _⟩ := st; wpAny_pyIter_enum he h
def iEnumA (K : PySem.W.Frag) (ta : TA) : TI := fun σ H R => ta σ H fun vs H1 => ∃ a xs, vs = [.ref a] ∧ ((SqL K H1 a xs ∧ R (Ite K a) H1) ∨ (SqT K H1 a xs ∧ R (IteT K a) H1))
theorem pi_enumA {X : Cx} {e : Expr} {ta : TA} {p pos tpos : Pos} {elts : List Expr} {kk : Nat} (hg : Gl X "enumerate") (hm : X.mg "enumerate" = none) (ha : PA X [e] ta) (hs : starEach [e] X.env = [(false, eval e X.env)] := by rfl) :
    PI X (.Tuple elts kk tpos) (.Call (.Name "enumerate" p) [e] [] pos) (iEnumA X.K ta) := by
  refine ⟨fun pins s σ H R I h => ?_⟩
  refine Call_ (ld_blt I hg hm PyProof.Rows.boot_enumerate (PyProof.Rows.callWith_type1 (thn (ha.run pos pins s σ H _ I h) fun us s1 ⟨vs, H1, I1, r1, q1⟩ => ?_) hs rfl))
  obtain ⟨a, xs, ex, hq⟩ := q1
  subst ex
  cases r1 with
  | cons r rr =>
    cases rr
    cases r
    have fp : ∀ b, b ∈ [s1.heap.objs.size + 1, s1.heap.objs.size] → FpOk X pins H1 b := fun b hb => by
      have e' : b = s1.heap.objs.size + 1 ∨ b = s1.heap.objs.size := by simpa using hb
      have hle : s1.heap.objs.size ≤ b := by
        rcases e' with z | z
        · rw [z]; exact Nat.le_add_right _ _
        · rw [z]; exact Nat.le_refl _
      exact I1.fpOk hle (I1.hok.fresh hle)
    rcases hq with ⟨hq, q⟩ | ⟨hq, q⟩
    · obtain ⟨its, rv, p', hz⟩ := I1.list hq
      refine call_enumerate_list p'.isList fun h' he hit hsz hk => wpAny_pyIter_enum he ?_
      have I2 : Inv X pins σ H1 { s1 with heap := h' } := I1.kept (t' := s1.toks) hk
      exact ⟨s1.heap.objs.size + 1, [s1.heap.objs.size + 1, s1.heap.objs.size], _, _, H1, rfl, I2, turn_enum a (s1.heap.objs.size + 1) s1.heap.objs.size, ⟨⟨.none, he⟩, hit, Nat.succ_ne_self _⟩, fp, q⟩
    · obtain ⟨its, rv, p', hz⟩ := I1.tuple hq
      obtain ⟨o1, ho1, _⟩ := id p'
      have hlt : a < s1.heap.objs.size := Heap.lt_size ho1
      refine pd_enum_begins (begins_tuple a its.toArray) p' fun h' he hit hsz hk => wpAny_pyIter_enum he ?_
      have I2 : Inv X pins σ H1 { s1 with heap := h' } := I1.kept (t' := s1.toks) hk
      exact ⟨s1.heap.objs.size + 1, [s1.heap.objs.size + 1, s1.heap.objs.size], _, _, H1, rfl, I2, turn_enumT a (s1.heap.objs.size + 1) s1.heap.objs.size (Nat.succ_ne_self _) (Nat.ne_of_gt (Nat.lt_succ_of_lt hlt)) (Nat.ne_of_lt hlt), ⟨⟨.none, he⟩, ⟨_, hit, rfl, rfl⟩⟩, fp, q⟩
def enumL (xs : List D) : List D := (xs.zipIdx).map fun p => .tuple [.int (p.2 : Nat), p.1]
def enumD : List D → Option (List D)
  | [.list xs] => some (enumL xs)
  | [.tuple xs] => some (enumL xs)
  | _ => none
theorem enumL_get {xs : List D} {i : Nat} {z : D} (h : (enumL xs)[i]? = some z) : ∃ x, xs[i]? = some x ∧ z = .tuple [.int (i : Nat), x] := by
  unfold enumL at h
  rw [List.getElem?_map, List.getElem?_zipIdx] at h
  cases q : xs[i]? with
  | none => rw [q] at h; cases h
  | some x =>
    rw [q] at h
    cases h
    exact ⟨x, rfl, by rw [Nat.zero_add]⟩
theorem enumL_len (xs : List D) : (enumL xs).length = xs.length := by
  unfold enumL
  rw [List.length_map, List.length_zipIdx]
section
variable {X : Cx} {C : Fc} {p pos tpos : Pos} {e : Expr} {ga : M (List PD.Arg)}
theorem it_enumL {K : PySem.W.Frag} {σ : L2.St} {Hf H0 : Hp} {ρ : DE} {a : Addr} {us : List V} {xs : List D} (h : SqL K Hf a us) (d : DpAll K Hf us xs) : relI K σ Hf H0 ρ (Ite K a) (enumL xs) := by
  refine ⟨fun i Hf1 H z e1 e2 hz => ?_, fun i Hf1 H e1 e2 hi => ⟨us, Evl.ex_l (e1.trans e2) h, by rw [d.length, ← enumL_len]; exact hi⟩⟩
  obtain ⟨x, hx, rfl⟩ := enumL_get hz
  obtain ⟨v, g1, g2⟩ := d.get hx
  have q := Evl.ex_l (e1.trans e2) h
  refine ⟨⟨us, v, q, g1⟩, fun v' H2 ⟨T, x', ev, hT, eH, hx'⟩ => ?_⟩
  subst ev eH
  have a1 := (hx' us q).symm.trans g1
  cases a1
  exact pair_new e2 hT (.int _) (Dp.mono e1 _ _ g2)
theorem it_enumT {K : PySem.W.Frag} {σ : L2.St} {Hf H0 : Hp} {ρ : DE} {a : Addr} {us : List V} {xs : List D} (h : SqT K Hf a us) (d : DpAll K Hf us xs) : relI K σ Hf H0 ρ (IteT K a) (enumL xs) := by
  refine ⟨fun i Hf1 H z e1 e2 hz => ?_, fun i Hf1 H e1 e2 hi => ⟨us, Evl.ex_t (e1.trans e2) h, by rw [d.length, ← enumL_len]; exact hi⟩⟩
  obtain ⟨x, hx, rfl⟩ := enumL_get hz
  obtain ⟨v, g1, g2⟩ := d.get hx
  have q := Evl.ex_t (e1.trans e2) h
  refine ⟨⟨us, v, q, g1⟩, fun v' H2 ⟨T, x', ev, hT, eH, hx'⟩ => ?_⟩
  subst ev eH
  have a1 := (hx' us q).symm.trans g1
  cases a1
  exact pair_new e2 hT (.int _) (Dp.mono e1 _ _ g2)
theorem pdi_enum {elts : List Expr} {kk : Nat} (hm : X.mg "enumerate" = none) (ha : PDa X C [e] ga) (hg : Gl X "enumerate" := by rfl)
    (hs : starEach [e] X.env = [(false, eval e X.env)] := by rfl) : PDi X C (.Tuple elts kk tpos) (.Call (.Name "enumerate" p) [e] [] pos) (M.callL enumD ga) :=
  pi_imp (pi_enumA hg hm ha hs) fun σ H Q ⟨Hf, ρ, s, h⟩ => tG_bind s h fun vs as H1 Hf1 ρ1 e1 s1 d1 h1 => by
    obtain ⟨xs, z, hd, hz, h2⟩ := callL_go h1
    have da := ArgsRel.dats d1 hd
    unfold enumD at hz
    split at hz
    · cases hz
      obtain ⟨v, rfl, g⟩ := dp1 da
      obtain ⟨a, us, rfl, a1, a2⟩ := g.list_of
      exact ⟨a, us, rfl, .inl ⟨Evl.ex_l s1.e1 a1, PostG.now (b := Ite X.K a) h2 s1 (it_enumL a1 a2)⟩⟩
    · cases hz
      obtain ⟨v, rfl, g⟩ := dp1 da
      obtain ⟨a, us, rfl, a1, a2⟩ := g.tup_of
      exact ⟨a, us, rfl, .inr ⟨Evl.ex_t s1.e1 a1, PostG.now (b := IteT X.K a) h2 s1 (it_enumT a1 a2)⟩⟩
    · cases hz
end
end PD

set_option maxRecDepth 100000
set_option maxHeartbeats 4000000
set_option autoImplicit false
namespace PD
open PySem PySem.Spec L2
open Evl (Ex)
/-! ### {k: v, ..}.get(x, y), the keys constants; d.get(x, y) -/
def M.pairs : List (Key × M D) → M (List (D × D))
  | [] => M.ret []
  | (k, f) :: r => M.bind f fun v => M.bind (M.pairs r) fun ps => M.ret ((keyD k, v) :: ps)
def mergeKD (ps : List (D × D)) : List (D × D) := ps.foldl (fun acc p => putKD acc p.1 p.2) []
def M.dget (ps : List (Key × M D)) (f g : M D) : M D := M.bind (M.pairs ps) fun kvs => M.bind f fun x => M.bind g fun d => M.lift (if scalK x = true then some ((getK (mergeKD kvs) x).getD d) else none)
inductive PDps (X : Cx) (sg : Option (Nat × Addr) × World) : List (Option Expr) → List Expr → List (Key × M D) → Prop
  | nil : PDps X sg [] [] []
  | cons {k : Key} {ke ve : Expr} {f : M D} {ks : List (Option Expr)} {vs : List Expr} {ps : List (Key × M D)} (hk : PE X ke (tC (kV k))) (hv : ∀ C' : Fc, C'.sg = sg → PDe X C' ve f) (t : PDps X sg ks vs ps) : PDps X sg (some ke :: ks) (ve :: vs) ((k, f) :: ps)
def trsOf (X : Cx) (sg : Option (Nat × Addr) × World) (ps : List (Key × M D)) : List (TE × TE) := ps.map fun p => (tC (kV p.1), tX X.K sg (relD X.K) p.2)
section
variable {X : Cx} {sg : Option (Nat × Addr) × World}
theorem PDps.pps {pos : Pos} {ks : List (Option Expr)} {vs : List Expr} {ps : List (Key × M D)} (h : PDps X sg ks vs ps) : PPs X pos ks vs (trsOf X sg ps) := by
  induction h with
  | nil => exact pps_nil
  | cons hk hv _ ih => exact pps_cons hk (pe_any hv) ih
theorem PDps.len {ks : List (Option Expr)} {vs : List Expr} {ps : List (Key × M D)} (h : PDps X sg ks vs ps) : ks.length = vs.length := by
  induction h with
  | nil => rfl
  | cons _ _ _ ih => rw [List.length_cons, List.length_cons, ih]
theorem PDps.all {ks : List (Option Expr)} {vs : List Expr} {ps : List (Key × M D)} (h : PDps X sg ks vs ps) : ks.all (·.isSome) = true := by
  induction h with
  | nil => rfl
  | cons _ _ _ ih => rw [List.all_cons, ih]; rfl
theorem pairs_go : ∀ (ps : List (Key × M D)) (C' : Fc), C'.sg = sg → ∀ (σ : L2.St) (H Hf : Hp) (ρ : DE) (Q : List (V × V) → Hp → Prop), SR X.K C' Hf H σ ρ →
    (match M.pairs ps ρ with
      | .ok kvs ρ' => ∀ (vs : List (Key × V)) (H' Hf' : Hp), Ex Hf Hf' → SR X.K C' Hf' H' σ ρ' → KeysRel X.K Hf' vs kvs → vs.length = ps.length → Q (vs.map fun kv => (kV kv.1, kv.2)) H'
      | .ex e ρ' => ∀ (H' Hf' : Hp), Ex Hf Hf' → SR X.K C' Hf' H' σ ρ' → C'.E e H'
      | .bad => False) → tPairs (trsOf X sg ps) σ H Q
  | [], C', hc, σ, H, Hf, ρ, Q, s, h => h [] H Hf (Ex.refl _) s .nil rfl
  | (k, f) :: ps, C', hc, σ, H, Hf, ρ, Q, s, h => by
    show tX X.K sg (relD X.K) f σ H _
    refine ⟨C', hc, Hf, ρ, s, ?_⟩
    unfold M.pairs M.bind at h
    cases hf : f ρ with
    | ex e ρ1 => rw [hf] at h; exact h
    | bad => rw [hf] at h; exact h
    | ok v ρ1 =>
      rw [hf] at h
      simp only at h
      intro y H1 Hf1 e1 s1 d1
      refine pairs_go ps C' hc σ H1 Hf1 ρ1 _ s1 ?_
      cases hp : M.pairs ps ρ1 with
      | ex e ρ2 => rw [hp] at h; exact fun H' Hf' e2 s2 => h H' Hf' (e1.trans e2) s2
      | bad => rw [hp] at h; exact h
      | ok kvs ρ2 =>
        rw [hp] at h
        exact fun vs H' Hf' e2 s2 r hl => h ((k, y) :: vs) H' Hf' (e1.trans e2) s2 (.cons ⟨rfl, Dp.mono e2 _ _ d1⟩ r) (by rw [List.length_cons, List.length_cons, hl])
theorem KeysRel.merge {K : PySem.W.Frag} {Hf : Hp} {vs : List (Key × V)} {kvs : List (D × D)} (r : KeysRel K Hf vs kvs) : ∀ {as : List (Key × V)} {bs : List (D × D)}, KeysRel K Hf as bs → KeysRel K Hf (mergeK as vs) (kvs.foldl (fun acc p => putKD acc p.1 p.2) bs) := by
  induction r with
  | nil => exact fun h => h
  | @cons p ps q qs h t ih =>
    intro as bs r
    have h1 := h.1
    have h2 := h.2
    refine ih ?_
    show KeysRel K Hf (putK as p.1 p.2) (putKD bs ps.1 ps.2)
    rw [← h1]
    exact KeysRel.put h2 r
end
section
variable {X : Cx} {C : Fc} {pos : Pos} {e f : Expr} {kk dd : M D}
theorem pd_dget {ks : List (Option Expr)} {vs : List Expr} {ps : List (Key × M D)} {dpos apos cpos : Pos} (hu : X.A.units + 9 < cLine) (hps : PDps X C.sg ks vs ps) (he : ∀ C' : Fc, C'.sg = C.sg → PDe X C' e kk) (hf : ∀ C' : Fc, C'.sg = C.sg → PDe X C' f dd) (m : M2 X (.Dict ks vs dpos) "get" apos e f cpos) (h0 : ks ≠ []) (h15 : ks.length ≤ 15) (hpl : ps.length ≤ 15) :
    PDe X C (.Call (.Attribute (.Dict ks vs dpos) "get" apos) [e, f] [] cpos) (M.dget ps kk dd) :=
  pe_imp (pe_dget2 (by omega) (pe_disp hps.pps hps.all hps.len h0 h15) (pe_any he) (pe_any hf) m) fun σ H Q ⟨Hf, ρ, s, h⟩ p hp => by
    have nf : Hf p = none := Evl.fresh_back s.e1 hp
    have hno : ∀ q ∈ C.no, p ≠ q.1 := fun q hq e => by
      obtain ⟨_, h⟩ := s.no q hq
      rw [← e, hp] at h
      cases h
    have s0 : SR X.K (C.hide p (.dK [])) Hf (upd H p (.dK [])) σ ρ := (s.grow (Grow.mine (o := .dK []) s.e1 hp)).hide nf upd_same fun j ⟨l, hj, oj⟩ e => by
      obtain ⟨b, ho, h1, h2, h3, _⟩ := s.ownd j l hj oj
      rw [h1] at e
      cases e
      rw [hp] at h3
      cases h3
    refine pairs_go ps (C.hide p (.dK [])) rfl σ _ Hf ρ _ s0 ?_
    unfold M.dget M.bind at h
    cases hps : M.pairs ps ρ with
    | ex e ρ1 => rw [hps] at h; exact fun H' Hf' e1 s1 => h H' Hf' e1 s1.show_
    | bad => rw [hps] at h; exact (show False from h).elim
    | ok kvs ρ1 =>
      rw [hps] at h
      simp only at h
      intro vs H1 Hf1 e1 s1 r hl
      obtain ⟨n1, n2⟩ := s1.no (p, .dK []) List.mem_cons_self
      refine ⟨n2, vs, rfl, by omega, ?_⟩
      have s2 := s1.rehide (ws := .dK (mergeK [] vs)) hno (s.h0 hp)
      refine ⟨p, rfl, .inl ⟨_, .inl upd_same⟩, C.hide p (.dK (mergeK [] vs)), rfl, Hf1, ρ1, s2, ?_⟩
      cases hk : kk ρ1 with
      | ex e ρ2 => rw [hk] at h; exact fun H' Hf' e2 s2 => h H' Hf' (e1.trans e2) s2.show_
      | bad => rw [hk] at h; exact (show False from h).elim
      | ok x ρ2 =>
        rw [hk] at h
        simp only at h
        intro y H2 Hf2 e2 s3 d2
        refine ⟨C.hide p (.dK (mergeK [] vs)), rfl, Hf2, ρ2, s3, ?_⟩
        cases hd : dd ρ2 with
        | ex e ρ3 => rw [hd] at h; exact fun H' Hf' e3 s4 => h H' Hf' (e1.trans (e2.trans e3)) s4.show_
        | bad => rw [hd] at h; exact (show False from h).elim
        | ok z ρ3 =>
          rw [hd] at h
          simp only at h
          intro zv H3 Hf3 e3 s4 d3
          obtain ⟨m1, m2⟩ := s4.no (p, .dK (mergeK [] vs)) List.mem_cons_self
          unfold M.lift at h
          by_cases hx : scalK x = true
          case neg => rw [if_neg hx] at h; exact (show False from h).elim
          rw [if_pos hx] at h
          obtain ⟨k, rfl⟩ := scalK_key hx
          rw [keyV d2]
          refine ⟨_, DGet.k m2, ?_⟩
          have r2 : KeysRel X.K Hf3 (mergeK [] vs) (mergeKD kvs) := KeysRel.merge (Paired.mapP r fun _ _ z => ⟨z.1, Dp.mono (e2.trans e3) _ _ z.2⟩) .nil
          have g := r2.get (k := k)
          refine h _ H3 Hf3 (e1.trans (e2.trans e3)) s4.show_ ?_
          cases hv : valV (mergeK [] vs) k with
          | none =>
            cases hg : getK (mergeKD kvs) (keyD k) with
            | none => exact d3
            | some d => rw [hv, hg] at g; exact g.elim
          | some v =>
            cases hg : getK (mergeKD kvs) (keyD k) with
            | none => rw [hv, hg] at g; exact g.elim
            | some d => rw [hv, hg] at g; exact g
/-- a text as a key -/
theorem pe_kstr {x : Str} {j : Nat} {p : Pos} : PE X (.Constant (.str x) j p) (tC (kV (.inr x))) := pe_str
/-- d.get(x, y), the keys of d ints or texts -/
def M.getK (i : Nat) (f g : M D) : M D := fun ρ => match dctAt ρ i with
  | some kvs0 => if (kvs0.all fun p => scalK p.1) = true then M.bind f (fun x => M.bind g fun y ρ2 => M.lift ((dctAt ρ2 i).bind fun kvs => if (scalK x && kvs.all fun p => scalK p.1) = true then some ((PD.getK kvs x).getD y) else none) ρ2) ρ else .bad
  | none => .bad
theorem pd_getK {x : Str} {px apos cpos : Pos} (i : Nat) (hw : C.w = X.w) (hu : X.A.units + 9 < cLine) (he : PDe X C e kk) (hf : PDe X C f dd) (m : M2 X (.Name x px) "get" apos e f cpos) (hN : X.N[i]? = some x := by rfl) (hv : Vis X.env.scope x := by first | exact Or.inl rfl | exact Or.inr (Or.inl rfl) | exact Or.inr (Or.inr rfl)) (hd : (x == ("__debug__" : Str)) = false := by decide)
    (hcd : (x == ("__classdict__" : Str)) = false := by decide) : PDe X C (.Call (.Attribute (.Name x px) "get" apos) [e, f] [] cpos) (M.getK i kk dd) :=
  pe_imp (pe_dget2 (by omega) (pe_var hN hv hd hcd) he hf m) fun σ H Q ⟨Hf, ρ, s, h⟩ => by
    unfold M.getK at h
    have go : ∀ {ρ : DE} {Hf H : Hp} {kvs : List (D × D)}, SR X.K C Hf H σ ρ → dctAt ρ i = some kvs → (kvs.all fun p => scalK p.1) = true → ∃ a ks, σ[i]? = some (some (.ref a)) ∧ H a = some (.dK ks) ∧ KeysRel X.K Hf ks kvs := fun s hk ha => by
      obtain ⟨a, ho, g1, g2, g3, g4, _⟩ := s.dct i _ (dctAt_get hk)
      rcases g4 with ⟨ks, rfl, r⟩ | ⟨xs, rfl, r, hne⟩
      · exact ⟨a, ks, g1, g3, r⟩
      · exact (r.notScal hne ha).elim
    cases hk : dctAt ρ i with
    | none => simp only [hk] at h; exact (show False from h).elim
    | some kvs =>
      simp only [hk] at h
      split at h
      case isFalse => exact (show False from h).elim
      rename_i hall
      obtain ⟨a, ks, g1, g2, _⟩ := go s hk hall
      refine ⟨.ref a, g1, a, rfl, .inl ⟨ks, .inl g2⟩, tG_bind s h fun v x H1 Hf1 ρ1 e1 s1 d1 h1 => ?_⟩
      refine tG_bind s1 h1 fun w y H2 Hf2 ρ2 e2 s2 d2 h2 => ?_
      obtain ⟨z, hz, h3⟩ := h2.lift
      cases hk2 : dctAt ρ2 i with
      | none => rw [hk2] at hz; cases hz
      | some kvs2 =>
        rw [hk2] at hz
        simp only [Option.bind_some] at hz
        split at hz
        · rename_i ok
          rw [Bool.and_eq_true] at ok
          cases hz
          obtain ⟨a2, ks2, z1, z2, r⟩ := go s2 hk2 ok.2
          rw [g1] at z1
          cases z1
          obtain ⟨k, rfl⟩ := scalK_key ok.1
          rw [keyV d1]
          refine ⟨_, DGet.k z2, ?_⟩
          have g := r.get (k := k)
          refine PostG.now h3 s2 ?_
          cases hv : valV ks2 k with
          | none =>
            cases hg : PD.getK kvs2 (keyD k) with
            | none => exact d2
            | some d => rw [hv, hg] at g; exact g.elim
          | some v =>
            cases hg : PD.getK kvs2 (keyD k) with
            | none => rw [hv, hg] at g; exact g.elim
            | some d => rw [hv, hg] at g; exact g
        · cases hz
end
end PD

set_option maxRecDepth 100000
set_option maxHeartbeats 4000000
set_option autoImplicit false
namespace PD
open PySem PySem.Spec L2
def bindR {α β : Type} (r : R α) (k : α → M β) : R β := match r with
  | .ok a ρ1 => k a ρ1
  | .ex e ρ1 => .ex e ρ1
  | .bad => .bad
def ofR {α : Type} (r : R α) (k : α → MS) : Fl := match r with
  | .ok a ρ1 => k a ρ1
  | .ex e ρ1 => .ex e ρ1
  | .bad => .bad
def seqR (r : Fl) (h : MS) : Fl := match r with
  | .nx ρ1 => h ρ1
  | o => o
def asgR (o : Option DE) : Fl := match o with
  | some ρ' => .nx ρ'
  | none => .bad
def varR (ρ : DE) (o : Option (Option LV)) : R D := match o with
  | some (some (.d x)) => .ok x ρ
  | _ => .bad
def ownL (o : Option (Option LV)) : Option (List D) := match o with
  | some (some (.own xs)) => some xs
  | _ => none
def frzL (i : Nat) (ρ : DE) (o : Option (Option LV)) : DE := match o with
  | some (some (.own xs)) => ρ.set i (some (.d (.list xs)))
  | _ => ρ
def isOwnL (o : Option (Option LV)) : Bool := match o with
  | some (some (.own _)) => true
  | some (some (.dct _)) => true
  | _ => false
def catD (x y : D) : Option (List D) := match x, y with
  | .list xs, .list ys => if xs.length + ys.length ≤ sizeLine then some (xs ++ ys) else none
  | _, _ => none
def popR (i : Nat) (ρ : DE) (o : Option (List D)) : R D := match o with
  | some xs => (match xs[xs.length - 1]? with
    | some x => .ok x (ρ.set i (some (.own xs.dropLast)))
    | none => .bad)
  | none => .bad
def dctL (o : Option (Option LV)) : Option (List (D × D)) := match o with
  | some (some (.dct xs)) => some xs
  | _ => none
def inO (neg : Bool) (o : Option (List (D × D))) (x : D) : Option D := o.bind fun kvs => if okKey kvs x = true then some (.bool (if neg then !(getK kvs x).isSome else (getK kvs x).isSome)) else none
def subKO (o : Option (List (D × D))) (x : D) : Option D := o.bind fun kvs => if okKey kvs x = true then getK kvs x else none
def setKO (o : Option (List (D × D))) (x v : D) : Option (List (D × D)) := o.bind fun kvs => if okKey kvs x = true ∧ kvs.length < sizeLine then some (putKD kvs x v) else none
def slotKR {α : Type} (o : Option (List (D × D))) (r : R α) : R α := match o with
  | some _ => r
  | none => .bad
def slotKF (o : Option (List (D × D))) (r : Fl) : Fl := match o with
  | some _ => r
  | none => .bad
def setKR (i : Nat) (ρ : DE) (o : Option (List (D × D))) : Fl := match o with
  | some kvs => .nx (ρ.set i (some (.dct kvs)))
  | none => .bad
def slotR {α : Type} (o : Option (List D)) (r : R α) : R α := match o with
  | some _ => r
  | none => .bad
def borrowR (ρ : DE) (r : R D) : R D := match r with
  | .ok x _ => if scalarD x = true then .ok x ρ else .bad
  | _ => .bad
def borrowTR (ρ : DE) (r : R Bool) : R Bool := match r with
  | .ok x _ => .ok x ρ
  | _ => .bad
def lcR (ρ1 : DE) (vs : List Nat) (r : R (List D)) : R (List D) := match r with
  | .ok ys ρe => .ok ys (restoreD ρ1 ρe vs)
  | _ => .bad
def putR {α : Type} (x : α) (o : Option DE) : R α := match o with
  | some ρ' => .ok x ρ'
  | none => .bad
def retR (io : Option Nat) (as : List Arg) (ρ : DE) (r : FR) : R D := match r with
  | .ret x o => putR x (putO io as o ρ)
  | .retL xs o => putR (.list xs) (putO io as o ρ)
  | _ => .bad
def retLR (io : Option Nat) (as : List Arg) (ρ : DE) (r : FR) : R (List D) := match r with
  | .retL xs o => putR xs (putO io as o ρ)
  | _ => .bad
def fnR (io : Option Nat) (F : List LV → FR) (as : List Arg) (ρ : DE) (o : Option (List LV)) : R D := match o with
  | none => .bad
  | some lvs => if argIo io 0 as = true then retR io as ρ (F lvs) else .bad
def fnLR (io : Option Nat) (F : List LV → FR) (as : List Arg) (ρ : DE) (o : Option (List LV)) : R (List D) := match o with
  | none => .bad
  | some lvs => if argIo io 0 as = true then retLR io as ρ (F lvs) else .bad
def endR (io : Option Nat) (r : Fl) : FR := match r with
  | .rt x ρ => .ret x (outO io ρ)
  | .rl x ρ => .retL x (outO io ρ)
  | .nx ρ => .ret .none (outO io ρ)
  | .ex e ρ => .ex e (outO io ρ)
  | _ => .bad
theorem runF_eq (np n : Nat) (io : Option Nat) (g : MS) (lvs : List LV) : runF np n io g lvs = if lvs.length = np ∧ okIo io 0 lvs = true ∧ (∀ k, io = some k → k < np) then endR io (g (lvs.map some ++ List.replicate (n - np) none)) else .bad := rfl
theorem ret_ap {α : Type} {a : α} {ρ : DE} : M.ret a ρ = .ok a ρ := rfl
theorem lift_some {α : Type} {a : α} {ρ : DE} : M.lift (some a) ρ = .ok a ρ := rfl
theorem lift_none {α : Type} {ρ : DE} : M.lift (none : Option α) ρ = .bad := rfl
theorem var_ap {i : Nat} {ρ : DE} : M.var i ρ = varR ρ ρ[i]? := by
  unfold M.var varR
  cases ρ[i]? with
  | none => rfl
  | some o => cases o with
    | none => rfl
    | some l => cases l <;> rfl
theorem varR_d {ρ : DE} {x : D} : varR ρ (some (some (.d x))) = .ok x ρ := rfl
theorem ownAt_ap {i : Nat} {ρ : DE} : ownAt ρ i = ownL ρ[i]? := by
  unfold ownAt ownL
  cases ρ[i]? with
  | none => rfl
  | some o => cases o with
    | none => rfl
    | some l => cases l <;> rfl
theorem ownL_own {xs : List D} : ownL (some (some (.own xs))) = some xs := rfl
theorem ownL_d {x : D} : ownL (some (some (.d x))) = none := rfl
theorem ownL_n  : ownL (some none) = none := rfl
theorem frzAt_ap {i : Nat} {ρ : DE} : frzAt i ρ = frzL i ρ ρ[i]? := by
  unfold frzAt frzL
  cases ρ[i]? with
  | none => rfl
  | some o => cases o with
    | none => rfl
    | some l => cases l <;> rfl
theorem frzL_own {i : Nat} {ρ : DE} {xs : List D} : frzL i ρ (some (some (.own xs))) = ρ.set i (some (.d (.list xs))) := rfl
theorem frzL_d {i : Nat} {ρ : DE} {x : D} : frzL i ρ (some (some (.d x))) = ρ := rfl
theorem frz_nil  : PD.frz [] = [] := rfl
theorem frz_cons {o : Option LV} {ρ : DE} : PD.frz (o :: ρ) = frz1 o :: PD.frz ρ := rfl
theorem frz1_own {xs : List D} : frz1 (some (.own xs)) = some (.d (.list xs)) := rfl
theorem frz1_d {x : D} : frz1 (some (.d x)) = some (.d x) := rfl
theorem frz1_n  : frz1 none = none := rfl
theorem wipe_nil {ρ : DE} : wipeD ρ [] = ρ := rfl
theorem wipe_cons {v : Nat} {vs : List Nat} {ρ : DE} : wipeD ρ (v :: vs) = (wipeD ρ vs).set v none := rfl
theorem restore_nil {ρ ρe : DE} : restoreD ρ ρe [] = ρe := rfl
theorem restore_cons {v : Nat} {vs : List Nat} {ρ ρe : DE} : restoreD ρ ρe (v :: vs) = (restoreD ρ ρe vs).set v (ρ.getD v none) := rfl
theorem clean_nil {ρ : DE} : cleanD ρ [] = true := rfl
theorem clean_cons {v : Nat} {vs : List Nat} {ρ : DE} : cleanD ρ (v :: vs) = (!isOwnL ρ[v]? && cleanD ρ vs) := by
  unfold cleanD isOwnB isOwnL
  rfl
theorem isOwnL_own {xs : List D} : isOwnL (some (some (.own xs))) = true := rfl
theorem isOwnL_d {x : D} : isOwnL (some (some (.d x))) = false := rfl
theorem isOwnL_k {xs : List (D × D)} : isOwnL (some (some (.dct xs))) = true := rfl
theorem frz1_k {xs : List (D × D)} : frz1 (some (.dct xs)) = none := rfl
theorem frzL_k {i : Nat} {ρ : DE} {xs : List (D × D)} : frzL i ρ (some (some (.dct xs))) = ρ := rfl
theorem ownL_k {xs : List (D × D)} : ownL (some (some (.dct xs))) = none := rfl
theorem isOwnL_n  : isOwnL (some none) = false := rfl
theorem bind_ap {α β : Type} {m : M α} {k : α → M β} {ρ : DE} : M.bind m k ρ = bindR (m ρ) k := rfl
theorem bindR_ok {α β : Type} {a : α} {k : α → M β} {ρ : DE} : bindR (.ok a ρ) k = k a ρ := rfl
theorem bindR_ex {α β : Type} {e : EV} {k : α → M β} {ρ : DE} : bindR (.ex e ρ : R α) k = .ex e ρ := rfl
theorem bindR_bad {α β : Type} {k : α → M β} : bindR (.bad : R α) k = .bad := rfl
theorem ofM_ap {α : Type} {m : M α} {k : α → MS} {ρ : DE} : S.ofM m k ρ = ofR (m ρ) k := rfl
theorem ofR_ok {α : Type} {a : α} {k : α → MS} {ρ : DE} : ofR (.ok a ρ) k = k a ρ := rfl
theorem ofR_ex {α : Type} {e : EV} {k : α → MS} {ρ : DE} : ofR (.ex e ρ : R α) k = .ex e ρ := rfl
theorem ofR_bad {α : Type} {k : α → MS} : ofR (.bad : R α) k = .bad := rfl
theorem seq_ap {g h : MS} {ρ : DE} : S.seq g h ρ = seqR (g ρ) h := rfl
theorem seqR_nx {h : MS} {ρ : DE} : seqR (.nx ρ) h = h ρ := rfl
theorem seqR_rt {h : MS} {x : D} {ρ : DE} : seqR (.rt x ρ) h = .rt x ρ := rfl
theorem seqR_rl {h : MS} {x : List D} {ρ : DE} : seqR (.rl x ρ) h = .rl x ρ := rfl
theorem seqR_bk {h : MS} {ρ : DE} : seqR (.bk ρ) h = .bk ρ := rfl
theorem seqR_ct {h : MS} {ρ : DE} : seqR (.ct ρ) h = .ct ρ := rfl
theorem seqR_ex {h : MS} {e : EV} {ρ : DE} : seqR (.ex e ρ) h = .ex e ρ := rfl
theorem seqR_bad {h : MS} : seqR .bad h = .bad := rfl
theorem nil_ap {ρ : DE} : S.nil ρ = .nx ρ := rfl
theorem pass_ap {ρ : DE} : S.pass ρ = .nx ρ := rfl
theorem never_ap {ρ : DE} : S.never ρ = .bad := rfl
theorem brk_ap {ρ : DE} : S.brk ρ = .bk ρ := rfl
theorem cnt_ap {ρ : DE} : S.cnt ρ = .ct ρ := rfl
theorem retN_ap {ρ : DE} : S.retN ρ = .rt .none ρ := rfl
theorem sret_ap {f g k : M D} {p q : M Bool} {u l : M (Option Int)} {fl : M (List D)} {ga : M (List Arg)} {i j h : Nat} {ρ : DE} : S.ret f ρ = ofR (f ρ) fun x ρ => .rt x ρ := rfl
theorem sretL_ap {f g k : M D} {p q : M Bool} {u l : M (Option Int)} {fl : M (List D)} {ga : M (List Arg)} {i j h : Nat} {ρ : DE} : S.retL fl ρ = ofR (fl ρ) fun x ρ => .rl x ρ := rfl
theorem drop_ap {f g k : M D} {p q : M Bool} {u l : M (Option Int)} {fl : M (List D)} {ga : M (List Arg)} {i j h : Nat} {ρ : DE} : S.drop f ρ = ofR (f ρ) fun _ ρ => .nx ρ := rfl
theorem site_ap {p : M Bool} {g h : MS} {ρ : DE} : S.ite p g h ρ = ofR (p ρ) fun b => if b = true then g else h := rfl
theorem asg_ap {f g k : M D} {p q : M Bool} {u l : M (Option Int)} {fl : M (List D)} {ga : M (List Arg)} {i j h : Nat} {ρ : DE} : S.asg i f ρ = ofR (f ρ) fun x ρ => .nx (ρ.set i (some (.d x))) := rfl
theorem own_ap {f g k : M D} {p q : M Bool} {u l : M (Option Int)} {fl : M (List D)} {ga : M (List Arg)} {i j h : Nat} {ρ : DE} : S.own i fl ρ = ofR (fl ρ) fun x ρ => .nx (ρ.set i (some (.own x))) := rfl
theorem par2_ap {f g k : M D} {p q : M Bool} {u l : M (Option Int)} {fl : M (List D)} {ga : M (List Arg)} {i j h : Nat} {ρ : DE} : S.par2 i j ga ρ = ofR (ga ρ) fun as => S.ofM (M.lift ((datOf as).bind vals2D)) fun p ρ => .nx ((ρ.set i (some (.d p.1))).set j (some (.d p.2))) := rfl
theorem par3_ap {f g k : M D} {p q : M Bool} {u l : M (Option Int)} {fl : M (List D)} {ga : M (List Arg)} {i j h : Nat} {ρ : DE} : S.par3 i j h ga ρ = ofR (ga ρ) fun as => S.ofM (M.lift ((datOf as).bind vals3D)) fun p ρ => .nx (((ρ.set i (some (.d p.1))).set j (some (.d p.2.1))).set h (some (.d p.2.2))) := rfl
theorem asgT_ap {G : Gt} {f g k : M D} {p q : M Bool} {u l : M (Option Int)} {fl : M (List D)} {ga : M (List Arg)} {i j h : Nat} {ρ : DE} : S.asgT G f ρ = ofR (f ρ) fun x ρ => asgR (G x ρ) := rfl
theorem asgR_some {ρ : DE} : asgR (some ρ) = .nx ρ := rfl
theorem asgR_none  : asgR none = .bad := rfl
theorem gnm_ap {i : Nat} {x : D} {ρ : DE} : G.nm i x ρ = some (ρ.set i (some (.d x))) := rfl
theorem gnil_ap {ρ : DE} : G.nil [] ρ = some ρ := rfl
theorem gcons_ap {g : Gt} {gs : Gts} {x : D} {r : List D} {ρ : DE} : G.cons g gs (x :: r) ρ = (g x ρ).bind (gs r) := rfl
theorem gtup_ap {n : Nat} {gs : Gts} {xs : List D} {ρ : DE} : G.tup n gs (.tuple xs) ρ = if xs.length = n then gs xs ρ else none := rfl
theorem andV_ap {f g k : M D} {p q : M Bool} {u l : M (Option Int)} {fl : M (List D)} {ga : M (List Arg)} {i j h : Nat} {ρ : DE} : M.andV f g ρ = bindR (f ρ) fun x => M.bind (M.lift (asB x)) fun b => if b = true then g else M.ret (.bool false) := rfl
theorem orV_ap {f g k : M D} {p q : M Bool} {u l : M (Option Int)} {fl : M (List D)} {ga : M (List Arg)} {i j h : Nat} {ρ : DE} : M.orV f g ρ = bindR (f ρ) fun x => M.bind (M.lift (asB x)) fun b => if b = true then M.ret (.bool true) else g := rfl
theorem andT_ap {f g k : M D} {p q : M Bool} {u l : M (Option Int)} {fl : M (List D)} {ga : M (List Arg)} {i j h : Nat} {ρ : DE} : M.andT p q ρ = bindR (p ρ) fun b => if b = true then q else M.ret false := rfl
theorem orT_ap {f g k : M D} {p q : M Bool} {u l : M (Option Int)} {fl : M (List D)} {ga : M (List Arg)} {i j h : Nat} {ρ : DE} : M.orT p q ρ = bindR (p ρ) fun b => if b = true then M.ret true else q := rfl
theorem notT_ap {f g k : M D} {p q : M Bool} {u l : M (Option Int)} {fl : M (List D)} {ga : M (List Arg)} {i j h : Nat} {ρ : DE} : M.notT p ρ = bindR (p ρ) fun b => M.ret (!b) := rfl
theorem test_ap {f g k : M D} {p q : M Bool} {u l : M (Option Int)} {fl : M (List D)} {ga : M (List Arg)} {i j h : Nat} {ρ : DE} : M.test f ρ = bindR (f ρ) fun x => M.lift (asB x) := rfl
theorem op1_ap {o : D → Option D} {f g k : M D} {p q : M Bool} {u l : M (Option Int)} {fl : M (List D)} {ga : M (List Arg)} {i j h : Nat} {ρ : DE} : M.op1 o f ρ = bindR (f ρ) fun x => M.lift (o x) := rfl
theorem op2_ap {o : D → D → Option D} {f g k : M D} {p q : M Bool} {u l : M (Option Int)} {fl : M (List D)} {ga : M (List Arg)} {i j h : Nat} {ρ : DE} : M.op2 o f g ρ = bindR (f ρ) fun x => M.bind g fun y => M.lift (o x y) := rfl
theorem chain_ap {o o' : D → D → Option D} {f g k : M D} {p q : M Bool} {u l : M (Option Int)} {fl : M (List D)} {ga : M (List Arg)} {i j h : Nat} {ρ : DE} : M.chain o o' f g k ρ = bindR (f ρ) fun x => M.bind g fun y => M.bind (M.lift (o x y)) fun z => M.bind (M.lift (asB z)) fun t => if t = true then M.bind k fun w => M.lift (o' y w) else M.ret (.bool false) := rfl
theorem mite_ap {α : Type} {p : M Bool} {f g : M α} {ρ : DE} : M.ite p f g ρ = bindR (p ρ) fun b => if b = true then f else g := rfl
theorem ite_apR {α : Type} {c : Prop} [Decidable c] {f g : M α} {ρ : DE} : (if c then f else g : M α) ρ = if c then f ρ else g ρ := by split <;> rfl
theorem ite_apS {c : Prop} [Decidable c] {f g : MS} {ρ : DE} : (if c then f else g : MS) ρ = if c then f ρ else g ρ := by split <;> rfl
theorem argN_ap {ρ : DE} : M.argN ρ = .ok [] ρ := rfl
theorem argD_ap {f g k : M D} {p q : M Bool} {u l : M (Option Int)} {fl : M (List D)} {ga : M (List Arg)} {i j h : Nat} {ρ : DE} : M.argD f ga ρ = bindR (f ρ) fun x => M.bind ga fun as => M.ret (.dat x :: as) := rfl
theorem argS_ap {i : Nat} {ga : M (List PD.Arg)} {ρ : DE} : M.argS i ga ρ = slotR (ownAt ρ i) (bindR (ga ρ) fun as => M.ret (.slot i :: as)) := by
  unfold M.argS ownAt slotR
  cases ρ[i]? with
  | none => rfl
  | some o => cases o with
    | none => rfl
    | some l => cases l <;> rfl
theorem slotR_some {α : Type} {xs : List D} {r : R α} : slotR (some xs) r = r := rfl
theorem tup_ap {f g k : M D} {p q : M Bool} {u l : M (Option Int)} {fl : M (List D)} {ga : M (List Arg)} {i j h : Nat} {ρ : DE} : M.tup ga ρ = bindR (ga ρ) fun as => M.lift ((datOf as).bind fun xs => if xs.length ≤ sizeLine then some (.tuple xs) else none) := rfl
theorem lst_ap {f g k : M D} {p q : M Bool} {u l : M (Option Int)} {fl : M (List D)} {ga : M (List Arg)} {i j h : Nat} {ρ : DE} : M.lst ga ρ = bindR (ga ρ) fun as => M.lift ((datOf as).bind fun xs => if xs.length ≤ sizeLine then some xs else none) := rfl
theorem known_ap {f g k : M D} {p q : M Bool} {u l : M (Option Int)} {fl : M (List D)} {ga : M (List Arg)} {i j h : Nat} {ρ : DE} : M.known fl ρ = bindR (fl ρ) fun xs => M.ret (.list xs) := rfl
theorem call_ap {o : List D → Option D} {f g k : M D} {p q : M Bool} {u l : M (Option Int)} {fl : M (List D)} {ga : M (List Arg)} {i j h : Nat} {ρ : DE} : M.call o ga ρ = bindR (bindR (ga ρ) fun as => M.lift (datOf as)) fun xs => M.lift (o xs) := rfl
theorem callL_ap {o : List D → Option (List D)} {f g k : M D} {p q : M Bool} {u l : M (Option Int)} {fl : M (List D)} {ga : M (List Arg)} {i j h : Nat} {ρ : DE} : M.callL o ga ρ = bindR (ga ρ) fun as => M.lift ((datOf as).bind o) := rfl
theorem listL_ap {ga : M (List PD.Arg)} {ρ : DE} : M.listL ga ρ = bindR (ga ρ) fun as => M.bind (M.lift (datOf as)) fun xs => M.lift (seqOf xs) := rfl
theorem seqOf_l {xs : List D} : seqOf [.list xs] = some xs := rfl
theorem seqOf_t {xs : List D} : seqOf [.tuple xs] = some xs := rfl
theorem items_ap {f g k : M D} {p q : M Bool} {u l : M (Option Int)} {fl : M (List D)} {ga : M (List Arg)} {i j h : Nat} {ρ : DE} : M.items f ρ = bindR (f ρ) fun x => M.lift (itemsD x) := rfl
theorem part_ap {f g k : M D} {p q : M Bool} {u l : M (Option Int)} {fl : M (List D)} {ga : M (List Arg)} {i j h : Nat} {ρ : DE} : M.part f ρ = bindR (f ρ) fun x => M.lift ((asI x).map some) := rfl
theorem slice_ap {f g k : M D} {p q : M Bool} {u l : M (Option Int)} {fl : M (List D)} {ga : M (List Arg)} {i j h : Nat} {ρ : DE} : M.slice f l u ρ = bindR (f ρ) fun x => M.bind l fun a => M.bind u fun b => M.lift (sliceD x a b) := rfl
theorem catL_ap {f g k : M D} {p q : M Bool} {u l : M (Option Int)} {fl : M (List D)} {ga : M (List Arg)} {i j h : Nat} {ρ : DE} : M.catL f g ρ = bindR (f ρ) fun x => M.bind g fun y => M.lift (catD x y) := rfl
theorem frz_ap {α : Type} {i : Nat} {f : M α} {ρ : DE} : M.frz i f ρ = f (frzAt i ρ) := rfl
theorem borrow_ap {f g k : M D} {p q : M Bool} {u l : M (Option Int)} {fl : M (List D)} {ga : M (List Arg)} {i j h : Nat} {ρ : DE} : M.borrow f ρ = borrowR ρ (f (PD.frz ρ)) := rfl
theorem borrowR_ok {ρ ρ1 : DE} {x : D} : borrowR ρ (.ok x ρ1) = if scalarD x = true then .ok x ρ else .bad := rfl
theorem borrowT_ap {f g k : M D} {p q : M Bool} {u l : M (Option Int)} {fl : M (List D)} {ga : M (List Arg)} {i j h : Nat} {ρ : DE} : M.borrowT p ρ = borrowTR ρ (p (PD.frz ρ)) := rfl
theorem borrowTR_ok {ρ ρ1 : DE} {x : Bool} : borrowTR ρ (.ok x ρ1) = .ok x ρ := rfl
theorem subO_ap {f g k : M D} {p q : M Bool} {u l : M (Option Int)} {fl : M (List D)} {ga : M (List Arg)} {i j h : Nat} {ρ : DE} : M.subO i g ρ = (match ownAt ρ i with | some _ => bindR (g ρ) (fun k ρ1 => M.lift ((ownAt ρ1 i).bind fun xs => (asI k).bind fun j => atI xs j) ρ1) | none => .bad) := rfl
theorem app_ap {f g k : M D} {p q : M Bool} {u l : M (Option Int)} {fl : M (List D)} {ga : M (List Arg)} {i j h : Nat} {ρ : DE} : S.app i f ρ = (match ownAt ρ i with | some _ => ofR (f ρ) (fun x => S.ofM (fun ρ1 => M.lift ((ownAt ρ1 i).bind fun xs => if xs.length < sizeLine then some (xs ++ [x]) else none) ρ1) fun ys ρ1 => .nx (ρ1.set i (some (.own ys)))) | none => .bad) := rfl
theorem setIx_ap {f g k : M D} {p q : M Bool} {u l : M (Option Int)} {fl : M (List D)} {ga : M (List Arg)} {i j h : Nat} {ρ : DE} : S.setIx i f g ρ = ofR (f ρ) fun x ρ0 => match ownAt ρ0 i with | some _ => S.ofM g (fun k => S.ofM (fun ρ1 => M.lift ((ownAt ρ1 i).bind fun xs => (asI k).bind fun j => (ixN xs.length j).map fun n => xs.set n x) ρ1) fun ys ρ1 => .nx (ρ1.set i (some (.own ys)))) ρ0 | none => .bad := rfl
theorem retO_ap {f g k : M D} {p q : M Bool} {u l : M (Option Int)} {fl : M (List D)} {ga : M (List Arg)} {i j h : Nat} {ρ : DE} : S.retO i ρ = (match ownAt ρ i with | some xs => .rl xs (ρ.set i none) | none => .bad) := rfl
theorem for_ap {G : Gt} {g : MS} {fl : M (List D)} {ρ : DE} : S.for_ fl G g ρ = ofR (fl ρ) fun xs => forD G g xs := rfl
theorem lc_ap {G : Gt} {tt : M Bool} {te : M D} {fl : M (List D)} {vs : List Nat} {ρ : DE} : M.lc fl vs G tt te ρ = bindR (fl ρ) fun xs ρ1 => if cleanD ρ1 vs = true then lcR ρ1 vs (lcLoop vs G tt te xs [] (wipeD ρ1 vs)) else .bad := rfl
theorem lcR_ok {ρ ρe : DE} {vs : List Nat} {ys : List D} : lcR ρ vs (.ok ys ρe) = .ok ys (restoreD ρ ρe vs) := rfl
theorem fn_ap {io : Option Nat} {F : List LV → FR} {ga : M (List Arg)} {ρ : DE} : M.fn io F ga ρ = bindR (ga ρ) fun as ρ => fnR io F as ρ (lvsOf ρ as) := rfl
theorem fnL_ap {io : Option Nat} {F : List LV → FR} {ga : M (List Arg)} {ρ : DE} : M.fnL io F ga ρ = bindR (ga ρ) fun as ρ => fnLR io F as ρ (lvsOf ρ as) := rfl
theorem fnR_some {io : Option Nat} {F : List LV → FR} {as : List Arg} {lvs : List LV} {ρ : DE} : fnR io F as ρ (some lvs) = if argIo io 0 as = true then retR io as ρ (F lvs) else .bad := rfl
theorem fnLR_some {io : Option Nat} {F : List LV → FR} {as : List Arg} {lvs : List LV} {ρ : DE} : fnLR io F as ρ (some lvs) = if argIo io 0 as = true then retLR io as ρ (F lvs) else .bad := rfl
theorem retR_ret {io : Option Nat} {as : List Arg} {ρ : DE} {x : D} {o : Option (List D)} : retR io as ρ (.ret x o) = putR x (putO io as o ρ) := rfl
theorem retR_retL {io : Option Nat} {as : List Arg} {ρ : DE} {x : List D} {o : Option (List D)} : retR io as ρ (.retL x o) = putR (PyData.list x) (putO io as o ρ) := rfl
theorem retLR_retL {io : Option Nat} {as : List Arg} {ρ : DE} {x : List D} {o : Option (List D)} : retLR io as ρ (.retL x o) = putR x (putO io as o ρ) := rfl
theorem putR_some {α : Type} {x : α} {ρ : DE} : putR x (some ρ) = .ok x ρ := rfl
theorem putO_none {as : List Arg} {o : Option (List D)} {ρ : DE} : putO none as o ρ = some ρ := rfl
theorem putO_s0 {i : Nat} {as : List PD.Arg} {xs : List D} {ρ : DE} : putO (some 0) (.slot i :: as) (some xs) ρ = some (ρ.set i (some (.own xs))) := rfl
theorem putO_s1 {a0 : PD.Arg} {i : Nat} {as : List PD.Arg} {xs : List D} {ρ : DE} : putO (some 1) (a0 :: .slot i :: as) (some xs) ρ = some (ρ.set i (some (.own xs))) := rfl
theorem putO_s2 {a0 a1 : PD.Arg} {i : Nat} {as : List PD.Arg} {xs : List D} {ρ : DE} : putO (some 2) (a0 :: a1 :: .slot i :: as) (some xs) ρ = some (ρ.set i (some (.own xs))) := rfl
theorem putO_s3 {a0 a1 a2 : PD.Arg} {i : Nat} {as : List PD.Arg} {xs : List D} {ρ : DE} : putO (some 3) (a0 :: a1 :: a2 :: .slot i :: as) (some xs) ρ = some (ρ.set i (some (.own xs))) := rfl
theorem putO_s4 {a0 a1 a2 a3 : PD.Arg} {i : Nat} {as : List PD.Arg} {xs : List D} {ρ : DE} : putO (some 4) (a0 :: a1 :: a2 :: a3 :: .slot i :: as) (some xs) ρ = some (ρ.set i (some (.own xs))) := rfl
theorem endR_rt {io : Option Nat} {x : D} {ρ : DE} : endR io (.rt x ρ) = .ret x (outO io ρ) := rfl
theorem endR_rl {io : Option Nat} {x : List D} {ρ : DE} : endR io (.rl x ρ) = .retL x (outO io ρ) := rfl
theorem endR_nx {io : Option Nat} {ρ : DE} : endR io (.nx ρ) = .ret .none (outO io ρ) := rfl
theorem endR_bad {io : Option Nat} : endR io .bad = .bad := rfl
theorem bindR_ite {α β : Type} {c : Prop} [Decidable c] {a b : R α} {k : α → M β} : bindR (if c then a else b) k = if c then bindR a k else bindR b k := by split <;> rfl
theorem ofR_ite {α : Type} {c : Prop} [Decidable c] {a b : R α} {k : α → MS} : ofR (if c then a else b) k = if c then ofR a k else ofR b k := by split <;> rfl
theorem seqR_ite {c : Prop} [Decidable c] {a b : Fl} {k : MS} : seqR (if c then a else b) k = if c then seqR a k else seqR b k := by split <;> rfl
theorem endR_ite {c : Prop} [Decidable c] {a b : Fl} {io : Option Nat} : endR io (if c then a else b) = if c then endR io a else endR io b := by split <;> rfl
theorem lift_ite {α : Type} {c : Prop} [Decidable c] {a b : Option α} {ρ : DE} : M.lift (if c then a else b) ρ = if c then M.lift a ρ else M.lift b ρ := by split <;> rfl
theorem pop_ap {i : Nat} {ρ : DE} : M.pop i ρ = popR i ρ (ownAt ρ i) := rfl
theorem popR_snoc {i : Nat} {ρ : DE} {xs : List D} {x : D} : popR i ρ (some (xs ++ [x])) = .ok x (ρ.set i (some (.own xs))) := by
  unfold popR
  simp
theorem dctAt_ap {i : Nat} {ρ : DE} : dctAt ρ i = dctL ρ[i]? := by
  unfold dctAt dctL
  cases ρ[i]? with
  | none => rfl
  | some o => cases o with
    | none => rfl
    | some l => cases l <;> rfl
theorem dctL_k {xs : List (D × D)} : dctL (some (some (.dct xs))) = some xs := rfl
theorem dctL_o {xs : List D} : dctL (some (some (.own xs))) = none := rfl
theorem dctL_d {x : D} : dctL (some (some (.d x))) = none := rfl
theorem dctL_n  : dctL (some none) = none := rfl
theorem inK_ap {neg : Bool} {i : Nat} {f : M D} {ρ : DE} : M.inK neg i f ρ = bindR (f ρ) fun x ρ => M.lift (inO neg (dctAt ρ i) x) ρ := rfl
theorem subK_ap {i : Nat} {f : M D} {ρ : DE} : M.subK i f ρ = slotKR (dctAt ρ i) (bindR (f ρ) fun x ρ1 => M.lift (subKO (dctAt ρ1 i) x) ρ1) := by
  unfold M.subK slotKR
  cases dctAt ρ i <;> rfl
theorem slotKR_some {α : Type} {xs : List (D × D)} {r : R α} : slotKR (some xs) r = r := rfl
theorem setK_ap {i : Nat} {f g : M D} {ρ : DE} : S.setK i f g ρ = ofR (f ρ) fun v ρ0 => slotKF (dctAt ρ0 i) (ofR (g ρ0) fun x ρ1 => setKR i ρ1 (setKO (dctAt ρ1 i) x v)) := by
  unfold S.setK S.ofM ofR
  cases f ρ with
  | ok v ρ0 =>
    simp only
    unfold slotKF
    cases dctAt ρ0 i with
    | none => rfl
    | some kvs =>
      simp only
      cases g ρ0 with
      | ok x ρ1 =>
        simp only
        unfold M.lift setKR setKO
        cases (dctAt ρ1 i).bind (fun kvs => if okKey kvs x = true ∧ kvs.length < sizeLine then some (putKD kvs x v) else none) <;> rfl
      | ex e ρ1 => rfl
      | bad => rfl
  | ex e ρ0 => rfl
  | bad => rfl
theorem slotKF_some {xs : List (D × D)} {r : Fl} : slotKF (some xs) r = r := rfl
theorem setKR_some {i : Nat} {ρ : DE} {kvs : List (D × D)} : setKR i ρ (some kvs) = .nx (ρ.set i (some (.dct kvs))) := rfl
theorem parN_ap {is : List Nat} {g : M (List LV)} {ρ : DE} : S.parN is g ρ = parR is (g ρ) := rfl
theorem parR_ok {is : List Nat} {ls : List LV} {ρ : DE} : parR is (.ok ls ρ) = asgR (setN ρ is ls) := rfl
theorem setN_nil {ρ : DE} : setN ρ [] [] = some ρ := rfl
theorem setN_cons {ρ : DE} {i : Nat} {is : List Nat} {l : LV} {ls : List LV} : setN ρ (i :: is) (l :: ls) = setN (ρ.set i (some l)) is ls := rfl
theorem nC_ap {f : M LV} {g : M (List LV)} {ρ : DE} : M.nC f g ρ = bindR (f ρ) fun l => M.bind g fun ls => M.ret (l :: ls) := rfl
theorem nL_ap {f : M (List D)} {ρ : DE} : M.nL f ρ = bindR (f ρ) fun l => M.ret (.own l) := rfl
theorem nD_ap {f : M D} {ρ : DE} : M.nD f ρ = bindR (f ρ) fun l => M.ret (.d l) := rfl
theorem dict1_ap {f g : M D} {ρ : DE} : M.dict1 f g ρ = bindR (f ρ) fun k => M.bind g fun v => M.lift (if tupK k = true then some (.dct (putKD [] k v)) else none) := rfl
theorem new_ap {i : Nat} {f : M LV} {ρ : DE} : S.new i f ρ = ofR (f ρ) fun l ρ => .nx (ρ.set i (some l)) := rfl
theorem repL_ap {f : M (List D)} {g : M D} {ρ : DE} : M.repL f g ρ = bindR (f ρ) fun xs => M.bind g fun y => M.lift (repO xs y) := rfl
theorem addD_ii {i j : Int} : addD (.int i) (.int j) = some (.int (i + j)) := rfl
theorem addD_ss {a b : Str} : addD (.str a) (.str b) = if a.length + b.length ≤ sizeLine then some (.str (a ++ b)) else none := rfl
theorem addD_tt {a b : List D} : addD (.tuple a) (.tuple b) = if a.length + b.length ≤ sizeLine then some (.tuple (a ++ b)) else none := rfl
theorem subD_ii {i j : Int} : subD (.int i) (.int j) = some (.int (i - j)) := rfl
theorem mulD_ii {i j : Int} : mulD (.int i) (.int j) = if mulOk i j = true then some (.int (i * j)) else none := rfl
theorem fdivD_ii {i j : Int} : fdivD (.int i) (.int j) = if divOk j = true then some (.int (i / j)) else none := rfl
theorem modD_ii {i j : Int} : modD (.int i) (.int j) = if 0 < j then some (.int (i % j)) else none := rfl
theorem powD_ii {i j : Int} : powD (.int i) (.int j) = if 0 ≤ j ∧ j ≤ 1000000 ∧ i.natAbs < 2 ^ 64 then some (.int (i ^ j.toNat)) else none := rfl
theorem negD_i {i j : Int} : negD (.int i) = some (.int (-i)) := rfl
theorem ltD_ii {i j : Int} : ltD (.int i) (.int j) = some (.bool (decide (i < j))) := rfl
theorem leD_ii {i j : Int} : leD (.int i) (.int j) = some (.bool (decide (i ≤ j))) := rfl
theorem gtD_ii {i j : Int} : gtD (.int i) (.int j) = some (.bool (decide (j < i))) := rfl
theorem geD_ii {i j : Int} : geD (.int i) (.int j) = some (.bool (decide (j ≤ i))) := rfl
theorem ixD_l {xs : List D} {i : Int} : ixD (.list xs) (.int i) = atI xs i := rfl
theorem ixD_t {xs : List D} {i : Int} : ixD (.tuple xs) (.int i) = atI xs i := rfl
theorem catD_ll {a b : List D} : catD (.list a) (.list b) = if a.length + b.length ≤ sizeLine then some (a ++ b) else none := rfl
theorem itemsD_l {xs : List D} : itemsD (.list xs) = some xs := rfl
theorem itemsD_t {xs : List D} : itemsD (.tuple xs) = some xs := rfl
theorem lenD_l {xs : List D} : lenD [.list xs] = some (.int xs.length) := rfl
theorem lenD_t {xs : List D} : lenD [.tuple xs] = some (.int xs.length) := rfl
theorem lenD_s {z : Str} : lenD [.str z] = if z.length ≤ sizeLine then some (.int z.length) else none := rfl
theorem absD_i {i j : Int} : absD [.int i] = some (.int (if i < 0 then -i else i)) := rfl
theorem maxD_ii {i j : Int} : maxD [.int i, .int j] = some (.int (if j > i then j else i)) := rfl
theorem minD_ii {i j : Int} : minD [.int i, .int j] = some (.int (if j < i then j else i)) := rfl
theorem intD_i {i j : Int} : intD [.int i] = some (.int i) := rfl
theorem intD_b {k : Bool} : intD [.bool k] = some (.int (if k then 1 else 0)) := rfl
theorem tupleD_l {xs : List D} : tupleD [.list xs] = some (.tuple xs) := rfl
theorem tupleD_t {xs : List D} : tupleD [.tuple xs] = some (.tuple xs) := rfl
theorem notD_b {k : Bool} : notD (.bool k) = some (.bool !k) := rfl
theorem asB_b {k : Bool} : asB (.bool k) = some k := rfl
theorem asI_i {i j : Int} : asI (.int i) = some i := rfl
theorem eqD_ii {i j : Int} : eqD (.int i) (.int j) = some (decide (i = j)) := rfl
theorem eqD_ss {a b : Str} : eqD (.str a) (.str b) = some (decide (a = b)) := rfl
theorem eqD_bb {a b : Bool} : eqD (.bool a) (.bool b) = some (decide (a = b)) := rfl
theorem eqD_si {a : Str} {i : Int} : eqD (.str a) (.int i) = some false := rfl
theorem eqD_is {a : Str} {i : Int} : eqD (.int i) (.str a) = some false := rfl
theorem eqD_nn  : eqD .none .none = some true := rfl
theorem eqD_nb {b : Bool} : eqD .none (.bool b) = some false := rfl
theorem eqD_ni {i : Int} : eqD .none (.int i) = some false := rfl
theorem eqD_ns {a : Str} : eqD .none (.str a) = some false := rfl
theorem eqD_bn {b : Bool} : eqD (.bool b) .none = some false := rfl
theorem eqD_in {i : Int} : eqD (.int i) .none = some false := rfl
theorem eqD_sn {a : Str} : eqD (.str a) .none = some false := rfl
theorem tInt_none  : tInt (.none) = false := rfl
theorem tInt_bool {b : Bool} : tInt (.bool b) = true := rfl
theorem tInt_int {i : Int} : tInt (.int i) = true := rfl
theorem tInt_str {a : Str} : tInt (.str a) = false := rfl
theorem tInt_tuple {a : List D} : tInt (.tuple a) = false := rfl
theorem tInt_list {a : List D} : tInt (.list a) = false := rfl
theorem tInt_dict {a : List (D × D)} : tInt (.dict a) = false := rfl
theorem tBool_none  : tBool (.none) = false := rfl
theorem tBool_bool {b : Bool} : tBool (.bool b) = true := rfl
theorem tBool_int {i : Int} : tBool (.int i) = false := rfl
theorem tBool_str {a : Str} : tBool (.str a) = false := rfl
theorem tBool_tuple {a : List D} : tBool (.tuple a) = false := rfl
theorem tBool_list {a : List D} : tBool (.list a) = false := rfl
theorem tBool_dict {a : List (D × D)} : tBool (.dict a) = false := rfl
theorem tStr_none  : tStr (.none) = false := rfl
theorem tStr_bool {b : Bool} : tStr (.bool b) = false := rfl
theorem tStr_int {i : Int} : tStr (.int i) = false := rfl
theorem tStr_str {a : Str} : tStr (.str a) = true := rfl
theorem tStr_tuple {a : List D} : tStr (.tuple a) = false := rfl
theorem tStr_list {a : List D} : tStr (.list a) = false := rfl
theorem tStr_dict {a : List (D × D)} : tStr (.dict a) = false := rfl
theorem tTuple_none  : tTuple (.none) = false := rfl
theorem tTuple_bool {b : Bool} : tTuple (.bool b) = false := rfl
theorem tTuple_int {i : Int} : tTuple (.int i) = false := rfl
theorem tTuple_str {a : Str} : tTuple (.str a) = false := rfl
theorem tTuple_tuple {a : List D} : tTuple (.tuple a) = true := rfl
theorem tTuple_list {a : List D} : tTuple (.list a) = false := rfl
theorem tTuple_dict {a : List (D × D)} : tTuple (.dict a) = false := rfl
theorem tList_none  : tList (.none) = false := rfl
theorem tList_bool {b : Bool} : tList (.bool b) = false := rfl
theorem tList_int {i : Int} : tList (.int i) = false := rfl
theorem tList_str {a : Str} : tList (.str a) = false := rfl
theorem tList_tuple {a : List D} : tList (.tuple a) = false := rfl
theorem tList_list {a : List D} : tList (.list a) = true := rfl
theorem tList_dict {a : List (D × D)} : tList (.dict a) = false := rfl
theorem tSeq_none  : PD.tSeq (.none) = false := rfl
theorem tSeq_bool {b : Bool} : PD.tSeq (.bool b) = false := rfl
theorem tSeq_int {i : Int} : PD.tSeq (.int i) = false := rfl
theorem tSeq_str {a : Str} : PD.tSeq (.str a) = false := rfl
theorem tSeq_tuple {a : List D} : PD.tSeq (.tuple a) = true := rfl
theorem tSeq_list {a : List D} : PD.tSeq (.list a) = true := rfl
theorem tSeq_dict {a : List (D × D)} : PD.tSeq (.dict a) = false := rfl
theorem isNoneB_none  : isNoneB (.none) = true := rfl
theorem scalarD_none  : scalarD (.none) = true := rfl
theorem isNoneB_bool {b : Bool} : isNoneB (.bool b) = false := rfl
theorem scalarD_bool {b : Bool} : scalarD (.bool b) = true := rfl
theorem isNoneB_int {i : Int} : isNoneB (.int i) = false := rfl
theorem scalarD_int {i : Int} : scalarD (.int i) = true := rfl
theorem isNoneB_str {a : Str} : isNoneB (.str a) = false := rfl
theorem scalarD_str {a : Str} : scalarD (.str a) = true := rfl
theorem isNoneB_tuple {a : List D} : isNoneB (.tuple a) = false := rfl
theorem scalarD_tuple {a : List D} : scalarD (.tuple a) = false := rfl
theorem isNoneB_list {a : List D} : isNoneB (.list a) = false := rfl
theorem scalarD_list {a : List D} : scalarD (.list a) = false := rfl
theorem isNoneB_dict {a : List (D × D)} : isNoneB (.dict a) = false := rfl
theorem scalarD_dict {a : List (D × D)} : scalarD (.dict a) = false := rfl
theorem ixT0 {a0 : D} {r : List D} : ixD (.tuple (a0 :: r)) (.int 0) = some a0 := atI_nat (j := 0) rfl
theorem ixT1 {a0 a1 : D} {r : List D} : ixD (.tuple (a0 :: a1 :: r)) (.int 1) = some a1 := atI_nat (j := 1) rfl
theorem ixT2 {a0 a1 a2 : D} {r : List D} : ixD (.tuple (a0 :: a1 :: a2 :: r)) (.int 2) = some a2 := atI_nat (j := 2) rfl
theorem ixT3 {a0 a1 a2 a3 : D} {r : List D} : ixD (.tuple (a0 :: a1 :: a2 :: a3 :: r)) (.int 3) = some a3 := atI_nat (j := 3) rfl
theorem ixT4 {a0 a1 a2 a3 a4 : D} {r : List D} : ixD (.tuple (a0 :: a1 :: a2 :: a3 :: a4 :: r)) (.int 4) = some a4 := atI_nat (j := 4) rfl
theorem ixT5 {a0 a1 a2 a3 a4 a5 : D} {r : List D} : ixD (.tuple (a0 :: a1 :: a2 :: a3 :: a4 :: a5 :: r)) (.int 5) = some a5 := atI_nat (j := 5) rfl
theorem ixT6 {a0 a1 a2 a3 a4 a5 a6 : D} {r : List D} : ixD (.tuple (a0 :: a1 :: a2 :: a3 :: a4 :: a5 :: a6 :: r)) (.int 6) = some a6 := atI_nat (j := 6) rfl
theorem ixT7 {a0 a1 a2 a3 a4 a5 a6 a7 : D} {r : List D} : ixD (.tuple (a0 :: a1 :: a2 :: a3 :: a4 :: a5 :: a6 :: a7 :: r)) (.int 7) = some a7 := atI_nat (j := 7) rfl
theorem ixT8 {a0 a1 a2 a3 a4 a5 a6 a7 a8 : D} {r : List D} : ixD (.tuple (a0 :: a1 :: a2 :: a3 :: a4 :: a5 :: a6 :: a7 :: a8 :: r)) (.int 8) = some a8 := atI_nat (j := 8) rfl
theorem ixT9 {a0 a1 a2 a3 a4 a5 a6 a7 a8 a9 : D} {r : List D} : ixD (.tuple (a0 :: a1 :: a2 :: a3 :: a4 :: a5 :: a6 :: a7 :: a8 :: a9 :: r)) (.int 9) = some a9 := atI_nat (j := 9) rfl
theorem ixL0 {a0 : D} {r : List D} : ixD (.list (a0 :: r)) (.int 0) = some a0 := atI_nat (j := 0) rfl
theorem ixL1 {a0 a1 : D} {r : List D} : ixD (.list (a0 :: a1 :: r)) (.int 1) = some a1 := atI_nat (j := 1) rfl
theorem ixL2 {a0 a1 a2 : D} {r : List D} : ixD (.list (a0 :: a1 :: a2 :: r)) (.int 2) = some a2 := atI_nat (j := 2) rfl
theorem ixL3 {a0 a1 a2 a3 : D} {r : List D} : ixD (.list (a0 :: a1 :: a2 :: a3 :: r)) (.int 3) = some a3 := atI_nat (j := 3) rfl
theorem ixL4 {a0 a1 a2 a3 a4 : D} {r : List D} : ixD (.list (a0 :: a1 :: a2 :: a3 :: a4 :: r)) (.int 4) = some a4 := atI_nat (j := 4) rfl
theorem ixL5 {a0 a1 a2 a3 a4 a5 : D} {r : List D} : ixD (.list (a0 :: a1 :: a2 :: a3 :: a4 :: a5 :: r)) (.int 5) = some a5 := atI_nat (j := 5) rfl
theorem ixL6 {a0 a1 a2 a3 a4 a5 a6 : D} {r : List D} : ixD (.list (a0 :: a1 :: a2 :: a3 :: a4 :: a5 :: a6 :: r)) (.int 6) = some a6 := atI_nat (j := 6) rfl
theorem ixL7 {a0 a1 a2 a3 a4 a5 a6 a7 : D} {r : List D} : ixD (.list (a0 :: a1 :: a2 :: a3 :: a4 :: a5 :: a6 :: a7 :: r)) (.int 7) = some a7 := atI_nat (j := 7) rfl
theorem ixL8 {a0 a1 a2 a3 a4 a5 a6 a7 a8 : D} {r : List D} : ixD (.list (a0 :: a1 :: a2 :: a3 :: a4 :: a5 :: a6 :: a7 :: a8 :: r)) (.int 8) = some a8 := atI_nat (j := 8) rfl
theorem ixL9 {a0 a1 a2 a3 a4 a5 a6 a7 a8 a9 : D} {r : List D} : ixD (.list (a0 :: a1 :: a2 :: a3 :: a4 :: a5 :: a6 :: a7 :: a8 :: a9 :: r)) (.int 9) = some a9 := atI_nat (j := 9) rfl
theorem aI0 {a0 : D} {r : List D} : atI (a0 :: r) (0 : Int) = some a0 := atI_nat (j := 0) rfl
theorem aI1 {a0 a1 : D} {r : List D} : atI (a0 :: a1 :: r) (1 : Int) = some a1 := atI_nat (j := 1) rfl
theorem aI2 {a0 a1 a2 : D} {r : List D} : atI (a0 :: a1 :: a2 :: r) (2 : Int) = some a2 := atI_nat (j := 2) rfl
theorem aI3 {a0 a1 a2 a3 : D} {r : List D} : atI (a0 :: a1 :: a2 :: a3 :: r) (3 : Int) = some a3 := atI_nat (j := 3) rfl
theorem aI4 {a0 a1 a2 a3 a4 : D} {r : List D} : atI (a0 :: a1 :: a2 :: a3 :: a4 :: r) (4 : Int) = some a4 := atI_nat (j := 4) rfl
theorem aI5 {a0 a1 a2 a3 a4 a5 : D} {r : List D} : atI (a0 :: a1 :: a2 :: a3 :: a4 :: a5 :: r) (5 : Int) = some a5 := atI_nat (j := 5) rfl
theorem aI6 {a0 a1 a2 a3 a4 a5 a6 : D} {r : List D} : atI (a0 :: a1 :: a2 :: a3 :: a4 :: a5 :: a6 :: r) (6 : Int) = some a6 := atI_nat (j := 6) rfl
theorem aI7 {a0 a1 a2 a3 a4 a5 a6 a7 : D} {r : List D} : atI (a0 :: a1 :: a2 :: a3 :: a4 :: a5 :: a6 :: a7 :: r) (7 : Int) = some a7 := atI_nat (j := 7) rfl
theorem aI8 {a0 a1 a2 a3 a4 a5 a6 a7 a8 : D} {r : List D} : atI (a0 :: a1 :: a2 :: a3 :: a4 :: a5 :: a6 :: a7 :: a8 :: r) (8 : Int) = some a8 := atI_nat (j := 8) rfl
theorem aI9 {a0 a1 a2 a3 a4 a5 a6 a7 a8 a9 : D} {r : List D} : atI (a0 :: a1 :: a2 :: a3 :: a4 :: a5 :: a6 :: a7 :: a8 :: a9 :: r) (9 : Int) = some a9 := atI_nat (j := 9) rfl
theorem ixN1_0 : ixN 1 (0 : Int) = some 0 := by decide
theorem ixN2_0 : ixN 2 (0 : Int) = some 0 := by decide
theorem ixN2_1 : ixN 2 (1 : Int) = some 1 := by decide
theorem ixN3_0 : ixN 3 (0 : Int) = some 0 := by decide
theorem ixN3_1 : ixN 3 (1 : Int) = some 1 := by decide
theorem ixN3_2 : ixN 3 (2 : Int) = some 2 := by decide
theorem ixN4_0 : ixN 4 (0 : Int) = some 0 := by decide
theorem ixN4_1 : ixN 4 (1 : Int) = some 1 := by decide
theorem ixN4_2 : ixN 4 (2 : Int) = some 2 := by decide
theorem ixN4_3 : ixN 4 (3 : Int) = some 3 := by decide
theorem ixN5_0 : ixN 5 (0 : Int) = some 0 := by decide
theorem ixN5_1 : ixN 5 (1 : Int) = some 1 := by decide
theorem ixN5_2 : ixN 5 (2 : Int) = some 2 := by decide
theorem ixN5_3 : ixN 5 (3 : Int) = some 3 := by decide
theorem ixN5_4 : ixN 5 (4 : Int) = some 4 := by decide
theorem ixN6_0 : ixN 6 (0 : Int) = some 0 := by decide
theorem ixN6_1 : ixN 6 (1 : Int) = some 1 := by decide
theorem ixN6_2 : ixN 6 (2 : Int) = some 2 := by decide
theorem ixN6_3 : ixN 6 (3 : Int) = some 3 := by decide
theorem ixN6_4 : ixN 6 (4 : Int) = some 4 := by decide
theorem ixN6_5 : ixN 6 (5 : Int) = some 5 := by decide
end PD

set_option maxRecDepth 100000
set_option maxHeartbeats 4000000
set_option autoImplicit false
namespace PD
open PySem PySem.Spec L2
/-! ### loops, comprehensions: how they are reckoned -/
theorem lcLoop_fm {vs : List Nat} {G : Gt} {tt : M Bool} {te : M D} {ρ : DE} (p : D → Bool) (f : D → D) : ∀ (xs acc : List D), acc.length + xs.length ≤ sizeLine →
    (∀ x ∈ xs, ∃ ρ1 ρ2, G x ρ = some ρ1 ∧ tt ρ1 = .ok (p x) ρ2 ∧ (p x = true → ∃ ρ3, te ρ2 = .ok (f x) ρ3 ∧ wipeD ρ3 vs = ρ) ∧ (p x = false → wipeD ρ2 vs = ρ)) →
    lcLoop vs G tt te xs acc ρ = .ok (acc ++ (xs.filter p).map f) ρ
  | [], acc, _, _ => by simp [lcLoop]
  | x :: r, acc, hl, h => by
    obtain ⟨ρ1, ρ2, h1, h2, h3, h4⟩ := h x List.mem_cons_self
    have ih := fun acc hl => lcLoop_fm (vs := vs) (G := G) (tt := tt) (te := te) (ρ := ρ) p f r acc hl fun y hy => h y (List.mem_cons_of_mem _ hy)
    unfold lcLoop
    rw [h1]
    simp only
    rw [h2]
    simp only
    rw [List.length_cons] at hl
    cases hp : p x with
    | true =>
      obtain ⟨ρ3, h5, h6⟩ := h3 hp
      simp only [if_true]
      rw [h5]
      simp only
      rw [if_pos (by omega), h6, ih _ (by rw [List.length_append, List.length_singleton]; omega), List.filter_cons_of_pos hp, List.map_cons, List.append_assoc]
      rfl
    | false =>
      simp only [Bool.false_eq_true, if_false]
      rw [h4 hp, ih _ (by omega), List.filter_cons_of_neg (by rw [hp]; exact Bool.false_ne_true)]
theorem lcLoop_filter {vs : List Nat} {G : Gt} {tt : M Bool} {te : M D} {ρ : DE} (p : D → Bool) (xs : List D) (hl : xs.length ≤ sizeLine)
    (h : ∀ x ∈ xs, ∃ ρ1 ρ2, G x ρ = some ρ1 ∧ tt ρ1 = .ok (p x) ρ2 ∧ (p x = true → ∃ ρ3, te ρ2 = .ok x ρ3 ∧ wipeD ρ3 vs = ρ) ∧ (p x = false → wipeD ρ2 vs = ρ)) :
    lcLoop vs G tt te xs [] ρ = .ok (xs.filter p) ρ := by
  rw [lcLoop_fm p (fun x => x) xs [] (by simpa using hl) h, List.nil_append, List.map_id']
/-- nothing passes the test -/
theorem lcLoop_none {vs : List Nat} {G : Gt} {tt : M Bool} {te : M D} {ρ : DE} : ∀ (xs acc : List D), (∀ x ∈ xs, ∃ ρ1 ρ2, G x ρ = some ρ1 ∧ tt ρ1 = .ok false ρ2 ∧ wipeD ρ2 vs = ρ) → lcLoop vs G tt te xs acc ρ = .ok acc ρ
  | [], acc, _ => rfl
  | x :: r, acc, h => by
    obtain ⟨ρ1, ρ2, h1, h2, h3⟩ := h x List.mem_cons_self
    unfold lcLoop
    rw [h1]
    simp only
    rw [h2]
    simp only [Bool.false_eq_true, if_false]
    rw [h3, lcLoop_none r acc fun y hy => h y (List.mem_cons_of_mem _ hy)]
theorem lcLoop_map {vs : List Nat} {G : Gt} {tt : M Bool} {te : M D} {ρ : DE} (f : D → D) (xs : List D) (hl : xs.length ≤ sizeLine)
    (h : ∀ x ∈ xs, ∃ ρ1 ρ2 ρ3, G x ρ = some ρ1 ∧ tt ρ1 = .ok true ρ2 ∧ te ρ2 = .ok (f x) ρ3 ∧ wipeD ρ3 vs = ρ) : lcLoop vs G tt te xs [] ρ = .ok (xs.map f) ρ := by
  have e := lcLoop_fm (vs := vs) (G := G) (tt := tt) (te := te) (ρ := ρ) (fun _ => true) f xs [] (by simpa using hl) fun x hx => by
    obtain ⟨ρ1, ρ2, ρ3, h1, h2, h3, h4⟩ := h x hx
    exact ⟨ρ1, ρ2, h1, h2, fun _ => ⟨ρ3, h3, h4⟩, fun e => by cases e⟩
  rw [e, List.nil_append, List.filter_eq_self.mpr (fun _ _ => rfl)]
/-- with draws within: something comes, and what holds of the slots holds -/
theorem lcLoop_any {vs : List Nat} {G : Gt} {tt : M Bool} {te : M D} (I : DE → Prop) (P : D → Prop) : ∀ (xs acc : List D) (ρ : DE), I ρ → acc.length + xs.length ≤ sizeLine →
    (∀ x ∈ xs, ∀ ρ, I ρ → ∃ ρ1 ρ2 y ρ3, G x ρ = some ρ1 ∧ tt ρ1 = .ok true ρ2 ∧ te ρ2 = .ok y ρ3 ∧ P y ∧ I (wipeD ρ3 vs)) →
    ∃ ys ρ', lcLoop vs G tt te xs acc ρ = .ok (acc ++ ys) ρ' ∧ I ρ' ∧ (∀ y ∈ ys, P y) ∧ ys.length = xs.length
  | [], acc, ρ, hI, _, _ => ⟨[], ρ, by simp [lcLoop], hI, fun _ h => by simp at h, rfl⟩
  | x :: r, acc, ρ, hI, hl, h => by
    obtain ⟨ρ1, ρ2, y, ρ3, h1, h2, h3, h4, h5⟩ := h x List.mem_cons_self ρ hI
    rw [List.length_cons] at hl
    obtain ⟨ys, ρ', e1, e2, e3, e4⟩ := lcLoop_any I P r (acc ++ [y]) _ h5 (by rw [List.length_append, List.length_singleton]; omega) fun z hz => h z (List.mem_cons_of_mem _ hz)
    refine ⟨y :: ys, ρ', ?_, e2, ?_, by rw [List.length_cons, List.length_cons, e4]⟩
    · unfold lcLoop
      rw [h1]
      simp only
      rw [h2]
      simp only [if_true]
      rw [h3]
      simp only
      rw [if_pos (by omega), e1, List.append_assoc]
      rfl
    · intro z hz
      rcases List.mem_cons.mp hz with e | hz
      · rw [e]; exact h4
      · exact e3 z hz
theorem forD_inv {G : Gt} {g : MS} (I : DE → Prop) : ∀ (xs : List D) (ρ : DE), I ρ → (∀ x ∈ xs, ∀ ρ, I ρ → ∃ ρ1, G x ρ = some ρ1 ∧ ∃ ρ2, (g ρ1 = .nx ρ2 ∨ g ρ1 = .ct ρ2) ∧ I ρ2) → ∃ ρ', forD G g xs ρ = .nx ρ' ∧ I ρ'
  | [], ρ, h, _ => ⟨ρ, rfl, h⟩
  | x :: r, ρ, h, hs => by
    obtain ⟨ρ1, h1, ρ2, h2, h3⟩ := hs x List.mem_cons_self ρ h
    obtain ⟨ρ', e1, e2⟩ := forD_inv I r ρ2 h3 fun y hy => hs y (List.mem_cons_of_mem _ hy)
    refine ⟨ρ', ?_, e2⟩
    unfold forD
    rw [h1]
    simp only
    rcases h2 with h2 | h2 <;> rw [h2] <;> exact e1
/-- what a turn may come to: I holds on, or Q of what the loop ends with -/
def StepR (I : DE → Prop) (Q : Fl → Prop) (r : Fl) : Prop := match r with
  | .nx ρ => I ρ
  | .ct ρ => I ρ
  | .bk ρ => Q (.nx ρ)
  | .rt x ρ => Q (.rt x ρ)
  | .rl x ρ => Q (.rl x ρ)
  | .ex e ρ => Q (.ex e ρ)
  | .bad => False
theorem step_nx {I : DE → Prop} {Q : Fl → Prop} {ρ : DE} : StepR I Q (.nx ρ) = I ρ := rfl
theorem step_ct {I : DE → Prop} {Q : Fl → Prop} {ρ : DE} : StepR I Q (.ct ρ) = I ρ := rfl
theorem step_bk {I : DE → Prop} {Q : Fl → Prop} {ρ : DE} : StepR I Q (.bk ρ) = Q (.nx ρ) := rfl
theorem step_rt {I : DE → Prop} {Q : Fl → Prop} {ρ : DE} {x : D} : StepR I Q (.rt x ρ) = Q (.rt x ρ) := rfl
theorem step_rl {I : DE → Prop} {Q : Fl → Prop} {ρ : DE} {x : List D} : StepR I Q (.rl x ρ) = Q (.rl x ρ) := rfl
theorem step_ite {I : DE → Prop} {Q : Fl → Prop} {c : Prop} [Decidable c] {a b : Fl} : StepR I Q (if c then a else b) = if c then StepR I Q a else StepR I Q b := by split <;> rfl
theorem forD_wpN {G : Gt} {g : MS} (I : Nat → DE → Prop) (Q : Fl → Prop) : ∀ (xs : List D) (n : Nat) (ρ : DE), I n ρ → (∀ i x ρ, xs[i]? = some x → I (n + i) ρ → ∃ ρ1, G x ρ = some ρ1 ∧ StepR (I (n + i + 1)) Q (g ρ1)) → (∀ ρ, I (n + xs.length) ρ → Q (.nx ρ)) → Q (forD G g xs ρ)
  | [], n, ρ, h, _, he => he ρ h
  | x :: r, n, ρ, h, hs, he => by
    obtain ⟨ρ1, h1, h2⟩ := hs 0 x ρ rfl h
    have ih := fun ρ2 (h3 : I (n + 1) ρ2) => forD_wpN I Q r (n + 1) ρ2 h3 (fun i y ρ hy hI => by
      have := hs (i + 1) y ρ (by simpa using hy) (by rw [show n + (i + 1) = n + 1 + i by omega]; exact hI)
      rw [show n + (i + 1) = n + 1 + i by omega] at this
      exact this) (fun ρ hI => he ρ (by rw [List.length_cons, show n + (r.length + 1) = n + 1 + r.length by omega]; exact hI))
    unfold forD
    rw [h1]
    simp only
    unfold StepR at h2
    split at h2
    · rename_i e; rw [e]; exact ih _ h2
    · rename_i e; rw [e]; exact ih _ h2
    · rename_i e; rw [e]; exact h2
    · rename_i e; rw [e]; exact h2
    · rename_i e; rw [e]; exact h2
    · rename_i e; rw [e]; exact h2
    · exact h2.elim
theorem forD_wp {G : Gt} {g : MS} (I : Nat → DE → Prop) (Q : Fl → Prop) (xs : List D) (ρ : DE) (h0 : I 0 ρ) (hs : ∀ i x ρ, xs[i]? = some x → I i ρ → ∃ ρ1, G x ρ = some ρ1 ∧ StepR (I (i + 1)) Q (g ρ1)) (he : ∀ ρ, I xs.length ρ → Q (.nx ρ)) : Q (forD G g xs ρ) :=
  forD_wpN I Q xs 0 ρ h0 (fun i x ρ hx hI => by rw [Nat.zero_add] at hI ⊢; exact hs i x ρ hx hI) (fun ρ h => he ρ (by rw [Nat.zero_add] at h; exact h))
theorem forD_invN {G : Gt} {g : MS} (I : Nat → DE → Prop) (xs : List D) (ρ : DE) (h0 : I 0 ρ) (hs : ∀ i x ρ, xs[i]? = some x → I i ρ → ∃ ρ1, G x ρ = some ρ1 ∧ StepR (I (i + 1)) (fun _ => False) (g ρ1)) : ∃ ρ', forD G g xs ρ = .nx ρ' ∧ I xs.length ρ' :=
  forD_wp I (fun r => ∃ ρ', r = .nx ρ' ∧ I xs.length ρ') xs ρ h0 (fun i x ρ hx hI => by
    obtain ⟨ρ1, h1, h2⟩ := hs i x ρ hx hI
    refine ⟨ρ1, h1, ?_⟩
    unfold StepR at h2 ⊢
    split at h2 <;> first | exact (show False from h2).elim | exact h2) fun ρ h => ⟨ρ, rfl, h⟩
theorem get_rangeD {lo : Int} {n i : Nat} {x : D} (h : (rangeD lo n)[i]? = some x) : x = .int (lo + i) ∧ i < n := by
  unfold rangeD at h
  rw [List.getElem?_map] at h
  by_cases hi : i < n
  · rw [List.getElem?_range hi] at h
    cases h
    exact ⟨rfl, hi⟩
  · rw [List.getElem?_eq_none (by rw [List.length_range]; omega)] at h
    cases h
theorem mem_rangeD {lo : Int} {n : Nat} {x : D} (h : x ∈ rangeD lo n) : ∃ i : Int, x = .int i ∧ lo ≤ i ∧ i < lo + n := by
  unfold rangeD at h
  obtain ⟨i, hi, rfl⟩ := List.mem_map.mp h
  have := List.mem_range.mp hi
  exact ⟨_, rfl, by omega, by omega⟩
theorem rangeD_length {lo : Int} {n : Nat} : (rangeD lo n).length = n := by
  unfold rangeD
  rw [List.length_map, List.length_range]
theorem range1_ok {j : Int} (h : j < 2 ^ 62 := by omega) (h2 : -(2 ^ 62) ≤ j := by omega) : range1D [.int j] = some (rangeD 0 j.toNat) := by
  show (if rngOk j = true then _ else _) = _
  rw [if_pos (by unfold rngOk; rw [decide_eq_true h, decide_eq_true h2]; rfl)]
theorem range2_ok {i j : Int} (h1 : i < 2 ^ 62 := by omega) (h2 : -(2 ^ 62) ≤ i := by omega) (h3 : j < 2 ^ 62 := by omega) (h4 : -(2 ^ 62) ≤ j := by omega) : range2D [.int i, .int j] = some (rangeD i (j - i).toNat) := by
  show (if (rngOk i && rngOk j) = true then _ else _) = _
  rw [if_pos (by unfold rngOk; rw [decide_eq_true h1, decide_eq_true h2, decide_eq_true h3, decide_eq_true h4]; rfl)]
/-- a loop over data, by its turns: F the state behind so many -/
theorem forD_fold {G : Gt} {g : MS} {σ : Type} (st : σ → DE) (f : σ → D → σ) (ok : σ → D → Prop) : ∀ (xs : List D) (a : σ), (∀ (a : σ) (x : D), x ∈ xs → ok a x → ∃ ρ1, G x (st a) = some ρ1 ∧ (g ρ1 = .nx (st (f a x)) ∨ g ρ1 = .ct (st (f a x)))) →
    (∀ (i : Nat) (x : D), xs[i]? = some x → ok ((xs.take i).foldl f a) x) → forD G g xs (st a) = .nx (st (xs.foldl f a))
  | [], a, _, _ => rfl
  | x :: r, a, hs, ho => by
    obtain ⟨ρ1, h1, h2⟩ := hs a x List.mem_cons_self (ho 0 x rfl)
    have ih := forD_fold st f ok r (f a x) (fun b y hy => hs b y (List.mem_cons_of_mem _ hy)) fun i y hy => ho (i + 1) y (by simpa using hy)
    unfold forD
    rw [h1]
    simp only
    rcases h2 with h2 | h2 <;> rw [h2] <;> exact ih
theorem while_done {p : M Bool} {g : MS} {ρ ρ1 : DE} (h : p ρ = .ok false ρ1) : S.while_ p g ρ = .nx ρ1 := by
  have e : whileN p g 1 ρ = .nx ρ1 := by
    unfold whileN
    rw [h]
    rfl
  rw [while_eq (n := 1) (by rw [e]; rfl), e]
theorem while_go {p : M Bool} {g : MS} {ρ ρ1 ρ2 : DE} (h : p ρ = .ok true ρ1) (hg : g ρ1 = .nx ρ2 ∨ g ρ1 = .ct ρ2) (hb : (S.while_ p g ρ2).isBad = false) : S.while_ p g ρ = S.while_ p g ρ2 := by
  have hx : ∃ n, (whileN p g n ρ2).isBad = false := by
    unfold S.while_ at hb
    split at hb
    · assumption
    · cases hb
  obtain ⟨n, hn⟩ := hx
  have e : whileN p g (n + 1) ρ = whileN p g n ρ2 := by
    rw [whileN, h]
    simp only [if_true]
    rcases hg with hg | hg <;> rw [hg]
  rw [while_eq hn, while_eq (n := n + 1) (by rw [e]; exact hn), e]
/-- a while by what holds and a number that falls -/
theorem while_inv {p : M Bool} {g : MS} (I : Nat → DE → Prop) (Q : DE → Prop) : ∀ (n : Nat) (ρ : DE), I n ρ → (∀ n ρ, I n ρ → (∃ ρ1, p ρ = .ok false ρ1 ∧ Q ρ1) ∨ ∃ ρ1 ρ2 m, p ρ = .ok true ρ1 ∧ (g ρ1 = .nx ρ2 ∨ g ρ1 = .ct ρ2) ∧ m < n ∧ I m ρ2) → ∃ ρ', S.while_ p g ρ = .nx ρ' ∧ Q ρ' := fun n => by
  induction n using Nat.strongRecOn with
  | _ n ih =>
    intro ρ h hs
    rcases hs n ρ h with ⟨ρ1, h1, h2⟩ | ⟨ρ1, ρ2, m, h1, h2, h3, h4⟩
    · exact ⟨ρ1, while_done h1, h2⟩
    · obtain ⟨ρ', e1, e2⟩ := ih m h3 ρ2 h4 hs
      exact ⟨ρ', by rw [while_go h1 h2 (by rw [e1]; rfl), e1], e2⟩
/-! ### slices -/
theorem sIx_neg (n d k : Nat) (hk : 0 < k) : HT.sIx n d (some (-(k : Int))) = n - k := by
  have e := HT.clip_eq (-(k : Int)) n d
  rw [if_pos (by omega)] at e
  omega
theorem cut_neg {xs : List D} {i : Int} {k : Nat} (e : i = -(k : Int)) (hk : 0 < k) : cutD xs (some i) none = xs.drop (xs.length - k) := by
  unfold cutD
  rw [e, sIx_neg _ _ _ hk, HT.sIx_none, List.take_of_length_le (by rw [List.length_drop]; omega)]
theorem cut_from {xs : List D} {i : Int} {k : Nat} (e : i = (k : Int)) : cutD xs (some i) none = xs.drop k := by
  unfold cutD
  rw [e, HT.sIx_nat, HT.sIx_none, List.take_of_length_le (by rw [List.length_drop]; omega)]
  by_cases h : k ≤ xs.length
  · rw [Nat.min_eq_left h]
  · rw [Nat.min_eq_right (by omega), List.drop_eq_nil_of_le (Nat.le_refl _), List.drop_eq_nil_of_le (by omega)]
theorem cut_to {xs : List D} {i : Int} {k : Nat} (e : i = (k : Int)) : cutD xs none (some i) = xs.take k := by
  unfold cutD
  rw [e, HT.sIx_nat, HT.sIx_none, List.drop_zero, Nat.sub_zero]
  by_cases h : k ≤ xs.length
  · rw [Nat.min_eq_left h]
  · rw [Nat.min_eq_right (by omega), List.take_of_length_le (by omega), List.take_of_length_le (by omega)]
theorem cut_ft {xs : List D} {i j : Int} {a b : Nat} (e : i = (a : Int)) (e' : j = (b : Int)) : cutD xs (some i) (some j) = (xs.drop a).take (b - a) := by
  unfold cutD
  rw [e, e', HT.sIx_nat, HT.sIx_nat]
  by_cases h : a ≤ xs.length
  · rw [Nat.min_eq_left h]
    by_cases hb : b ≤ xs.length
    · rw [Nat.min_eq_left hb]
    · rw [Nat.min_eq_right (Nat.le_of_not_le hb), List.take_of_length_le (by rw [List.length_drop]; exact Nat.le_refl _), List.take_of_length_le (by rw [List.length_drop]; omega)]
  · rw [Nat.min_eq_right (Nat.le_of_not_le h), List.drop_eq_nil_of_le (Nat.le_refl _), List.drop_eq_nil_of_le (Nat.le_of_not_le h)]
    simp
theorem slice_t {xs : List D} {lo hi : Option Int} : sliceD (.tuple xs) lo hi = some (.tuple (cutD xs lo hi)) := rfl
/-! ### truth values -/
theorem boolsOf_map : ∀ h : List Bool, boolsOf (h.map PyData.bool) = some h
  | [] => rfl
  | b :: h => by
    rw [List.map_cons]
    show (boolsOf (h.map PyData.bool)).map (b :: ·) = _
    rw [boolsOf_map h]
    rfl
theorem all_t (h : List Bool) : allD [.tuple (h.map .bool)] = some (.bool (h.all id)) := by
  show (boolsOf (h.map .bool)).map _ = _
  rw [boolsOf_map]
  rfl
theorem all_l (h : List Bool) : allD [.list (h.map .bool)] = some (.bool (h.all id)) := by
  show (boolsOf (h.map .bool)).map _ = _
  rw [boolsOf_map]
  rfl
theorem any_l (h : List Bool) : anyD [.list (h.map .bool)] = some (.bool (h.any id)) := by
  show (boolsOf (h.map .bool)).map _ = _
  rw [boolsOf_map]
  rfl
theorem all_lm {α : Type} (f : α → Bool) (xs : List α) : allD [.list (xs.map fun x => .bool (f x))] = some (.bool (xs.all f)) := by
  have e : (xs.map fun x => PyData.bool (f x)) = (xs.map f).map .bool := by rw [List.map_map]; rfl
  rw [e, all_l, List.all_map]
  rfl
theorem all_tm {α : Type} (f : α → Bool) (xs : List α) : allD [.tuple (xs.map fun x => .bool (f x))] = some (.bool (xs.all f)) := by
  have e : (xs.map fun x => PyData.bool (f x)) = (xs.map f).map .bool := by rw [List.map_map]; rfl
  rw [e, all_t, List.all_map]
  rfl
theorem any_lm {α : Type} (f : α → Bool) (xs : List α) : anyD [.list (xs.map fun x => .bool (f x))] = some (.bool (xs.any f)) := by
  have e : (xs.map fun x => PyData.bool (f x)) = (xs.map f).map .bool := by rw [List.map_map]; rfl
  rw [e, any_l, List.any_map]
  rfl
theorem sz (n : Nat) (h : n ≤ 16777216 := by decide) : (n ≤ sizeLine) = True := by
  rw [sizeLine_eq]
  exact eq_true h
theorem sz0 : (0 ≤ sizeLine) = True := sz 0
theorem sz1 : (1 ≤ sizeLine) = True := sz 1
theorem sz2 : (2 ≤ sizeLine) = True := sz 2
theorem sz3 : (3 ≤ sizeLine) = True := sz 3
theorem sz4 : (4 ≤ sizeLine) = True := sz 4
theorem sz5 : (5 ≤ sizeLine) = True := sz 5
theorem sz6 : (6 ≤ sizeLine) = True := sz 6
theorem sz7 : (7 ≤ sizeLine) = True := sz 7
theorem sz8 : (8 ≤ sizeLine) = True := sz 8
theorem sz9 : (9 ≤ sizeLine) = True := sz 9
theorem sz10 : (10 ≤ sizeLine) = True := sz 10
theorem sz11 : (11 ≤ sizeLine) = True := sz 11
theorem sz12 : (12 ≤ sizeLine) = True := sz 12
theorem sz13 : (13 ≤ sizeLine) = True := sz 13
theorem sz14 : (14 ≤ sizeLine) = True := sz 14
theorem sz15 : (15 ≤ sizeLine) = True := sz 15
theorem sz16 : (16 ≤ sizeLine) = True := sz 16
theorem sz17 : (17 ≤ sizeLine) = True := sz 17
theorem sz18 : (18 ≤ sizeLine) = True := sz 18
theorem sz19 : (19 ≤ sizeLine) = True := sz 19
theorem sz20 : (20 ≤ sizeLine) = True := sz 20
theorem sz21 : (21 ≤ sizeLine) = True := sz 21
theorem sz22 : (22 ≤ sizeLine) = True := sz 22
theorem sz23 : (23 ≤ sizeLine) = True := sz 23
theorem sz24 : (24 ≤ sizeLine) = True := sz 24
theorem sz25 : (25 ≤ sizeLine) = True := sz 25
theorem sz26 : (26 ≤ sizeLine) = True := sz 26
theorem sz27 : (27 ≤ sizeLine) = True := sz 27
theorem sz28 : (28 ≤ sizeLine) = True := sz 28
theorem sz29 : (29 ≤ sizeLine) = True := sz 29
theorem sz30 : (30 ≤ sizeLine) = True := sz 30
theorem sz31 : (31 ≤ sizeLine) = True := sz 31
theorem sz32 : (32 ≤ sizeLine) = True := sz 32
theorem sz33 : (33 ≤ sizeLine) = True := sz 33
theorem sz34 : (34 ≤ sizeLine) = True := sz 34
theorem sz35 : (35 ≤ sizeLine) = True := sz 35
theorem sz36 : (36 ≤ sizeLine) = True := sz 36
theorem sz37 : (37 ≤ sizeLine) = True := sz 37
theorem sz38 : (38 ≤ sizeLine) = True := sz 38
theorem sz39 : (39 ≤ sizeLine) = True := sz 39
theorem sz40 : (40 ≤ sizeLine) = True := sz 40
theorem atI_in {xs : List D} {i : Int} (h0 : 0 ≤ i) (h1 : i < (xs.length : Int)) : ∃ y, y ∈ xs ∧ atI xs i = some y := by
  obtain ⟨k, hk⟩ := Int.eq_ofNat_of_zero_le h0
  have hk2 : k < xs.length := by omega
  exact ⟨xs[k], List.getElem_mem hk2, by rw [hk]; exact atI_nat (List.getElem?_eq_getElem hk2)⟩
theorem eq_nil_nil : eqD (.list []) (.list []) = some true := by decide +kernel
/-! ### the claim's own head: what a list of ints is -/
theorem dp_ints {K : PySem.W.Frag} {H : Hp} : ∀ ns : List Int, DpAll K H (ns.map V.int) (ns.map PyData.int)
  | [] => .nil
  | n :: ns => .cons (.int n) (dp_ints ns)
theorem law_sp {K : PySem.W.Frag} {H : Hp} {a : Addr} {ns : List Int} {F : List LV → FR} {E : XK} (hS : SqL K H a (ns.map V.int)) (h : F [.d (.list (ns.map .int))] = .ret (.bool true) none) : spF K none F [.ref a] H (fun v _ => v = .bl true) E := by
  refine ⟨H, [.d (.list (ns.map .int))], Evl.Ex.refl _, ⟨rfl, fun i lv hi => ?_⟩, ?_⟩
  · cases i with
    | zero => cases hi; exact ⟨_, rfl, .lst hS (dp_ints ns)⟩
    | succ i => simp at hi
  · rw [h]
    exact fun v H' Hf' _ _ _ _ _ d => d.bool_of
end PD

set_option maxRecDepth 100000
set_option maxHeartbeats 4000000
set_option autoImplicit false
namespace PD
open PySem PySem.Spec L2
/-! ### equality of data -/
/-- what == may be asked of: no dict within, so deep -/
def Sh (n : Nat) (x : D) : Prop := x.canLay0 = true ∧ x.depth ≤ n
theorem Sh.up {n m : Nat} {x : D} (h : Sh n x) (e : n ≤ m) : Sh m x := ⟨h.1, Nat.le_trans h.2 e⟩
theorem Sh.shaped {n : Nat} {x : D} (h : Sh n x) (e : n ≤ 64) : SeqAt.shaped x = true := by
  unfold SeqAt.shaped
  rw [h.1, decide_eq_true (Nat.le_trans h.2 e)]
  rfl
theorem eqv_ii (i j : Int) : PyData.eqv (.int i) (.int j) = decide (i = j) := by simp only [PyData.eqv]; rw [Bool.eq_iff_iff, decide_eq_true_eq, beq_iff_eq]
theorem eqv_bb (i j : Bool) : PyData.eqv (.bool i) (.bool j) = decide (i = j) := by simp only [PyData.eqv]; rw [Bool.eq_iff_iff, decide_eq_true_eq, beq_iff_eq]
theorem eqv_ss (i j : Str) : PyData.eqv (.str i) (.str j) = decide (i = j) := by simp only [PyData.eqv]; rw [Bool.eq_iff_iff, decide_eq_true_eq, beq_iff_eq]
theorem eqD_eqv {x y : D} (hx : SeqAt.shaped x = true) (hy : SeqAt.shaped y = true) : eqD x y = some (PyData.eqv x y) := by
  unfold eqD
  split <;> first | (simp only [PyData.eqv]; done) | (rw [eqv_bb]; done) | (rw [eqv_ii]; done) | (rw [eqv_ss]; done) | (rw [if_pos (And.intro hx hy)])
theorem eqD_sh {n m : Nat} {x y : D} (hx : Sh n x) (hy : Sh m y) (h1 : n ≤ 64) (h2 : m ≤ 64) : eqD x y = some (PyData.eqv x y) := eqD_eqv (hx.shaped h1) (hy.shaped h2)
theorem sh_int (i : Int) : Sh 0 (.int i) := ⟨by simp only [PyData.canLay0], by simp only [PyData.depth]; exact Nat.le_refl _⟩
theorem sh_bool (i : Bool) : Sh 0 (.bool i) := ⟨by simp only [PyData.canLay0], by simp only [PyData.depth]; exact Nat.le_refl _⟩
theorem sh_none : Sh 0 .none := ⟨by simp only [PyData.canLay0], by simp only [PyData.depth]; exact Nat.le_refl _⟩
theorem sh_str {x : Str} (h : PyData.strOk x = true) : Sh 0 (.str x) := ⟨by simp only [PyData.canLay0]; exact h, by simp only [PyData.depth]; exact Nat.le_refl _⟩
theorem lay_all : ∀ {xs : List D}, (∀ x ∈ xs, x.canLay0 = true) → PyData.canLayAll0 xs = true
  | [], _ => by simp only [PyData.canLayAll0]
  | x :: xs, h => by
    simp only [PyData.canLayAll0]
    rw [h x List.mem_cons_self, lay_all fun y hy => h y (List.mem_cons_of_mem _ hy)]
    rfl
theorem depth_all {n : Nat} : ∀ {xs : List D}, (∀ x ∈ xs, x.depth ≤ n) → PyData.depthAll xs ≤ n
  | [], _ => by simp only [PyData.depthAll]; exact Nat.zero_le _
  | x :: xs, h => by
    simp only [PyData.depthAll]
    have h1 := h x List.mem_cons_self
    have h2 := depth_all (n := n) (xs := xs) fun y hy => h y (List.mem_cons_of_mem _ hy)
    omega
theorem sh_tup {n : Nat} {xs : List D} (h : ∀ x ∈ xs, Sh n x) : Sh (n + 1) (.tuple xs) := by
  refine ⟨by simp only [PyData.canLay0]; exact lay_all fun x hx => (h x hx).1, ?_⟩
  simp only [PyData.depth]
  have := depth_all fun x hx => (h x hx).2
  omega
theorem sh_lst {n : Nat} {xs : List D} (h : ∀ x ∈ xs, Sh n x) : Sh (n + 1) (.list xs) := by
  refine ⟨by simp only [PyData.canLay0]; exact lay_all fun x hx => (h x hx).1, ?_⟩
  simp only [PyData.depth]
  have := depth_all fun x hx => (h x hx).2
  omega
theorem eqv_tt (xs ys : List D) : PyData.eqv (.tuple xs) (.tuple ys) = PyData.eqvAll xs ys := by simp only [PyData.eqv]
theorem eqv_ll (xs ys : List D) : PyData.eqv (.list xs) (.list ys) = PyData.eqvAll xs ys := by simp only [PyData.eqv]
theorem eqvAll_cc (x y : D) (xs ys : List D) : PyData.eqvAll (x :: xs) (y :: ys) = (PyData.eqv x y && PyData.eqvAll xs ys) := by simp only [PyData.eqvAll]
theorem eqvAll_nn : PyData.eqvAll [] [] = true := by simp only [PyData.eqvAll]
theorem eqvAll_nc (x : D) (xs : List D) : PyData.eqvAll [] (x :: xs) = false := by simp only [PyData.eqvAll]
theorem eqvAll_cn (x : D) (xs : List D) : PyData.eqvAll (x :: xs) [] = false := by simp only [PyData.eqvAll]
theorem eqvAll_map {α : Type} [DecidableEq α] {f : α → D} (h : ∀ a b, PyData.eqv (f a) (f b) = decide (a = b)) : ∀ xs ys : List α, PyData.eqvAll (xs.map f) (ys.map f) = decide (xs = ys)
  | [], [] => eqvAll_nn
  | [], y :: ys => eqvAll_nc _ _
  | x :: xs, [] => eqvAll_cn _ _
  | x :: xs, y :: ys => by
    rw [List.map_cons, List.map_cons, eqvAll_cc, h, eqvAll_map h xs ys, ← Bool.decide_and]
    exact decide_eq_decide.mpr ⟨fun e => by rw [e.1, e.2], fun e => by cases e; exact ⟨rfl, rfl⟩⟩
theorem lay_mem : ∀ {xs : List D}, PyData.canLayAll0 xs = true → ∀ x ∈ xs, x.canLay0 = true
  | [], _, _, h => by simp at h
  | x :: xs, h, y, hy => by
    simp only [PyData.canLayAll0, Bool.and_eq_true] at h
    rcases List.mem_cons.mp hy with e | e
    · rw [e]; exact h.1
    · exact lay_mem h.2 y e
theorem depth_mem : ∀ {xs : List D}, ∀ x ∈ xs, x.depth ≤ PyData.depthAll xs
  | [], _, h => by simp at h
  | x :: xs, y, hy => by
    simp only [PyData.depthAll]
    rcases List.mem_cons.mp hy with e | e
    · rw [e]; exact Nat.le_max_left _ _
    · exact Nat.le_trans (depth_mem y e) (Nat.le_max_right _ _)
theorem Sh.mem_t {n : Nat} {xs : List D} (h : Sh (n + 1) (.tuple xs)) : ∀ x ∈ xs, Sh n x := fun x hx => by
  have h1 := h.1
  have h2 := h.2
  simp only [PyData.canLay0] at h1
  simp only [PyData.depth] at h2
  exact ⟨lay_mem h1 x hx, by have := depth_mem x hx; omega⟩
theorem Sh.mem_l {n : Nat} {xs : List D} (h : Sh (n + 1) (.list xs)) : ∀ x ∈ xs, Sh n x := fun x hx => by
  have h1 := h.1
  have h2 := h.2
  simp only [PyData.canLay0] at h1
  simp only [PyData.depth] at h2
  exact ⟨lay_mem h1 x hx, by have := depth_mem x hx; omega⟩
theorem Sh.not_dict {n : Nat} {kvs : List (D × D)} (h : Sh n (.dict kvs)) : False := by
  have := h.1
  simp only [PyData.canLay0, Bool.false_eq_true] at this
theorem Sh.zero_t {xs : List D} (h : Sh 0 (.tuple xs)) : False := by
  have := h.2
  simp only [PyData.depth] at this
  omega
theorem Sh.zero_l {xs : List D} (h : Sh 0 (.list xs)) : False := by
  have := h.2
  simp only [PyData.depth] at this
  omega
mutual
theorem eqv_self : ∀ x : D, x.canLay0 = true → PyData.eqv x x = true
  | .none, _ => by simp only [PyData.eqv]
  | .bool b, _ => by rw [eqv_bb]; exact decide_eq_true rfl
  | .int b, _ => by rw [eqv_ii]; exact decide_eq_true rfl
  | .str b, _ => by rw [eqv_ss]; exact decide_eq_true rfl
  | .list xs, h => by rw [eqv_ll]; exact eqvAll_self xs (by simpa only [PyData.canLay0] using h)
  | .tuple xs, h => by rw [eqv_tt]; exact eqvAll_self xs (by simpa only [PyData.canLay0] using h)
  | .dict xs, h => by simp only [PyData.canLay0, Bool.false_eq_true] at h
theorem eqvAll_self : ∀ xs : List D, PyData.canLayAll0 xs = true → PyData.eqvAll xs xs = true
  | [], _ => eqvAll_nn
  | x :: xs, h => by
    simp only [PyData.canLayAll0, Bool.and_eq_true] at h
    rw [eqvAll_cc, eqv_self x h.1, eqvAll_self xs h.2]
    rfl
end
theorem eqD_self {n : Nat} {x : D} (h : Sh n x) (hn : n ≤ 64) : eqD x x = some true := by
  rw [eqD_sh h h hn hn, eqv_self x h.1]
theorem bools_of : ∀ {xs : List D}, (∀ y ∈ xs, ∃ b, y = PyData.bool b) → ∃ h : List Bool, xs = h.map .bool
  | [], _ => ⟨[], rfl⟩
  | x :: xs, h => by
    obtain ⟨b, rfl⟩ := h x List.mem_cons_self
    obtain ⟨bs, rfl⟩ := bools_of fun y hy => h y (List.mem_cons_of_mem _ hy)
    exact ⟨b :: bs, rfl⟩
theorem ints_of : ∀ {xs : List D}, (∀ y ∈ xs, ∃ b, y = PyData.int b) → ∃ h : List Int, xs = h.map .int
  | [], _ => ⟨[], rfl⟩
  | x :: xs, h => by
    obtain ⟨b, rfl⟩ := h x List.mem_cons_self
    obtain ⟨bs, rfl⟩ := ints_of fun y hy => h y (List.mem_cons_of_mem _ hy)
    exact ⟨b :: bs, rfl⟩
theorem zipL_self (xs : List D) : zipL xs xs = xs.map fun x => .tuple [x, x] := by
  unfold zipL
  induction xs with
  | nil => rfl
  | cons x xs ih => rw [List.zip_cons_cons, List.map_cons, List.map_cons, ih]
theorem sh_cons {n : Nat} {x : D} {xs : List D} (h : Sh n x) (h2 : ∀ y ∈ xs, Sh n y) : ∀ y ∈ x :: xs, Sh n y := fun y hy => by
  rcases List.mem_cons.mp hy with e | e
  · rw [e]; exact h
  · exact h2 y e
theorem sh_nil {n : Nat} : ∀ y ∈ ([] : List D), Sh n y := fun y hy => by simp at hy
/-! ### in, not in -/
theorem flatAll_ints : ∀ ns : List Int, flatAll (ns.map .int) = some (ns.map V.int)
  | [] => rfl
  | n :: ns => by
    show ((flatAll (ns.map .int)).map fun vs => V.int n :: vs) = _
    rw [flatAll_ints ns]
    rfl
theorem inSeq_ints (i : Int) (ns : List Int) : inSeq (.int i) (ns.map .int) = some (ns.any fun j => decide (i = j)) := by
  unfold inSeq
  rw [flatAll_ints]
  show (if flatV (V.int i) = true ∧ (ns.map V.int).all flatV = true then some (inV (V.int i) (ns.map V.int)) else none) = _
  rw [if_pos ⟨rfl, by rw [List.all_map]; exact List.all_eq_true.mpr fun _ _ => rfl⟩]
  unfold inV
  rw [List.any_map]
  congr 2
  funext j
  show eqV (.int j) (.int i) = _
  rw [Bool.eq_iff_iff, decide_eq_true_eq]
  show ((j == i) = true) ↔ i = j
  rw [beq_iff_eq]
  exact eq_comm
theorem inDD_il (i : Int) (ns : List Int) : inDD (.int i) (.list (ns.map .int)) = some (.bool (ns.any fun j => decide (i = j))) := congrArg (Option.map PyData.bool) (inSeq_ints i ns)
theorem inDD_it (i : Int) (ns : List Int) : inDD (.int i) (.tuple (ns.map .int)) = some (.bool (ns.any fun j => decide (i = j))) := congrArg (Option.map PyData.bool) (inSeq_ints i ns)
theorem notInDD_il (i : Int) (ns : List Int) : notInDD (.int i) (.list (ns.map .int)) = some (.bool !(ns.any fun j => decide (i = j))) := congrArg (Option.map fun b => PyData.bool !b) (inSeq_ints i ns)
theorem notInDD_it (i : Int) (ns : List Int) : notInDD (.int i) (.tuple (ns.map .int)) = some (.bool !(ns.any fun j => decide (i = j))) := congrArg (Option.map fun b => PyData.bool !b) (inSeq_ints i ns)
theorem inDD_i1 (i a : Int) : inDD (.int i) (.list [.int a]) = some (.bool (decide (i = a))) := by have := inDD_il i [a]; simp only [List.map_cons, List.map_nil, List.any_cons, List.any_nil, Bool.or_false] at this; exact this
theorem inDD_i2 (i a b : Int) : inDD (.int i) (.list [.int a, .int b]) = some (.bool (decide (i = a) || decide (i = b))) := by have := inDD_il i [a, b]; simp only [List.map_cons, List.map_nil, List.any_cons, List.any_nil, Bool.or_false] at this; exact this
theorem inDD_i3 (i a b c : Int) : inDD (.int i) (.list [.int a, .int b, .int c]) = some (.bool (decide (i = a) || (decide (i = b) || decide (i = c)))) := by have := inDD_il i [a, b, c]; simp only [List.map_cons, List.map_nil, List.any_cons, List.any_nil, Bool.or_false] at this; exact this
theorem flatAll_bools : ∀ ns : List Bool, flatAll (ns.map .bool) = some (ns.map V.bl)
  | [] => rfl
  | n :: ns => by
    show ((flatAll (ns.map .bool)).map fun vs => V.bl n :: vs) = _
    rw [flatAll_bools ns]
    rfl
theorem inSeq_bools (i : Bool) (ns : List Bool) : inSeq (.bool i) (ns.map .bool) = some (ns.any fun j => decide (i = j)) := by
  unfold inSeq
  rw [flatAll_bools]
  show (if flatV (V.bl i) = true ∧ (ns.map V.bl).all flatV = true then some (inV (V.bl i) (ns.map V.bl)) else none) = _
  rw [if_pos ⟨rfl, by rw [List.all_map]; exact List.all_eq_true.mpr fun _ _ => rfl⟩]
  unfold inV
  rw [List.any_map]
  congr 2
  funext j
  rw [Bool.eq_iff_iff, decide_eq_true_eq]
  show ((j == i) = true) ↔ i = j
  rw [beq_iff_eq]
  exact eq_comm
theorem inDD_bt (i : Bool) (ns : List Bool) : inDD (.bool i) (.tuple (ns.map .bool)) = some (.bool (ns.any fun j => decide (i = j))) := congrArg (Option.map PyData.bool) (inSeq_bools i ns)
theorem notInDD_bt (i : Bool) (ns : List Bool) : notInDD (.bool i) (.tuple (ns.map .bool)) = some (.bool !(ns.any fun j => decide (i = j))) := congrArg (Option.map fun b => PyData.bool !b) (inSeq_bools i ns)
/-- == with the empty list, the empty tuple -/
theorem eqD_lnil {n : Nat} {xs : List D} (h : Sh n (.list xs)) (hn : n ≤ 64) : eqD (.list xs) (.list []) = some xs.isEmpty := by
  rw [eqD_sh h (sh_lst (n := 0) (xs := []) sh_nil) hn (by decide), eqv_ll]
  cases xs with
  | nil => rw [eqvAll_nn]; rfl
  | cons x xs => rw [eqvAll_cn]; rfl
theorem eqD_tnil {n : Nat} {xs : List D} (h : Sh n (.tuple xs)) (hn : n ≤ 64) : eqD (.tuple xs) (.tuple []) = some xs.isEmpty := by
  rw [eqD_sh h (sh_tup (n := 0) (xs := []) sh_nil) hn (by decide), eqv_tt]
  cases xs with
  | nil => rw [eqvAll_nn]; rfl
  | cons x xs => rw [eqvAll_cn]; rfl
theorem eqv_xt {x : D} (h : ∀ xs, x ≠ .tuple xs) (ys : List D) : PyData.eqv x (.tuple ys) = false := by
  cases x <;> first | exact absurd rfl (h _) | simp only [PyData.eqv]
/-- data that == takes apart as Lean does -/
class Dat (α : Type) [DecidableEq α] where
  en : α → D
  eqv : ∀ a b, PyData.eqv (en a) (en b) = decide (a = b)
  dep : Nat
  sh : ∀ a, Sh dep (en a)
instance : Dat Int := ⟨.int, eqv_ii, 0, sh_int⟩
instance : Dat Bool := ⟨.bool, eqv_bb, 0, sh_bool⟩
section
variable {α β γ δ : Type} [DecidableEq α] [DecidableEq β] [DecidableEq γ] [DecidableEq δ] [Dat α] [Dat β] [Dat γ] [Dat δ]
/-- a list of them, as a tuple -/
instance : Dat (List α) := ⟨fun xs => .tuple (xs.map Dat.en), fun a b => by rw [eqv_tt]; exact eqvAll_map Dat.eqv a b, Dat.dep α + 1, fun a => sh_tup fun x hx => by
  obtain ⟨y, _, rfl⟩ := List.mem_map.mp hx
  exact Dat.sh y⟩
instance : Dat (α × β) := ⟨fun p => .tuple [Dat.en p.1, Dat.en p.2], fun a b => by
  rw [eqv_tt, eqvAll_cc, eqvAll_cc, eqvAll_nn, Dat.eqv, Dat.eqv, Bool.and_true, ← Bool.decide_and]
  exact decide_eq_decide.mpr Prod.ext_iff.symm, max (Dat.dep α) (Dat.dep β) + 1, fun a => sh_tup fun x hx => by
    simp only [List.mem_cons, List.not_mem_nil, or_false] at hx
    rcases hx with rfl | rfl
    · exact (Dat.sh _).up (Nat.le_max_left _ _)
    · exact (Dat.sh _).up (Nat.le_max_right _ _)⟩
theorem eqD_en (a b : α) (h : Dat.dep α ≤ 64) : eqD (Dat.en a) (Dat.en b) = some (decide (a = b)) := by
  rw [eqD_sh (Dat.sh a) (Dat.sh b) h h, Dat.eqv]
theorem eqD_enL (a b : List α) (h : Dat.dep α + 1 ≤ 64) : eqD (.list (a.map Dat.en)) (.list (b.map Dat.en)) = some (decide (a = b)) := by
  have s : ∀ c : List α, Sh (Dat.dep α + 1) (.list (c.map Dat.en)) := fun c => sh_lst fun x hx => by
    obtain ⟨y, _, rfl⟩ := List.mem_map.mp hx
    exact Dat.sh y
  rw [eqD_sh (s a) (s b) h h, eqv_ll, eqvAll_map Dat.eqv]
end
end PD

set_option maxRecDepth 100000
set_option maxHeartbeats 4000000
set_option autoImplicit false
namespace PD
open PySem PySem.Spec L2
/-! ### constants of the text, as the top has left them -/
def Cst (K : PySem.W.Frag) (u : Value) (d : D) : Prop := ∃ v, RelV v u ∧ ∀ H, Dp K H v d
def CstAll (K : PySem.W.Frag) (us : List Value) (ds : List D) : Prop := ∃ vs, Vals vs us ∧ ∀ H, DpAll K H vs ds
theorem cst_str {K : PySem.W.Frag} {x : Str} {t : Tok} : Cst K (.str x t) (.str x) := ⟨.str x, ⟨t, rfl⟩, fun _ => .str x⟩
theorem cst_int {K : PySem.W.Frag} {x : Int} {t : Tok} : Cst K (.int x t) (.int x) := ⟨.int x, ⟨t, rfl⟩, fun _ => .int x⟩
theorem cst_bool {K : PySem.W.Frag} {x : Bool} : Cst K (.bool x) (.bool x) := ⟨.bl x, rfl, fun _ => .bl x⟩
theorem cst_nil {K : PySem.W.Frag} : CstAll K [] [] := ⟨[], .nil, fun _ => .nil⟩
theorem cst_cons {K : PySem.W.Frag} {u : Value} {d : D} {us : List Value} {ds : List D} (h : Cst K u d) (h2 : CstAll K us ds) : CstAll K (u :: us) (d :: ds) := by
  obtain ⟨v, r, e⟩ := h
  obtain ⟨vs, rs, es⟩ := h2
  exact ⟨v :: vs, .cons r rs, fun H => .cons (e H) (es H)⟩
theorem cst_tup {K : PySem.W.Frag} {a : Addr} {dx : Option Addr} {its : Array Value} {n : Nat} {sl : Array (Option Value)} {ds : List D} (h : K.lookup a = some ⟨.type "tuple", dx, .seq its n, sl⟩) (hn : its.size ≤ sizeLine) (hd : CstAll K its.toList ds) : Cst K (.ref a) (.tuple ds) := by
  obtain ⟨vs, rs, es⟩ := hd
  exact ⟨.ref a, rfl, fun H => .tup (.inr ⟨_, its, n, h, rfl, rfl, hn, rs⟩) (es H)⟩
theorem log2_bits {n : Int} (h : Builtin.Int.intBits n ≤ 1048576) : n.natAbs.log2 ≤ 1048576 := by
  unfold Builtin.Int.intBits at h
  split at h
  · rename_i e
    have : n = 0 := by simpa using e
    subst this
    decide
  · omega
theorem binds_mk {K : PySem.W.Frag} {x qual : Str} {st : Stmt} {f : Addr} {oc : Value} {od an : Option Addr} {osl : Array (Option Value)} {kV doc pm cdv ct : Value} (ps : List Str)
    (l : K.lookup f = some ⟨oc, od, .func (PySem.W.fnOf x qual (defArgs st) (defBody st) (defScope st) .none kV doc pm an cdv ct), osl⟩) (c : PySem.W.codeIn K cdv qual = true) (k : PySem.W.keepIn K (.ref f) = true)
    (h : ∀ (kV doc pm : Value) (an : Option Addr) (cdv ct : Value) (us : List Value), us.length = ps.length → bindArgs (PySem.W.fnOf x qual (defArgs st) (defBody st) (defScope st) .none kV doc pm an cdv ct) ⟨us, []⟩ = pure (ps.zip us)) :
    Binds K (PySem.W.fnOf x qual (defArgs st) (defBody st) (defScope st) .none kV doc pm an cdv ct) ps [] := (fun_mk l c k).binds h
end PD

set_option maxRecDepth 100000
set_option maxHeartbeats 4000000
set_option autoImplicit false
namespace PD
/-! ### searches: what is reached, the greatest value of an edge -/
section
variable {σ : Type} (next : σ → List σ) (s0 : σ)
inductive Reach : σ → Prop
  | start : Reach s0
  | step {x y : σ} : Reach x → y ∈ next x → Reach y
/-- m is the greatest of the values at the reached states (and 0) -/
structure Top (vals : σ → List Int) (m : Int) : Prop where
  ge : ∀ x, Reach next s0 x → ∀ v ∈ vals x, v ≤ m
  nn : 0 ≤ m
  at_ : m = 0 ∨ ∃ x, Reach next s0 x ∧ m ∈ vals x
end
theorem Top.eq {σ τ : Type} {n1 : σ → List σ} {s1 : σ} {v1 : σ → List Int} {n2 : τ → List τ} {s2 : τ} {v2 : τ → List Int} {a b : Int} (h1 : Top n1 s1 v1 a) (h2 : Top n2 s2 v2 b)
    (f : ∀ x, Reach n1 s1 x → ∀ v ∈ v1 x, v ≤ 0 ∨ ∃ y, Reach n2 s2 y ∧ v ∈ v2 y) (g : ∀ y, Reach n2 s2 y → ∀ v ∈ v2 y, v ≤ 0 ∨ ∃ x, Reach n1 s1 x ∧ v ∈ v1 x) : a = b := by
  have p : a ≤ b := by
    rcases h1.at_ with e | ⟨x, r, hv⟩
    · rw [e]; exact h2.nn
    · rcases f x r a hv with h | ⟨y, ry, hy⟩
      · have := h2.nn; omega
      · exact h2.ge y ry a hy
  have q : b ≤ a := by
    rcases h2.at_ with e | ⟨x, r, hv⟩
    · rw [e]; exact h1.nn
    · rcases g x r b hv with h | ⟨y, ry, hy⟩
      · have := h1.nn; omega
      · exact h1.ge y ry b hy
  omega
/-- numbers below n, no two alike: at most n -/
theorem nodup_lt : ∀ (n : Nat) (l : List Nat), l.Nodup → (∀ x ∈ l, x < n) → l.length ≤ n
  | 0, [], _, _ => Nat.le_refl _
  | 0, x :: l, _, h => absurd (h x List.mem_cons_self) (Nat.not_lt_zero _)
  | n + 1, l, hn, h => by
    have h1 := nodup_lt n (l.filter fun x => decide (x ≠ n)) (hn.filter _) fun x hx => by
      have := List.mem_filter.mp hx
      have h2 := h x this.1
      have h3 := of_decide_eq_true this.2
      omega
    have h2 : l.length ≤ (l.filter fun x => decide (x ≠ n)).length + 1 := by
      clear h1 h
      induction l with
      | nil => exact Nat.zero_le _
      | cons a l ih =>
        rw [List.nodup_cons] at hn
        by_cases e : a = n
        · subst e
          have e2 : (l.filter fun x => decide (x ≠ a)) = l := List.filter_eq_self.mpr (fun x hx => decide_eq_true (p := x ≠ a) (fun (e : x = a) => hn.1 (by rw [← e]; exact hx)))
          rw [List.filter_cons_of_neg (by simp), List.length_cons, e2]
          exact Nat.le_refl _
        · rw [List.filter_cons_of_pos (by simpa using e), List.length_cons, List.length_cons]
          have := ih hn.2
          omega
    omega
theorem nodup_codes {σ : Type} {code : σ → Nat} {n : Nat} {l : List σ} (hn : l.Nodup) (hi : ∀ x ∈ l, ∀ y ∈ l, code x = code y → x = y) (h : ∀ x ∈ l, code x < n) : l.length ≤ n := by
  have e : (l.map code).length = l.length := List.length_map ..
  rw [← e]
  refine nodup_lt n _ ?_ fun y hy => ?_
  · rw [List.nodup_iff_pairwise_ne] at hn ⊢
    rw [List.pairwise_map]
    exact hn.imp_of_mem fun {a b} ha hb hne e => hne (hi a ha b hb e)
  · obtain ⟨x, hx, rfl⟩ := List.mem_map.mp hy
    exact h x hx
/-! ### a stack, marked at the push -/
section
variable {σ : Type} [DecidableEq σ] (outs : σ → List (σ × List Int)) (s0 : σ)
def nextO (x : σ) : List σ := (outs x).map (·.1)
def valsO (x : σ) : List Int := ((outs x).map (·.2)).flatten
def maxL (m : Int) (vs : List Int) : Int := vs.foldl (fun a b => if b > a then b else a) m
def pushA (a : List σ × List σ × Int) (o : σ × List Int) : List σ × List σ × Int := if o.1 ∈ a.1 then (a.1, a.2.1, maxL a.2.2 o.2) else (a.1 ++ [o.1], a.2.1 ++ [o.1], maxL a.2.2 o.2)
theorem maxL_le : ∀ (vs : List Int) (m : Int), m ≤ maxL m vs ∧ (∀ v ∈ vs, v ≤ maxL m vs) ∧ (maxL m vs = m ∨ maxL m vs ∈ vs)
  | [], m => ⟨Int.le_refl _, fun _ h => by simp at h, .inl rfl⟩
  | v :: vs, m => by
    obtain ⟨h1, h2, h3⟩ := maxL_le vs (if v > m then v else m)
    have e : maxL m (v :: vs) = maxL (if v > m then v else m) vs := rfl
    rw [e]
    have e1 : m ≤ (if v > m then v else m) := by split <;> omega
    have e2 : v ≤ (if v > m then v else m) := by split <;> omega
    refine ⟨Int.le_trans e1 h1, fun w hw => ?_, ?_⟩
    · rcases List.mem_cons.mp hw with e3 | hw
      · rw [e3]; exact Int.le_trans e2 h1
      · exact h2 w hw
    · rcases h3 with h3 | h3
      · rw [h3]
        split
        · exact .inr List.mem_cons_self
        · exact .inl rfl
      · exact .inr (List.mem_cons_of_mem _ h3)
structure InvA (met wait : List σ) (m : Int) : Prop where
  nd : met.Nodup
  nw : wait.Nodup
  sub : ∀ x ∈ wait, x ∈ met
  st : s0 ∈ met
  rch : ∀ x ∈ met, Reach (nextO outs) s0 x
  cl : ∀ x ∈ met, x ∉ wait → (∀ y ∈ nextO outs x, y ∈ met) ∧ ∀ v ∈ valsO outs x, v ≤ m
  nn : 0 ≤ m
  at_ : m = 0 ∨ ∃ x, Reach (nextO outs) s0 x ∧ m ∈ valsO outs x
theorem InvA.start : InvA outs s0 [s0] [s0] 0 := ⟨by simp, by simp, fun _ h => h, List.mem_singleton.mpr rfl, fun x h => by rw [List.mem_singleton.mp h]; exact .start, fun x h h2 => absurd h h2, Int.le_refl _, .inl rfl⟩
theorem InvA.top {met : List σ} {m : Int} (h : InvA outs s0 met [] m) : Top (nextO outs) s0 (valsO outs) m := by
  have all : ∀ x, Reach (nextO outs) s0 x → x ∈ met := fun x r => by
    induction r with
    | start => exact h.st
    | step _ hy ih => exact (h.cl _ ih (by simp)).1 _ hy
  exact ⟨fun x r v hv => (h.cl x (all x r) (by simp)).2 v hv, h.nn, h.at_⟩
/-- within a turn: x is popped, the outs of x so far are told -/
structure MidA (met0 w0 : List σ) (m0 : Int) (x : σ) (told : List (σ × List Int)) (met wait : List σ) (m : Int) : Prop where
  nd : met.Nodup
  nw : wait.Nodup
  sub : ∀ z ∈ wait, z ∈ met
  inc : ∀ z ∈ met0, z ∈ met
  rch : ∀ z ∈ met, Reach (nextO outs) s0 z
  cl : ∀ z ∈ met, z ∉ wait → z = x ∨ ((∀ y ∈ nextO outs z, y ∈ met) ∧ ∀ v ∈ valsO outs z, v ≤ m)
  xw : x ∉ wait
  tl : ∀ o ∈ told, o.1 ∈ met ∧ ∀ v ∈ o.2, v ≤ m
  nn : 0 ≤ m
  at_ : m = 0 ∨ ∃ x, Reach (nextO outs) s0 x ∧ m ∈ valsO outs x
  len : met.length + w0.length = met0.length + wait.length
theorem MidA.push {met0 w0 : List σ} {m0 : Int} {x : σ} {told : List (σ × List Int)} {met wait : List σ} {m : Int} (h : MidA outs s0 met0 w0 m0 x told met wait m) (hx : x ∈ met0) {o : σ × List Int} (ho : o ∈ outs x) :
    MidA outs s0 met0 w0 m0 x (told ++ [o]) (pushA (met, wait, m) o).1 (pushA (met, wait, m) o).2.1 (pushA (met, wait, m) o).2.2 := by
  obtain ⟨l1, l2, l3⟩ := maxL_le o.2 m
  have hr : Reach (nextO outs) s0 o.1 := .step (h.rch x (h.inc x hx)) (List.mem_map.mpr ⟨o, ho, rfl⟩)
  have at' : maxL m o.2 = 0 ∨ ∃ x, Reach (nextO outs) s0 x ∧ maxL m o.2 ∈ valsO outs x := by
    rcases l3 with e | e
    · rw [e]; exact h.at_
    · exact .inr ⟨x, h.rch x (h.inc x hx), List.mem_flatten.mpr ⟨o.2, List.mem_map.mpr ⟨o, ho, rfl⟩, e⟩⟩
  unfold pushA
  by_cases hm : o.1 ∈ met
  · simp only [hm, if_true]
    refine ⟨h.nd, h.nw, h.sub, h.inc, h.rch, fun z hz hw => ?_, h.xw, fun p hp => ?_, Int.le_trans h.nn l1, at', h.len⟩
    · rcases h.cl z hz hw with e | ⟨c1, c2⟩
      · exact .inl e
      · exact .inr ⟨c1, fun v hv => Int.le_trans (c2 v hv) l1⟩
    · rcases List.mem_append.mp hp with hp | hp
      · exact ⟨(h.tl p hp).1, fun v hv => Int.le_trans ((h.tl p hp).2 v hv) l1⟩
      · rw [List.mem_singleton] at hp
        subst hp
        exact ⟨hm, l2⟩
  · simp only [hm, if_false]
    have hxo : x ≠ o.1 := fun e => hm (e ▸ h.inc x hx)
    have now : o.1 ∉ wait := fun e => hm (h.sub _ e)
    refine ⟨?_, ?_, fun z hz => ?_, fun z hz => List.mem_append.mpr (.inl (h.inc z hz)), fun z hz => ?_, fun z hz hw => ?_, fun e => ?_, fun p hp => ?_, Int.le_trans h.nn l1, at', ?_⟩
    · rw [List.nodup_append]
      exact ⟨h.nd, by simp, fun a ha b hb e => hm (by rw [List.mem_singleton.mp hb] at e; rw [← e]; exact ha)⟩
    · rw [List.nodup_append]
      exact ⟨h.nw, by simp, fun a ha b hb e => now (by rw [List.mem_singleton.mp hb] at e; rw [← e]; exact ha)⟩
    · rcases List.mem_append.mp hz with hz | hz
      · exact List.mem_append.mpr (.inl (h.sub z hz))
      · exact List.mem_append.mpr (.inr hz)
    · rcases List.mem_append.mp hz with hz | hz
      · exact h.rch z hz
      · rw [List.mem_singleton.mp hz]; exact hr
    · rcases List.mem_append.mp hz with hz | hz
      · rcases h.cl z hz (fun e => hw (List.mem_append.mpr (.inl e))) with e | ⟨c1, c2⟩
        · exact .inl e
        · exact .inr ⟨fun y hy => List.mem_append.mpr (.inl (c1 y hy)), fun v hv => Int.le_trans (c2 v hv) l1⟩
      · exact absurd (List.mem_append.mpr (.inr hz)) hw
    · rcases List.mem_append.mp e with e | e
      · exact h.xw e
      · exact hxo (List.mem_singleton.mp e)
    · rcases List.mem_append.mp hp with hp | hp
      · exact ⟨List.mem_append.mpr (.inl (h.tl p hp).1), fun v hv => Int.le_trans ((h.tl p hp).2 v hv) l1⟩
      · rw [List.mem_singleton] at hp
        subst hp
        exact ⟨List.mem_append.mpr (.inr (List.mem_singleton.mpr rfl)), l2⟩
    · have := h.len
      rw [List.length_append, List.length_append, List.length_singleton]
      omega
theorem MidA.done {met0 w0 : List σ} {m0 : Int} {x : σ} {met wait : List σ} {m : Int} (h : MidA outs s0 met0 w0 m0 x (outs x) met wait m) (hs : s0 ∈ met0) : InvA outs s0 met wait m :=
  ⟨h.nd, h.nw, h.sub, h.inc _ hs, h.rch, fun z hz hw => by
    rcases h.cl z hz hw with e | c
    · subst e
      refine ⟨fun y hy => ?_, fun v hv => ?_⟩
      · obtain ⟨o, ho, rfl⟩ := List.mem_map.mp hy
        exact (h.tl o ho).1
      · obtain ⟨l, hl, hv⟩ := List.mem_flatten.mp hv
        obtain ⟨o, ho, rfl⟩ := List.mem_map.mp hl
        exact (h.tl o ho).2 v hv
    · exact c, h.nn, h.at_⟩
theorem InvA.pop {met w : List σ} {x : σ} {m : Int} (h : InvA outs s0 met (w ++ [x]) m) : MidA outs s0 met w m x [] met w m ∧ x ∈ met := by
  have hn := h.nw
  rw [List.nodup_append] at hn
  have hx : x ∉ w := fun e => hn.2.2 x e x (List.mem_singleton.mpr rfl) rfl
  refine ⟨⟨h.nd, hn.1, fun z hz => h.sub z (List.mem_append.mpr (.inl hz)), fun z hz => hz, h.rch, fun z hz hw => ?_, hx, fun o ho => by simp at ho, h.nn, h.at_, rfl⟩, h.sub x (List.mem_append.mpr (.inr (List.mem_singleton.mpr rfl)))⟩
  by_cases e : z = x
  · exact .inl e
  · exact .inr (h.cl z hz fun q => (List.mem_append.mp q).elim hw fun q => e (List.mem_singleton.mp q))
/-! ### a stack, marked at the pop -/
structure InvB (met line : List σ) (m : Int) : Prop where
  nd : met.Nodup
  st : s0 ∈ met ∨ s0 ∈ line
  rm : ∀ x ∈ met, Reach (nextO outs) s0 x
  rl : ∀ x ∈ line, Reach (nextO outs) s0 x
  cl : ∀ x ∈ met, (∀ y ∈ nextO outs x, y ∈ met ∨ y ∈ line) ∧ ∀ v ∈ valsO outs x, v ≤ m
  nn : 0 ≤ m
  at_ : m = 0 ∨ ∃ x, Reach (nextO outs) s0 x ∧ m ∈ valsO outs x
theorem InvB.start : InvB outs s0 [] [s0] 0 := ⟨List.nodup_nil, .inr (List.mem_singleton.mpr rfl), fun _ h => by simp at h, fun x h => by rw [List.mem_singleton.mp h]; exact .start, fun _ h => by simp at h, Int.le_refl _, .inl rfl⟩
theorem InvB.top {met : List σ} {m : Int} (h : InvB outs s0 met [] m) : Top (nextO outs) s0 (valsO outs) m := by
  have all : ∀ x, Reach (nextO outs) s0 x → x ∈ met := fun x r => by
    induction r with
    | start => exact h.st.elim id (fun e => by simp at e)
    | step _ hy ih => exact ((h.cl _ ih).1 _ hy).elim id (fun e => by simp at e)
  exact ⟨fun x r v hv => (h.cl x (all x r)).2 v hv, h.nn, h.at_⟩
theorem InvB.skip {met w : List σ} {x : σ} {m : Int} (h : InvB outs s0 met (w ++ [x]) m) (hx : x ∈ met) : InvB outs s0 met w m := by
  have out : ∀ y, y ∈ w ++ [x] → y ∈ met ∨ y ∈ w := fun y hy => by
    rcases List.mem_append.mp hy with hy | hy
    · exact .inr hy
    · rw [List.mem_singleton.mp hy]; exact .inl hx
  exact ⟨h.nd, h.st.elim .inl (out _), h.rm, fun y hy => h.rl y (List.mem_append.mpr (.inl hy)), fun z hz => ⟨fun y hy => ((h.cl z hz).1 y hy).elim .inl (out y), (h.cl z hz).2⟩, h.nn, h.at_⟩
theorem InvB.take {met w : List σ} {x : σ} {m m' : Int} (h : InvB outs s0 met (w ++ [x]) m) (hx : x ∉ met) (h1 : m ≤ m') (h2 : ∀ v ∈ valsO outs x, v ≤ m') (h3 : m' = m ∨ m' ∈ valsO outs x) : InvB outs s0 (met ++ [x]) (w ++ nextO outs x) m' := by
  have rx : Reach (nextO outs) s0 x := h.rl x (List.mem_append.mpr (.inr (List.mem_singleton.mpr rfl)))
  have out : ∀ y, y ∈ w ++ [x] → y ∈ met ++ [x] ∨ y ∈ w ++ nextO outs x := fun y hy => by
    rcases List.mem_append.mp hy with hy | hy
    · exact .inr (List.mem_append.mpr (.inl hy))
    · exact .inl (List.mem_append.mpr (.inr hy))
  refine ⟨?_, h.st.elim (fun e => .inl (List.mem_append.mpr (.inl e))) (out _), fun z hz => ?_, fun z hz => ?_, fun z hz => ?_, Int.le_trans h.nn h1, ?_⟩
  · rw [List.nodup_append]
    exact ⟨h.nd, by simp, fun a ha b hb e => hx (by rw [List.mem_singleton.mp hb] at e; rw [← e]; exact ha)⟩
  · rcases List.mem_append.mp hz with hz | hz
    · exact h.rm z hz
    · rw [List.mem_singleton.mp hz]; exact rx
  · rcases List.mem_append.mp hz with hz | hz
    · exact h.rl z (List.mem_append.mpr (.inl hz))
    · exact .step rx hz
  · rcases List.mem_append.mp hz with hz | hz
    · exact ⟨fun y hy => ((h.cl z hz).1 y hy).elim (fun e => .inl (List.mem_append.mpr (.inl e))) (out y), fun v hv => Int.le_trans ((h.cl z hz).2 v hv) h1⟩
    · rw [List.mem_singleton.mp hz]
      exact ⟨fun y hy => .inr (List.mem_append.mpr (.inr hy)), h2⟩
  · rcases h3 with e | e
    · rw [e]; exact h.at_
    · exact .inr ⟨x, rx, e⟩
end
/-! ### dicts whose keys are states -/
section
variable {σ : Type} [DecidableEq σ] {en : σ → D}
theorem getK_map {va : σ → D} (hi : ∀ s t, nk (en s) = nk (en t) → s = t) (x : σ) : ∀ l : List σ, getK (l.map fun s => (en s, va s)) (en x) = if x ∈ l then some (va x) else none
  | [] => rfl
  | s :: l => by
    show (if nk (en s) = nk (en x) then some (va s) else getK (l.map fun s => (en s, va s)) (en x)) = _
    by_cases e : s = x
    · subst e
      rw [if_pos rfl, if_pos List.mem_cons_self]
    · rw [if_neg (fun h => e (hi _ _ h)), getK_map hi x l]
      by_cases h : x ∈ l
      · rw [if_pos h, if_pos (List.mem_cons_of_mem _ h)]
      · rw [if_neg h, if_neg (fun q => (List.mem_cons.mp q).elim (fun q => e q.symm) h)]
theorem putKD_new {va : σ → D} (hi : ∀ s t, nk (en s) = nk (en t) → s = t) {x : σ} {l : List σ} (hx : x ∉ l) (d : D) : putKD (l.map fun s => (en s, va s)) (en x) d = (l.map fun s => (en s, va s)) ++ [(en x, d)] := by
  unfold putKD
  rw [getK_map hi, if_neg hx]
  rfl
theorem okKey_map {va : σ → D} (ht : ∀ s, tupK (en s) = true) (x : σ) (l : List σ) : okKey (l.map fun s => (en s, va s)) (en x) = true := by
  have e : ((l.map fun s => (en s, va s)).all fun p => tupK p.1) = true := by
    rw [List.all_map]
    exact List.all_eq_true.mpr fun s _ => ht s
  unfold okKey
  rw [ht x, e, Bool.true_and, Bool.or_true]
theorem inO_map {va : σ → D} (hi : ∀ s t, nk (en s) = nk (en t) → s = t) (ht : ∀ s, tupK (en s) = true) (neg : Bool) (x : σ) (l : List σ) :
    inO neg (some (l.map fun s => (en s, va s))) (en x) = some (.bool (if neg then decide (x ∉ l) else decide (x ∈ l))) := by
  unfold inO
  simp only [Option.bind_some, okKey_map ht, if_true, getK_map hi]
  by_cases h : x ∈ l <;> cases neg <;> simp [h]
theorem setKO_map {va : σ → D} (hi : ∀ s t, nk (en s) = nk (en t) → s = t) (ht : ∀ s, tupK (en s) = true) {x : σ} {l : List σ} (hx : x ∉ l) (hl : l.length < PySem.sizeLine) :
    setKO (some (l.map fun s => (en s, va s))) (en x) (va x) = some ((l ++ [x]).map fun s => (en s, va s)) := by
  unfold setKO
  simp only [Option.bind_some, okKey_map ht, List.length_map, hl, and_self, if_true]
  rw [putKD_new hi hx, List.map_append]
  rfl
end
end PD

set_option maxRecDepth 100000
set_option maxHeartbeats 4000000
set_option autoImplicit false
namespace PD
/-! ### a queue, marked at the push: the runs of a machine, one behind another -/
section
variable {σ : Type} [DecidableEq σ]
abbrev Run (σ : Type) : Type := σ × List Bool
def extR (succ : σ → List (Bool × σ)) (x : Run σ) : List (Run σ) := (succ x.1).map fun p => (p.2, x.2 ++ [p.1])
def runs (succ : σ → List (Bool × σ)) (s0 : σ) : Nat → List (Run σ)
  | 0 => [(s0, [])]
  | k + 1 => match (runs succ s0 k)[k]? with
    | some x => runs succ s0 k ++ extR succ x
    | none => runs succ s0 k
def nthR (succ : σ → List (Bool × σ)) (s0 : σ) (k : Nat) : Option (Run σ) := (runs succ s0 k)[k]?
def pushR (Q : List (Run σ)) (e : Run σ) : List (Run σ) := if e.1 ∈ Q.map (·.1) then Q else Q ++ [e]
def ddR (xs : List (Run σ)) : List (Run σ) := xs.foldl pushR []
/-- what the first accepted run tells -/
def Bfs (succ : σ → List (Bool × σ)) (s0 : σ) (acc : σ → Bool) (res : Option (List Bool)) : Prop :=
  (∃ k x, nthR succ s0 k = some x ∧ acc x.1 = true ∧ res = some x.2 ∧ ∀ j, j < k → ∀ y, nthR succ s0 j = some y → acc y.1 = false) ∨
  (res = none ∧ ∀ k x, nthR succ s0 k = some x → acc x.1 = false)
inductive Rn (succ : σ → List (Bool × σ)) (s0 : σ) : σ → List Bool → Prop
  | start : Rn succ s0 s0 []
  | step {x y : σ} {b : Bool} {w : List Bool} : Rn succ s0 x w → (b, y) ∈ succ x → Rn succ s0 y (w ++ [b])
end
section
variable {σ : Type} [DecidableEq σ] {succ : σ → List (Bool × σ)} {s0 : σ}
theorem runs_prefix (k : Nat) : ∃ t, runs succ s0 (k + 1) = runs succ s0 k ++ t := by
  rw [runs.eq_2]
  split
  · exact ⟨_, rfl⟩
  · exact ⟨[], by simp⟩
theorem runs_prefix' (k m : Nat) : ∃ t, runs succ s0 (k + m) = runs succ s0 k ++ t := by
  induction m with
  | zero => exact ⟨[], by simp⟩
  | succ m ih =>
    obtain ⟨t, e⟩ := ih
    obtain ⟨u, e2⟩ := runs_prefix (succ := succ) (s0 := s0) (k + m)
    exact ⟨t ++ u, by rw [show k + (m + 1) = k + m + 1 by omega, e2, e, List.append_assoc]⟩
theorem runs_get {k m j : Nat} {x : Run σ} (h : k ≤ m) (hx : (runs succ s0 k)[j]? = some x) : (runs succ s0 m)[j]? = some x := by
  obtain ⟨t, e⟩ := runs_prefix' (succ := succ) (s0 := s0) k (m - k)
  rw [show k + (m - k) = m by omega] at e
  rw [e, List.getElem?_append_left (List.getElem?_eq_some_iff.mp hx).1]
  exact hx
theorem runs_succ {k : Nat} {x : Run σ} (h : nthR succ s0 k = some x) : runs succ s0 (k + 1) = runs succ s0 k ++ extR succ x := by
  have h : (runs succ s0 k)[k]? = some x := h
  rw [runs, h]
/-- what is told of a run that stands among the runs -/
theorem runs_rn : ∀ (k : Nat) (x : Run σ), x ∈ runs succ s0 k → Rn succ s0 x.1 x.2
  | 0, x, h => by
    rw [runs, List.mem_singleton] at h
    subst h
    exact .start
  | k + 1, x, h => by
    rw [runs] at h
    split at h
    · rename_i y hy
      rcases List.mem_append.mp h with h | h
      · exact runs_rn k x h
      · unfold extR at h
        obtain ⟨p, hp, rfl⟩ := List.mem_map.mp h
        exact .step (runs_rn k y (List.mem_of_getElem? hy)) hp
    · exact runs_rn k x h
/-- if a run stands at j then up to there every step found one -/
theorem nth_below {j : Nat} : ∀ {k : Nat} {x : Run σ}, (runs succ s0 k)[j]? = some x → nthR succ s0 j = some x
  | k, x, h => by
    by_cases hk : k ≤ j
    · exact runs_get hk h
    · have hj : j ≤ k := by omega
      -- the run at j of a later stage: the stage j has it already
      obtain ⟨t, e⟩ := runs_prefix' (succ := succ) (s0 := s0) j (k - j)
      rw [show j + (k - j) = k by omega] at e
      by_cases hl : j < (runs succ s0 j).length
      · rw [e, List.getElem?_append_left hl] at h
        exact h
      · -- the runs have ended
        exfalso
        have st : ∀ m, runs succ s0 (j + m) = runs succ s0 j := fun m => by
          induction m with
          | zero => rfl
          | succ m ih =>
            have q : (runs succ s0 (j + m))[j + m]? = none := by rw [ih]; exact List.getElem?_eq_none (by omega)
            have e2 : runs succ s0 (j + m + 1) = runs succ s0 (j + m) := by rw [runs, q]
            rw [show j + (m + 1) = j + m + 1 by omega, e2, ih]
        have := st (k - j)
        rw [show j + (k - j) = k by omega] at this
        rw [this, List.getElem?_eq_none (by omega)] at h
        cases h
theorem nth_of_mem {k : Nat} {x : Run σ} (h : x ∈ runs succ s0 k) : ∃ j, nthR succ s0 j = some x := by
  obtain ⟨j, hj⟩ := List.getElem?_of_mem h
  exact ⟨j, nth_below hj⟩
theorem nth_len {k : Nat} {x : Run σ} (h : nthR succ s0 k = some x) : k < (runs succ s0 k).length := (List.getElem?_eq_some_iff.mp h).1
/-- every run comes -/
theorem rn_nth {x : σ} {w : List Bool} (h : Rn succ s0 x w) : ∃ j, nthR succ s0 j = some (x, w) := by
  induction h with
  | start => exact ⟨0, rfl⟩
  | @step x y b w _ hy ih =>
    obtain ⟨j, hj⟩ := ih
    refine nth_of_mem (k := j + 1) ?_
    rw [runs_succ hj]
    exact List.mem_append.mpr (.inr (List.mem_map.mpr ⟨(b, y), hy, rfl⟩))
/-! the queue -/
theorem nodup_ne {α : Type} {l : List α} (h : l.Nodup) {i j : Nat} (hij : i < j) {x y : α} (hx : l[i]? = some x) (hy : l[j]? = some y) : x ≠ y := by
  rw [List.nodup_iff_pairwise_ne, List.pairwise_iff_getElem] at h
  obtain ⟨h1, e1⟩ := List.getElem?_eq_some_iff.mp hx
  obtain ⟨h2, e2⟩ := List.getElem?_eq_some_iff.mp hy
  rw [← e1, ← e2]
  exact h i j h1 h2 hij
theorem push_mem {Q : List (Run σ)} {e : Run σ} : e.1 ∈ (pushR Q e).map (·.1) := by
  unfold pushR
  split
  · assumption
  · rw [List.map_append]; exact List.mem_append.mpr (.inr (by simp))
theorem push_prefix (Q : List (Run σ)) (e : Run σ) : ∃ t, pushR Q e = Q ++ t := by
  unfold pushR
  split
  · exact ⟨[], by simp⟩
  · exact ⟨_, rfl⟩
theorem pushes_prefix : ∀ (es Q : List (Run σ)), ∃ t, es.foldl pushR Q = Q ++ t
  | [], Q => ⟨[], by simp⟩
  | e :: es, Q => by
    obtain ⟨t, h⟩ := push_prefix Q e
    obtain ⟨u, h2⟩ := pushes_prefix es (pushR Q e)
    exact ⟨t ++ u, by rw [List.foldl_cons, h2, h, List.append_assoc]⟩
theorem pushes_all : ∀ (es Q : List (Run σ)), ∀ e ∈ es, e.1 ∈ (es.foldl pushR Q).map (·.1)
  | [], Q, e, h => by simp at h
  | a :: es, Q, e, h => by
    rw [List.foldl_cons]
    rcases List.mem_cons.mp h with h | h
    · subst h
      obtain ⟨t, h2⟩ := pushes_prefix es (pushR Q e)
      rw [h2, List.map_append]
      exact List.mem_append.mpr (.inl push_mem)
    · exact pushes_all es _ e h
theorem pushes_none : ∀ (es Q : List (Run σ)), (∀ e ∈ es, e.1 ∈ Q.map (·.1)) → es.foldl pushR Q = Q
  | [], Q, _ => rfl
  | e :: es, Q, h => by
    have e1 : pushR Q e = Q := by unfold pushR; rw [if_pos (h e List.mem_cons_self)]
    rw [List.foldl_cons, e1]
    exact pushes_none es Q fun x hx => h x (List.mem_cons_of_mem _ hx)
theorem pushes_sub : ∀ (es Q : List (Run σ)), ∀ x ∈ es.foldl pushR Q, x ∈ Q ∨ x ∈ es
  | [], Q, x, h => .inl h
  | e :: es, Q, x, h => by
    rw [List.foldl_cons] at h
    rcases pushes_sub es _ x h with h | h
    · unfold pushR at h
      split at h
      · exact .inl h
      · rcases List.mem_append.mp h with h | h
        · exact .inl h
        · rw [List.mem_singleton] at h; exact .inr (List.mem_cons.mpr (.inl h))
    · exact .inr (List.mem_cons_of_mem _ h)
theorem pushes_nodup : ∀ (es Q : List (Run σ)), (Q.map (·.1)).Nodup → ((es.foldl pushR Q).map (·.1)).Nodup
  | [], Q, h => h
  | e :: es, Q, h => by
    rw [List.foldl_cons]
    refine pushes_nodup es _ ?_
    unfold pushR
    split
    · exact h
    · rename_i hn
      rw [List.map_append, List.nodup_append]
      exact ⟨h, by simp, fun a ha b hb e => hn (by rw [List.map_cons, List.map_nil, List.mem_singleton] at hb; rw [← hb, ← e]; exact ha)⟩
theorem dd_append (xs ys : List (Run σ)) : ddR (xs ++ ys) = ys.foldl pushR (ddR xs) := by unfold ddR; rw [List.foldl_append]
theorem dd_keys (xs : List (Run σ)) : ∀ x ∈ xs, x.1 ∈ (ddR xs).map (·.1) := pushes_all xs []
theorem dd_sub (xs : List (Run σ)) : ∀ x ∈ ddR xs, x ∈ xs := fun x h => (pushes_sub xs [] x h).elim (fun h => by simp at h) id
variable (succ s0) in
/-- the queue Q, of which so many have been followed -/
structure InvQ (acc : σ → Bool) (Q : List (Run σ)) (at' : Nat) (k : Nat) : Prop where
  q : Q = ddR (runs succ s0 k)
  t : ddR ((runs succ s0 k).take k) = Q.take at'
  le : at' ≤ Q.length
  cl : ∀ z ∈ Q.take at', ∀ p ∈ succ z.1, p.2 ∈ Q.map (·.1)
  no : ∀ j, j < k → ∀ y, nthR succ s0 j = some y → acc y.1 = false
  kl : k ≤ (runs succ s0 k).length
variable {acc : σ → Bool} {Q : List (Run σ)} {at' k : Nat}
theorem InvQ.start : InvQ succ s0 acc [(s0, [])] 0 0 := ⟨rfl, rfl, Nat.zero_le _, fun _ h => by simp at h, fun _ h => absurd h (Nat.not_lt_zero _), Nat.zero_le _⟩
theorem InvQ.nodup (h : InvQ succ s0 acc Q at' k) : (Q.map (·.1)).Nodup := by
  rw [h.q]
  exact pushes_nodup _ [] List.nodup_nil
theorem InvQ.rn (h : InvQ succ s0 acc Q at' k) : ∀ x ∈ Q, Rn succ s0 x.1 x.2 := fun x hx => by
  rw [h.q] at hx
  exact runs_rn k x (dd_sub _ x hx)
theorem take_runs (h : InvQ succ s0 acc Q at' k) {y : Run σ} (hy : nthR succ s0 k = some y) : (runs succ s0 (k + 1)).take (k + 1) = (runs succ s0 k).take k ++ [y] := by
  have hl := nth_len hy
  rw [runs_succ hy, List.take_append_of_le_length (by omega), List.take_add_one]
  have hy : (runs succ s0 k)[k]? = some y := hy
  rw [hy]
  rfl
/-- a run whose state was followed before tells nothing new -/
theorem InvQ.skip (h : InvQ succ s0 acc Q at' k) {y : Run σ} (hy : nthR succ s0 k = some y) (hd : y.1 ∈ (Q.take at').map (·.1)) : InvQ succ s0 acc Q at' (k + 1) := by
  obtain ⟨z, hz, e⟩ := List.mem_map.mp hd
  have hn : (extR succ y).foldl pushR Q = Q := pushes_none _ _ fun x hx => by
    unfold extR at hx
    obtain ⟨p, hp, rfl⟩ := List.mem_map.mp hx
    exact h.cl z hz p (by rw [e]; exact hp)
  refine ⟨?_, ?_, h.le, h.cl, fun j hj x hx => ?_, ?_⟩
  · rw [runs_succ hy, dd_append, ← h.q, hn]
  · rw [take_runs h hy, dd_append, h.t]
    exact pushes_none [y] _ fun x hx => by rw [List.mem_singleton.mp hx]; exact hd
  · by_cases e2 : j = k
    · subst e2
      rw [hy] at hx
      cases hx
      rw [← e]
      have hz2 : z ∈ (runs succ s0 j).take j := dd_sub _ z (by rw [h.t]; exact hz)
      obtain ⟨i, hi⟩ := List.getElem?_of_mem hz2
      rw [List.getElem?_take] at hi
      split at hi
      · rename_i hlt
        exact h.no i hlt z (nth_below hi)
      · cases hi
    · exact h.no j (by omega) x hx
  · rw [runs_succ hy, List.length_append]
    have := nth_len hy
    omega
/-- the next run whose state is new is the one at which the queue stands -/
theorem InvQ.norm {x : Run σ} (hx : Q[at']? = some x) : ∀ (n k : Nat), (runs succ s0 k).length ≤ k + n → InvQ succ s0 acc Q at' k → ∃ m, InvQ succ s0 acc Q at' m ∧ nthR succ s0 m = some x := by
  -- some run behind k has a new state; go on to it
  have go : ∀ (n k j : Nat) (y : Run σ), j = k + n → (runs succ s0 k)[j]? = some y → y.1 ∉ (Q.take at').map (·.1) → InvQ succ s0 acc Q at' k → ∃ m, InvQ succ s0 acc Q at' m ∧ nthR succ s0 m = some x := by
    intro n
    induction n with
    | zero =>
      intro k j y e hy hn h
      have e : j = k := by omega
      subst e
      have hy' : nthR succ s0 j = some y := hy
      refine ⟨j, h, ?_⟩
      -- y is the run at at'
      have e1 : ddR ((runs succ s0 j).take (j + 1)) = Q.take at' ++ [y] := by
        have hl := nth_len hy'
        have e2 : (runs succ s0 j).take (j + 1) = (runs succ s0 j).take j ++ [y] := by
          rw [List.take_add_one, hy]
          rfl
        rw [e2, dd_append, h.t]
        show pushR _ y = _
        unfold pushR
        rw [if_neg hn]
      obtain ⟨t, e3⟩ := pushes_prefix ((runs succ s0 j).drop (j + 1)) (Q.take at' ++ [y])
      have e4 : Q = Q.take at' ++ [y] ++ t := by
        rw [← e3, ← e1, ← dd_append, List.take_append_drop]
        exact h.q
      have hl : at' < Q.length := (List.getElem?_eq_some_iff.mp hx).1
      rw [e4, List.append_assoc, List.getElem?_append_right (by rw [List.length_take]; omega), List.length_take, Nat.min_eq_left (by omega), Nat.sub_self] at hx
      rw [hy']
      exact hx
    | succ n ih =>
      intro k j y e hy hn h
      have hl : j < (runs succ s0 k).length := (List.getElem?_eq_some_iff.mp hy).1
      have hz : ∃ z, nthR succ s0 k = some z := ⟨_, List.getElem?_eq_getElem (by omega)⟩
      obtain ⟨z, hz⟩ := hz
      by_cases hd : z.1 ∈ (Q.take at').map (·.1)
      · exact ih (k + 1) j y (by omega) (runs_get (Nat.le_succ k) hy) hn (h.skip hz hd)
      · -- z is new: the same as above
        refine ⟨k, h, ?_⟩
        have hz' : (runs succ s0 k)[k]? = some z := hz
        have e1 : ddR ((runs succ s0 k).take (k + 1)) = Q.take at' ++ [z] := by
          have e2 : (runs succ s0 k).take (k + 1) = (runs succ s0 k).take k ++ [z] := by
            rw [List.take_add_one, hz']
            rfl
          rw [e2, dd_append, h.t]
          show pushR _ z = _
          unfold pushR
          rw [if_neg hd]
        obtain ⟨t, e3⟩ := pushes_prefix ((runs succ s0 k).drop (k + 1)) (Q.take at' ++ [z])
        have e4 : Q = Q.take at' ++ [z] ++ t := by
          rw [← e3, ← e1, ← dd_append, List.take_append_drop]
          exact h.q
        have hl : at' < Q.length := (List.getElem?_eq_some_iff.mp hx).1
        rw [e4, List.append_assoc, List.getElem?_append_right (by rw [List.length_take]; omega), List.length_take, Nat.min_eq_left (by omega), Nat.sub_self] at hx
        rw [hz]
        exact hx
  intro n k _ h
  -- x itself is new, and stands behind k
  have hl : at' < Q.length := (List.getElem?_eq_some_iff.mp hx).1
  have hxm : x ∈ Q := List.mem_of_getElem? hx
  have hnew : x.1 ∉ (Q.take at').map (·.1) := fun hm => by
    have nd := h.nodup
    obtain ⟨z, hz, e⟩ := List.mem_map.mp hm
    obtain ⟨i, hi⟩ := List.getElem?_of_mem hz
    rw [List.getElem?_take] at hi
    split at hi
    · rename_i hlt
      have h1 : (Q.map (·.1))[i]? = some z.1 := by rw [List.getElem?_map, hi]; rfl
      have h2 : (Q.map (·.1))[at']? = some x.1 := by rw [List.getElem?_map, hx]; rfl
      exact nodup_ne nd hlt h1 h2 e
    · cases hi
  rw [h.q] at hxm
  obtain ⟨j, hj⟩ := List.getElem?_of_mem (dd_sub _ x hxm)
  by_cases hkj : k ≤ j
  · exact go (j - k) k j x (by omega) hj hnew h
  · exfalso
    refine hnew ?_
    rw [← h.t]
    exact dd_keys _ x (List.mem_of_getElem? (i := j) (by rw [List.getElem?_take, if_pos (by omega)]; exact hj))
theorem InvQ.norm' (h : InvQ succ s0 acc Q at' k) {x : Run σ} (hx : Q[at']? = some x) : ∃ m, InvQ succ s0 acc Q at' m ∧ nthR succ s0 m = some x := InvQ.norm hx _ k (Nat.le_add_left _ _) h
theorem InvQ.found (h : InvQ succ s0 acc Q at' k) {x : Run σ} (hx : Q[at']? = some x) (ha : acc x.1 = true) : Bfs succ s0 acc (some x.2) := by
  obtain ⟨m, hm, hn⟩ := h.norm' hx
  exact .inl ⟨m, x, hn, ha, rfl, hm.no⟩
theorem InvQ.next (h : InvQ succ s0 acc Q at' k) {x : Run σ} (hx : Q[at']? = some x) (ha : acc x.1 = false) : ∃ m, InvQ succ s0 acc ((extR succ x).foldl pushR Q) (at' + 1) m := by
  obtain ⟨m, hm, hn⟩ := h.norm' hx
  obtain ⟨t, ht⟩ := pushes_prefix (extR succ x) Q
  have hl : at' < Q.length := (List.getElem?_eq_some_iff.mp hx).1
  have htake : (Q ++ t).take (at' + 1) = Q.take at' ++ [x] := by
    rw [List.take_append_of_le_length (by omega), List.take_add_one, hx]
    rfl
  have hnew : x.1 ∉ (Q.take at').map (·.1) := fun hm => by
    have nd := h.nodup
    obtain ⟨z, hz, e⟩ := List.mem_map.mp hm
    obtain ⟨i, hi⟩ := List.getElem?_of_mem hz
    rw [List.getElem?_take] at hi
    split at hi
    · rename_i hlt
      have h1 : (Q.map (·.1))[i]? = some z.1 := by rw [List.getElem?_map, hi]; rfl
      have h2 : (Q.map (·.1))[at']? = some x.1 := by rw [List.getElem?_map, hx]; rfl
      exact nodup_ne nd hlt h1 h2 e
    · cases hi
  refine ⟨m + 1, ?_, ?_, ?_, fun z hz p hp => ?_, fun j hj y hy => ?_, ?_⟩
  · rw [runs_succ hn, dd_append, ← hm.q]
  · rw [take_runs hm hn, dd_append, hm.t, ht, htake]
    show pushR _ x = _
    unfold pushR
    rw [if_neg hnew]
  · rw [ht, List.length_append]; omega
  · rw [ht, htake] at hz
    rcases List.mem_append.mp hz with hz | hz
    · rw [ht, List.map_append]
      exact List.mem_append.mpr (.inl (h.cl z hz p hp))
    · rw [List.mem_singleton.mp hz] at hp
      exact pushes_all (extR succ x) Q (p.2, x.2 ++ [p.1]) (List.mem_map.mpr ⟨p, hp, rfl⟩)
  · by_cases e : j = m
    · subst e
      rw [hn] at hy
      cases hy
      exact ha
    · exact hm.no j (by omega) y hy
  · rw [runs_succ hn, List.length_append]
    have := nth_len hn
    omega
theorem InvQ.over (h : InvQ succ s0 acc Q Q.length k) : Bfs succ s0 acc none := by
  have all : ∀ m, (∃ y, nthR succ s0 m = some y) → m ≥ k → InvQ succ s0 acc Q Q.length (m + 1) := by
    intro m
    induction m with
    | zero =>
      intro ⟨y, hy⟩ hk
      have e : k = 0 := by omega
      subst e
      refine h.skip hy ?_
      rw [List.take_length]
      have := h.q
      rw [this]
      exact dd_keys _ y (List.mem_of_getElem? hy)
    | succ m ih =>
      intro ⟨y, hy⟩ hk
      have hm : InvQ succ s0 acc Q Q.length (m + 1) := by
        by_cases e : k = m + 1
        · rw [← e]; exact h
        · refine ih ?_ (by omega)
          have hl := nth_len hy
          have hz : ∃ z, nthR succ s0 m = some z := by
            cases q : nthR succ s0 m with
            | some z => exact ⟨z, rfl⟩
            | none =>
              exfalso
              have q' : (runs succ s0 m)[m]? = none := q
              have e2 : runs succ s0 (m + 1) = runs succ s0 m := by rw [runs, q']
              rw [e2] at hl
              have := List.getElem?_eq_none_iff.mp q'
              omega
          exact hz
      refine hm.skip hy ?_
      rw [List.take_length]
      rw [hm.q]
      exact dd_keys _ y (List.mem_of_getElem? hy)
  refine .inr ⟨rfl, fun m x hx => ?_⟩
  by_cases hk : m < k
  · exact h.no m hk x hx
  · exact (all m ⟨x, hx⟩ (by omega)).no m (by omega) x hx
end
/-! two machines, step by step alike -/
inductive All2 {α β : Type} (R : α → β → Prop) : List α → List β → Prop
  | nil : All2 R [] []
  | cons {a : α} {b : β} {as : List α} {bs : List β} : R a b → All2 R as bs → All2 R (a :: as) (b :: bs)
section
variable {α β : Type} {R : α → β → Prop}
theorem All2.length : ∀ {as : List α} {bs : List β}, All2 R as bs → as.length = bs.length
  | _, _, .nil => rfl
  | _, _, .cons _ h => by rw [List.length_cons, List.length_cons, h.length]
theorem All2.append : ∀ {as cs : List α} {bs ds : List β}, All2 R as bs → All2 R cs ds → All2 R (as ++ cs) (bs ++ ds)
  | _, _, _, _, .nil, h => h
  | _, _, _, _, .cons a t, h => .cons a (t.append h)
theorem All2.get : ∀ {as : List α} {bs : List β} (i : Nat), All2 R as bs → (as[i]? = none ∧ bs[i]? = none) ∨ ∃ a b, as[i]? = some a ∧ bs[i]? = some b ∧ R a b
  | _, _, _, .nil => .inl ⟨by simp, by simp⟩
  | _, _, 0, .cons h _ => .inr ⟨_, _, rfl, rfl, h⟩
  | _, _, i + 1, .cons _ t => by
    rcases t.get i with ⟨h1, h2⟩ | ⟨a, b, h1, h2, h3⟩
    · exact .inl ⟨by simpa using h1, by simpa using h2⟩
    · exact .inr ⟨a, b, by simpa using h1, by simpa using h2, h3⟩
theorem All2.mapR {γ δ : Type} {S : γ → δ → Prop} {f : α → γ} {g : β → δ} (w : ∀ a b, R a b → S (f a) (g b)) : ∀ {as : List α} {bs : List β}, All2 R as bs → All2 S (as.map f) (bs.map g)
  | _, _, .nil => .nil
  | _, _, .cons h t => .cons (w _ _ h) (t.mapR w)
end
section
variable {σ τ : Type} [DecidableEq σ] [DecidableEq τ] {s1 : σ → List (Bool × σ)} {s2 : τ → List (Bool × τ)} {x0 : σ} {y0 : τ} {a1 : σ → Bool} {a2 : τ → Bool}
theorem runs_rel (R : σ → τ → Prop) (h0 : R x0 y0) (hs : ∀ x y, R x y → All2 (fun p q => p.1 = q.1 ∧ R p.2 q.2) (s1 x) (s2 y)) : ∀ k, All2 (fun p q => R p.1 q.1 ∧ p.2 = q.2) (runs s1 x0 k) (runs s2 y0 k)
  | 0 => .cons ⟨h0, rfl⟩ .nil
  | k + 1 => by
    have ih := runs_rel R h0 hs k
    rw [runs, runs]
    rcases ih.get k with ⟨h1, h2⟩ | ⟨a, b, h1, h2, h3, h4⟩
    · rw [h1, h2]; exact ih
    · rw [h1, h2]
      refine ih.append ?_
      unfold extR
      exact (hs _ _ h3).mapR fun p q h => ⟨h.2, by rw [h.1, h4]⟩
theorem Bfs.eq (R : σ → τ → Prop) (h0 : R x0 y0) (hs : ∀ x y, R x y → All2 (fun p q => p.1 = q.1 ∧ R p.2 q.2) (s1 x) (s2 y)) (ha : ∀ x y, R x y → a1 x = a2 y)
    {r1 r2 : Option (List Bool)} (h1 : Bfs s1 x0 a1 r1) (h2 : Bfs s2 y0 a2 r2) : r1 = r2 := by
  have rel := fun k => (runs_rel R h0 hs k).get k
  have l2r : ∀ {k x}, nthR s1 x0 k = some x → ∃ y, nthR s2 y0 k = some y ∧ R x.1 y.1 ∧ x.2 = y.2 := fun {k x} h => by
    rcases rel k with ⟨e1, _⟩ | ⟨a, b, e1, e2, e3⟩
    · have h : (runs s1 x0 k)[k]? = some x := h
      rw [e1] at h; cases h
    · have h : (runs s1 x0 k)[k]? = some x := h
      rw [e1] at h; cases h
      exact ⟨b, e2, e3⟩
  have r2l : ∀ {k y}, nthR s2 y0 k = some y → ∃ x, nthR s1 x0 k = some x ∧ R x.1 y.1 ∧ x.2 = y.2 := fun {k y} h => by
    rcases rel k with ⟨_, e1⟩ | ⟨a, b, e1, e2, e3⟩
    · have h : (runs s2 y0 k)[k]? = some y := h
      rw [e1] at h; cases h
    · have h : (runs s2 y0 k)[k]? = some y := h
      rw [e2] at h; cases h
      exact ⟨a, e1, e3⟩
  rcases h1 with ⟨k, x, n1, c1, rfl, f1⟩ | ⟨rfl, f1⟩
  · obtain ⟨y, m1, m2, m3⟩ := l2r n1
    have hy : a2 y.1 = true := by rw [← ha _ _ m2]; exact c1
    rcases h2 with ⟨j, z, n2, c2, rfl, f2⟩ | ⟨rfl, f2⟩
    · obtain ⟨u, o1, o2, o3⟩ := r2l n2
      have hu : a1 u.1 = true := by rw [ha _ _ o2]; exact c2
      have e : j = k := by
        rcases Nat.lt_trichotomy j k with q | q | q
        · rw [f1 j q u o1] at hu; cases hu
        · exact q
        · rw [f2 k q y m1] at hy; cases hy
      subst e
      rw [m1] at n2
      cases n2
      rw [m3]
    · rw [f2 k y m1] at hy; cases hy
  · rcases h2 with ⟨j, z, n2, c2, rfl, f2⟩ | ⟨rfl, f2⟩
    · obtain ⟨u, o1, o2, o3⟩ := r2l n2
      rw [← ha _ _ o2, f1 j u o1] at c2; cases c2
    · rfl
end
end PD

set_option maxRecDepth 100000
set_option maxHeartbeats 4000000
set_option autoImplicit false
namespace PD
open PySem PySem.Spec L2
/-! ### branches that meet again -/
section
variable {α β : Type} {c : Prop} [Decidable c]
theorem m_ok {a b : α} {ρ ρ' : DE} : (if c then R.ok a ρ else R.ok b ρ') = R.ok (if c then a else b) (if c then ρ else ρ') := by split <;> rfl
theorem m_nx {ρ ρ' : DE} : (if c then Fl.nx ρ else Fl.nx ρ') = Fl.nx (if c then ρ else ρ') := by split <;> rfl
theorem m_rt {x y : D} {ρ ρ' : DE} : (if c then Fl.rt x ρ else Fl.rt y ρ') = Fl.rt (if c then x else y) (if c then ρ else ρ') := by split <;> rfl
theorem m_cons {a b : Option LV} {l m : List (Option LV)} : (if c then a :: l else b :: m) = (if c then a else b) :: (if c then l else m) := by split <;> rfl
theorem m_some {a b : α} : (if c then some a else some b) = some (if c then a else b) := by split <;> rfl
theorem m_d {x y : D} : (if c then LV.d x else LV.d y) = LV.d (if c then x else y) := by split <;> rfl
theorem m_own {x y : List D} : (if c then LV.own x else LV.own y) = LV.own (if c then x else y) := by split <;> rfl
theorem m_dct {x y : List (D × D)} : (if c then LV.dct x else LV.dct y) = LV.dct (if c then x else y) := by split <;> rfl
theorem m_int {x y : Int} : (if c then PyData.int x else PyData.int y) = PyData.int (if c then x else y) := by split <;> rfl
theorem m_bool {x y : Bool} : (if c then PyData.bool x else PyData.bool y) = PyData.bool (if c then x else y) := by split <;> rfl
theorem m_list {x y : List D} : (if c then PyData.list x else PyData.list y) = PyData.list (if c then x else y) := by split <;> rfl
theorem m_ret {x y : D} {o : Option (List D)} : (if c then FR.ret x o else FR.ret y o) = FR.ret (if c then x else y) o := by split <;> rfl
theorem s_rtl {x : D} {ρ : DE} {b : Fl} {k : MS} : seqR (if c then Fl.rt x ρ else b) k = if c then Fl.rt x ρ else seqR b k := by split <;> rfl
theorem s_rtr {x : D} {ρ : DE} {b : Fl} {k : MS} : seqR (if c then b else Fl.rt x ρ) k = if c then seqR b k else Fl.rt x ρ := by split <;> rfl
theorem s_rll {x : List D} {ρ : DE} {b : Fl} {k : MS} : seqR (if c then Fl.rl x ρ else b) k = if c then Fl.rl x ρ else seqR b k := by split <;> rfl
theorem s_rlr {x : List D} {ρ : DE} {b : Fl} {k : MS} : seqR (if c then b else Fl.rl x ρ) k = if c then seqR b k else Fl.rl x ρ := by split <;> rfl
theorem s_bkl {ρ : DE} {b : Fl} {k : MS} : seqR (if c then Fl.bk ρ else b) k = if c then Fl.bk ρ else seqR b k := by split <;> rfl
theorem s_bkr {ρ : DE} {b : Fl} {k : MS} : seqR (if c then b else Fl.bk ρ) k = if c then seqR b k else Fl.bk ρ := by split <;> rfl
theorem s_ctl {ρ : DE} {b : Fl} {k : MS} : seqR (if c then Fl.ct ρ else b) k = if c then Fl.ct ρ else seqR b k := by split <;> rfl
theorem s_ctr {ρ : DE} {b : Fl} {k : MS} : seqR (if c then b else Fl.ct ρ) k = if c then seqR b k else Fl.ct ρ := by split <;> rfl
theorem s_exl {e : EV} {ρ : DE} {b : Fl} {k : MS} : seqR (if c then Fl.ex e ρ else b) k = if c then Fl.ex e ρ else seqR b k := by split <;> rfl
theorem s_exr {e : EV} {ρ : DE} {b : Fl} {k : MS} : seqR (if c then b else Fl.ex e ρ) k = if c then seqR b k else Fl.ex e ρ := by split <;> rfl
theorem b_exl {e : EV} {ρ : DE} {b : R α} {k : α → M β} : bindR (if c then R.ex e ρ else b) k = if c then R.ex e ρ else bindR b k := by split <;> rfl
theorem b_exr {e : EV} {ρ : DE} {b : R α} {k : α → M β} : bindR (if c then b else R.ex e ρ) k = if c then bindR b k else R.ex e ρ := by split <;> rfl
theorem o_exl {e : EV} {ρ : DE} {b : R α} {k : α → MS} : ofR (if c then R.ex e ρ else b) k = if c then Fl.ex e ρ else ofR b k := by split <;> rfl
theorem o_exr {e : EV} {ρ : DE} {b : R α} {k : α → MS} : ofR (if c then b else R.ex e ρ) k = if c then ofR b k else Fl.ex e ρ := by split <;> rfl
/-- a truth value by a test -/
theorem m_tt (b : Bool) : (if b = true then true else false) = b := by cases b <;> rfl
theorem m_ft (b : Bool) : (if b = true then false else true) = !b := by cases b <;> rfl
theorem m_dt : (if c then true else false) = decide c := by by_cases h : c <;> simp [h]
theorem m_df : (if c then false else true) = !decide c := by by_cases h : c <;> simp [h]
theorem m_dtx (x : Bool) : (if c then true else x) = (decide c || x) := by by_cases h : c <;> simp [h]
theorem m_dfx (x : Bool) : (if c then false else x) = (!decide c && x) := by by_cases h : c <;> simp [h]
theorem m_xdt (x : Bool) : (if c then x else true) = (!decide c || x) := by by_cases h : c <;> simp [h]
theorem m_xdf (x : Bool) : (if c then x else false) = (decide c && x) := by by_cases h : c <;> simp [h]
end
end PD

set_option maxRecDepth 100000
set_option maxHeartbeats 4000000
set_option autoImplicit false
namespace PD
open PySem PySem.Spec L2
/-! ### dicts whose keys are states: a row is put, whether it was there or not -/
section
variable {σ : Type} [DecidableEq σ] {en : σ → D}
def putM (l : List σ) (x : σ) : List σ := if x ∈ l then l else l ++ [x]
theorem putKD_some {kvs : List (D × D)} {k v : D} (h : (getK kvs k).isSome = true) : putKD kvs k v = kvs.map fun p => if nk p.1 = nk k then (p.1, v) else p := by
  unfold putKD
  rw [if_pos h]
theorem setKO_put {va : σ → D} (hi : ∀ s t, nk (en s) = nk (en t) → s = t) (ht : ∀ s, tupK (en s) = true) {x : σ} {l : List σ} (hl : l.length < PySem.sizeLine) :
    setKO (some (l.map fun s => (en s, va s))) (en x) (va x) = some ((putM l x).map fun s => (en s, va s)) := by
  by_cases hx : x ∈ l
  · unfold setKO putM
    simp only [Option.bind_some, okKey_map ht, List.length_map, hl, and_self, if_true, hx]
    rw [putKD_some (by rw [getK_map hi, if_pos hx]; rfl), List.map_map]
    congr 1
    refine List.map_congr_left fun s _ => ?_
    show (if nk (en s) = nk (en x) then (en s, va x) else (en s, va s)) = _
    split
    · rename_i e; rw [hi _ _ e]
    · rfl
  · rw [setKO_map hi ht hx hl]
    unfold putM
    rw [if_neg hx]
end
theorem m_map {α : Type} {c : Prop} [Decidable c] {a b : List α} {f : α → D} : (if c then a.map f else b.map f) = (if c then a else b).map f := by split <;> rfl
theorem m_map2 {α : Type} {c : Prop} [Decidable c] {a b : List α} {f : α → D × D} : (if c then a.map f else b.map f) = (if c then a else b).map f := by split <;> rfl
theorem map_snoc {α β : Type} (f : α → β) (l : List α) (x : α) : l.map f ++ [f x] = (l ++ [x]).map f := by rw [List.map_append]; rfl
theorem maxL_nil (m : Int) : maxL m [] = m := rfl
theorem maxL_cons (m v : Int) (vs : List Int) : maxL m (v :: vs) = maxL (if v > m then v else m) vs := rfl
end PD

set_option maxRecDepth 100000
set_option maxHeartbeats 4000000
set_option autoImplicit false
namespace PD
open PySem PySem.Spec L2
/-! ### values told by data: what == and a dict make of them -/
structure Enc {α : Type} [DecidableEq α] (en : α → D) (n : Nat) : Prop where
  eqv : ∀ a b, PyData.eqv (en a) (en b) = decide (a = b)
  sh : ∀ a, Sh n (en a)
  nk : ∀ a b, PD.nk (en a) = PD.nk (en b) → a = b
  key : ∀ a, ∃ k, PD.nk (en a) = some k ∧ k.depth ≤ n
theorem Enc.up {α : Type} [DecidableEq α] {en : α → D} {n m : Nat} (h : Enc en n) (e : n ≤ m) : Enc en m := ⟨h.eqv, fun a => (h.sh a).up e, h.nk, fun a => let ⟨k, h1, h2⟩ := h.key a; ⟨k, h1, Nat.le_trans h2 e⟩⟩
theorem Enc.int : Enc PyData.int 0 := ⟨eqv_ii, sh_int, fun a b e => by simp only [PD.nk, Option.some.injEq, NestedKey.num.injEq] at e; exact e, fun a => ⟨.num a, rfl, by simp only [NestedKey.depth]; exact Nat.le_refl _⟩⟩
theorem Enc.bool : Enc PyData.bool 0 := ⟨eqv_bb, sh_bool, fun a b e => by
  simp only [PD.nk, Option.some.injEq, NestedKey.num.injEq] at e
  cases a <;> cases b <;> first | rfl | simp at e, fun a => ⟨_, rfl, by simp only [NestedKey.depth]; exact Nat.le_refl _⟩⟩
theorem keyAll {α : Type} [DecidableEq α] {en : α → D} {n : Nat} (h : Enc en n) : ∀ xs : List α, ∃ ks, nkAll (xs.map en) = some ks ∧ NestedKey.depthAll ks ≤ n
  | [] => ⟨[], rfl, by simp only [NestedKey.depthAll]; exact Nat.zero_le _⟩
  | x :: xs => by
    obtain ⟨k, h1, h2⟩ := h.key x
    obtain ⟨ks, h3, h4⟩ := keyAll h xs
    refine ⟨k :: ks, ?_, ?_⟩
    · rw [List.map_cons]; simp only [nkAll, h1, h3, Option.bind_some, Option.map_some]
    · simp only [NestedKey.depthAll]; omega
theorem nkAll_inj {α : Type} [DecidableEq α] {en : α → D} {n : Nat} (h : Enc en n) : ∀ xs ys : List α, nkAll (xs.map en) = nkAll (ys.map en) → xs = ys
  | [], [], _ => rfl
  | [], y :: ys, e => by
    obtain ⟨k, h1, _⟩ := h.key y
    obtain ⟨ks, h3, _⟩ := keyAll h ys
    rw [List.map_cons, List.map_nil] at e
    simp only [nkAll, h1, h3, Option.bind_some, Option.map_some, Option.some.injEq, List.nil_eq, reduceCtorEq] at e
  | x :: xs, [], e => by
    obtain ⟨k, h1, _⟩ := h.key x
    obtain ⟨ks, h3, _⟩ := keyAll h xs
    rw [List.map_cons, List.map_nil] at e
    simp only [nkAll, h1, h3, Option.bind_some, Option.map_some, Option.some.injEq, reduceCtorEq] at e
  | x :: xs, y :: ys, e => by
    obtain ⟨k, h1, _⟩ := h.key x
    obtain ⟨ks, h3, _⟩ := keyAll h xs
    obtain ⟨k', h1', _⟩ := h.key y
    obtain ⟨ks', h3', _⟩ := keyAll h ys
    rw [List.map_cons, List.map_cons] at e
    simp only [nkAll, h1, h3, h1', h3', Option.bind_some, Option.map_some, Option.some.injEq, List.cons.injEq] at e
    rw [h.nk x y (by rw [h1, h1', e.1]), nkAll_inj h xs ys (by rw [h3, h3', e.2])]
theorem Enc.list {α : Type} [DecidableEq α] {en : α → D} {n : Nat} (h : Enc en n) : Enc (fun xs : List α => PyData.tuple (xs.map en)) (n + 1) := by
  refine ⟨fun a b => by rw [eqv_tt]; exact eqvAll_map h.eqv a b, fun a => sh_tup fun x hx => ?_, fun a b e => ?_, fun a => ?_⟩
  · obtain ⟨y, _, rfl⟩ := List.mem_map.mp hx
    exact h.sh y
  · obtain ⟨ks, h3, _⟩ := keyAll h a
    obtain ⟨ks', h3', _⟩ := keyAll h b
    simp only [PD.nk, h3, h3', Option.map_some, Option.some.injEq, NestedKey.tup.injEq] at e
    exact nkAll_inj h a b (by rw [h3, h3', e])
  · obtain ⟨ks, h3, h4⟩ := keyAll h a
    exact ⟨.tup ks, by simp only [PD.nk, h3, Option.map_some], by simp only [NestedKey.depth]; omega⟩
/-! tuples of several: by their parts -/
/-- a row of data, by parts -/
structure EncR {α : Type} [DecidableEq α] (en : α → List D) (n : Nat) : Prop where
  eqv : ∀ a b, PyData.eqvAll (en a) (en b) = decide (a = b)
  sh : ∀ a, ∀ x ∈ en a, Sh n x
  nk : ∀ a b, nkAll (en a) = nkAll (en b) → a = b
  key : ∀ a, ∃ k, nkAll (en a) = some k ∧ NestedKey.depthAll k ≤ n
theorem EncR.one {α : Type} [DecidableEq α] {en : α → D} {n : Nat} (h : Enc en n) : EncR (fun a => [en a]) n := by
  refine ⟨fun a b => by rw [eqvAll_cc, eqvAll_nn, h.eqv, Bool.and_true], fun a x hx => by rw [List.mem_singleton.mp hx]; exact h.sh a, fun a b e => ?_, fun a => ?_⟩
  · exact List.cons.inj (nkAll_inj h [a] [b] e) |>.1
  · obtain ⟨ks, h1, h2⟩ := keyAll h [a]
    exact ⟨ks, h1, h2⟩
theorem EncR.cons {α β : Type} [DecidableEq α] [DecidableEq β] {en : α → D} {em : β → List D} {n : Nat} (h : Enc en n) (g : EncR em n) : EncR (fun p : α × β => en p.1 :: em p.2) n := by
  refine ⟨fun a b => ?_, fun a x hx => ?_, fun a b e => ?_, fun a => ?_⟩
  · rw [eqvAll_cc, h.eqv, g.eqv, ← Bool.decide_and]
    exact decide_eq_decide.mpr Prod.ext_iff.symm
  · rcases List.mem_cons.mp hx with e | hx
    · rw [e]; exact h.sh _
    · exact g.sh _ x hx
  · obtain ⟨k, h1, _⟩ := h.key a.1
    obtain ⟨ks, h3, _⟩ := g.key a.2
    obtain ⟨k', h1', _⟩ := h.key b.1
    obtain ⟨ks', h3', _⟩ := g.key b.2
    simp only [nkAll, h1, h3, h1', h3', Option.bind_some, Option.map_some, Option.some.injEq, List.cons.injEq] at e
    exact Prod.ext (h.nk _ _ (by rw [h1, h1', e.1])) (g.nk _ _ (by rw [h3, h3', e.2]))
  · obtain ⟨k, h1, h2⟩ := h.key a.1
    obtain ⟨ks, h3, h4⟩ := g.key a.2
    exact ⟨k :: ks, by simp only [nkAll, h1, h3, Option.bind_some, Option.map_some], by simp only [NestedKey.depthAll]; omega⟩
theorem EncR.tup {α : Type} [DecidableEq α] {en : α → List D} {n : Nat} (h : EncR en n) : Enc (fun a => PyData.tuple (en a)) (n + 1) := by
  refine ⟨fun a b => by rw [eqv_tt]; exact h.eqv a b, fun a => sh_tup (h.sh a), fun a b e => ?_, fun a => ?_⟩
  · obtain ⟨ks, h3, _⟩ := h.key a
    obtain ⟨ks', h3', _⟩ := h.key b
    simp only [PD.nk, h3, h3', Option.map_some, Option.some.injEq, NestedKey.tup.injEq] at e
    exact h.nk a b (by rw [h3, h3', e])
  · obtain ⟨ks, h3, h4⟩ := h.key a
    exact ⟨.tup ks, by simp only [PD.nk, h3, Option.map_some], by simp only [NestedKey.depth]; omega⟩
/-- a tuple may be a key -/
theorem EncR.tupK {α : Type} [DecidableEq α] {en : α → List D} {n : Nat} (h : EncR en n) (hn : n + 1 ≤ 8) (a : α) : PD.tupK (.tuple (en a)) = true := by
  have e : PD.tupK (.tuple (en a)) = (match PD.nk (.tuple (en a)) with | some k => decide (k.depth ≤ 8) | none => false) := rfl
  obtain ⟨k, h1, h2⟩ := h.tup.key a
  rw [e, h1]
  exact decide_eq_true (by omega)
/-! ### few: numbers for things -/
structure Few {α : Type} (P : α → Prop) (c : α → Nat) (n : Nat) : Prop where
  lt : ∀ a, P a → c a < n
  inj : ∀ a b, P a → P b → c a = c b → a = b
theorem Few.prod {α β : Type} {P : α → Prop} {Q : β → Prop} {c : α → Nat} {d : β → Nat} {n m : Nat} (h : Few P c n) (g : Few Q d m) : Few (fun p : α × β => P p.1 ∧ Q p.2) (fun p => c p.1 * m + d p.2) (n * m) := by
  refine ⟨fun a ha => ?_, fun a b ha hb e => ?_⟩
  · have h1 := h.lt _ ha.1
    have h2 := g.lt _ ha.2
    calc c a.1 * m + d a.2 < c a.1 * m + m := Nat.add_lt_add_left h2 _
      _ = (c a.1 + 1) * m := (Nat.succ_mul _ _).symm
      _ ≤ n * m := Nat.mul_le_mul_right m h1
  · have h1 := g.lt _ ha.2
    have h2 := g.lt _ hb.2
    have hm : 0 < m := Nat.lt_of_le_of_lt (Nat.zero_le _) h1
    have e : c a.1 * m + d a.2 = c b.1 * m + d b.2 := e
    have e1 : c a.1 = c b.1 := by
      have : (c a.1 * m + d a.2) / m = (c b.1 * m + d b.2) / m := by rw [e]
      rw [Nat.mul_comm, Nat.mul_add_div hm, Nat.div_eq_of_lt h1, Nat.mul_comm (c b.1), Nat.mul_add_div hm, Nat.div_eq_of_lt h2] at this
      omega
    have e2 : d a.2 = d b.2 := by rw [e1] at e; omega
    exact Prod.ext (h.inj _ _ ha.1 hb.1 e1) (g.inj _ _ ha.2 hb.2 e2)
theorem Few.bool : Few (fun _ : Bool => True) (fun b => if b then 1 else 0) 2 := ⟨fun a _ => by cases a <;> decide, fun a b _ _ e => by cases a <;> cases b <;> first | rfl | simp at e⟩
theorem Few.int (n : Nat) : Few (fun i : Int => 0 ≤ i ∧ i < n) Int.toNat n := ⟨fun a h => by omega, fun a b h g e => by omega⟩
theorem Few.imp {α : Type} {P Q : α → Prop} {c : α → Nat} {n : Nat} (h : Few P c n) (w : ∀ a, Q a → P a) : Few Q c n := ⟨fun a q => h.lt a (w a q), fun a b p q => h.inj a b (w a p) (w b q)⟩
def bitsC : List Bool → Nat
  | [] => 1
  | b :: h => (if b then 1 else 0) + 2 * bitsC h
theorem bitsC_pos : ∀ h, 0 < bitsC h
  | [] => Nat.one_pos
  | b :: h => by have := bitsC_pos h; unfold bitsC; omega
theorem bitsC_inj : ∀ g h : List Bool, bitsC g = bitsC h → g = h
  | [], [], _ => rfl
  | [], b :: h, e => by have := bitsC_pos h; unfold bitsC at e; omega
  | b :: h, [], e => by have := bitsC_pos h; unfold bitsC at e; omega
  | a :: g, b :: h, e => by
    unfold bitsC at e
    have e1 : a = b := by cases a <;> cases b <;> simp at e <;> first | rfl | omega
    have e2 : bitsC g = bitsC h := by rw [e1] at e; omega
    rw [e1, bitsC_inj g h e2]
theorem bitsC_lt : ∀ (h : List Bool), bitsC h < 2 ^ (h.length + 1)
  | [] => by decide
  | b :: h => by
    have := bitsC_lt h
    unfold bitsC
    rw [List.length_cons, Nat.pow_succ]
    split <;> omega
theorem Few.bools (n : Nat) : Few (fun h : List Bool => h.length ≤ n) bitsC (2 ^ (n + 1)) := ⟨fun a h => Nat.lt_of_lt_of_le (bitsC_lt a) (Nat.pow_le_pow_right (by decide) (by omega)), fun a b _ _ e => bitsC_inj a b e⟩
theorem Few.len {α : Type} {P : α → Prop} {c : α → Nat} {n : Nat} (h : Few P c n) {l : List α} (hn : l.Nodup) (hp : ∀ x ∈ l, P x) : l.length ≤ n := nodup_codes hn (fun x hx y hy e => h.inj x y (hp x hx) (hp y hy) e) fun x hx => h.lt x (hp x hx)
end PD

set_option maxRecDepth 100000
set_option maxHeartbeats 4000000
set_option autoImplicit false
namespace PD
open PySem PySem.Spec L2
/-! ### whiles that search -/
section
variable {σ : Type} [DecidableEq σ] {outs : σ → List (σ × List Int)} {s0 : σ}
theorem MidA.fold {met0 w0 : List σ} {m0 : Int} {x : σ} (hx : x ∈ met0) : ∀ (os : List (σ × List Int)) (told : List (σ × List Int)) (a : List σ × List σ × Int), MidA outs s0 met0 w0 m0 x told a.1 a.2.1 a.2.2 → (∀ o ∈ os, o ∈ outs x) →
    MidA outs s0 met0 w0 m0 x (told ++ os) (os.foldl pushA a).1 (os.foldl pushA a).2.1 (os.foldl pushA a).2.2
  | [], told, a, h, _ => by rw [List.append_nil]; exact h
  | o :: os, told, a, h, ho => by
    have := MidA.fold hx os (told ++ [o]) (pushA a o) (h.push outs s0 hx (ho o List.mem_cons_self)) fun p hp => ho p (List.mem_cons_of_mem _ hp)
    rw [List.append_assoc] at this
    exact this
theorem InvA.turn {met w : List σ} {x : σ} {m : Int} (h : InvA outs s0 met (w ++ [x]) m) :
    InvA outs s0 ((outs x).foldl pushA (met, w, m)).1 ((outs x).foldl pushA (met, w, m)).2.1 ((outs x).foldl pushA (met, w, m)).2.2 ∧
    ((outs x).foldl pushA (met, w, m)).1.length + w.length = met.length + ((outs x).foldl pushA (met, w, m)).2.1.length ∧ met.length ≤ ((outs x).foldl pushA (met, w, m)).1.length := by
  obtain ⟨h1, h2⟩ := h.pop
  have h3 := MidA.fold (a := (met, w, m)) h2 (outs x) [] h1 fun o ho => ho
  rw [List.nil_append] at h3
  refine ⟨h3.done outs s0 h.st, h3.len, ?_⟩
  have : ∀ (os : List (σ × List Int)) (a : List σ × List σ × Int), a.1.length ≤ (os.foldl pushA a).1.length := fun os => by
    induction os with
    | nil => exact fun a => Nat.le_refl _
    | cons o os ih =>
      intro a
      refine Nat.le_trans ?_ (ih (pushA a o))
      unfold pushA
      split
      · exact Nat.le_refl _
      · rw [List.length_append]; omega
  exact this (outs x) (met, w, m)
theorem pushA_len (os : List (σ × List Int)) : ∀ (a : List σ × List σ × Int), (os.foldl pushA a).1.length ≤ a.1.length + os.length ∧ (os.foldl pushA a).2.1.length ≤ a.2.1.length + os.length := by
  induction os with
  | nil => exact fun a => ⟨Nat.le_refl _, Nat.le_refl _⟩
  | cons o os ih =>
    intro a
    obtain ⟨h1, h2⟩ := ih (pushA a o)
    rw [List.foldl_cons, List.length_cons]
    have : (pushA a o).1.length ≤ a.1.length + 1 ∧ (pushA a o).2.1.length ≤ a.2.1.length + 1 := by
      unfold pushA
      split
      · exact ⟨by dsimp only; omega, by dsimp only; omega⟩
      · exact ⟨by rw [List.length_append]; exact Nat.le_refl _, by rw [List.length_append]; exact Nat.le_refl _⟩
    omega
/-- a while that pops, and marks at the push -/
theorem dfsA {p : M Bool} {g : MS} (env : List σ → List σ → Int → DE → Prop) (N : Nat) (hN : ∀ met wait m, InvA outs s0 met wait m → met.length ≤ N)
    (hp : ∀ met wait m ρ, env met wait m ρ → p ρ = .ok (decide (wait ≠ [])) ρ)
    (hg : ∀ met w x m ρ, InvA outs s0 met (w ++ [x]) m → env met (w ++ [x]) m ρ → ∃ ρ', g ρ = .nx ρ' ∧ env ((outs x).foldl pushA (met, w, m)).1 ((outs x).foldl pushA (met, w, m)).2.1 ((outs x).foldl pushA (met, w, m)).2.2 ρ') {ρ : DE}
    (h0 : env [s0] [s0] 0 ρ) : ∃ ρ' met m, S.while_ p g ρ = .nx ρ' ∧ env met [] m ρ' ∧ Top (nextO outs) s0 (valsO outs) m := by
  obtain ⟨ρ', e, met, m, h1, h2⟩ := while_inv (p := p) (g := g) (fun n ρ => ∃ met wait m, env met wait m ρ ∧ InvA outs s0 met wait m ∧ n = 2 * (N - met.length) + wait.length)
    (fun ρ => ∃ met m, env met [] m ρ ∧ Top (nextO outs) s0 (valsO outs) m) _ ρ ⟨_, _, _, h0, InvA.start outs s0, rfl⟩ fun n ρ ⟨met, wait, m, h1, h2, h3⟩ => by
      have hp' := hp met wait m ρ h1
      by_cases hw : wait = []
      · subst hw
        exact .inl ⟨ρ, by rw [hp']; rfl, met, m, h1, h2.top⟩
      · have e : wait = wait.dropLast ++ [wait.getLast hw] := (List.dropLast_concat_getLast hw).symm
        generalize wait.dropLast = w at e
        generalize wait.getLast hw = x at e
        subst e
        obtain ⟨ρ', g1, g2⟩ := hg met w x m ρ h2 h1
        obtain ⟨t1, t2, t3⟩ := h2.turn
        refine .inr ⟨ρ, ρ', _, by rw [hp', decide_eq_true hw], .inl g1, ?_, _, _, _, g2, t1, rfl⟩
        have := hN _ _ _ t1
        rw [h3, List.length_append, List.length_singleton]
        omega
  exact ⟨ρ', met, m, e, h1, h2⟩
/-- a while that pops, and marks at the pop; two values are watched -/
theorem dfsB {o1 o2 : σ → List (σ × List Int)} (hn : ∀ x, nextO o1 x = nextO o2 x) {p : M Bool} {g : MS} (env : List σ → List σ → Int → Int → DE → Prop) (N : Nat) (hN : ∀ met line m, InvB o1 s0 met line m → met.length ≤ N) (h2 : ∀ x, (o1 x).length ≤ 2)
    (hp : ∀ met line m k ρ, env met line m k ρ → p ρ = .ok (decide (line ≠ [])) ρ)
    (hs : ∀ met l x m k ρ, InvB o1 s0 met (l ++ [x]) m → env met (l ++ [x]) m k ρ → x ∈ met → ∃ ρ', g ρ = .nx ρ' ∧ env met l m k ρ')
    (hg : ∀ met l x m k ρ, InvB o1 s0 met (l ++ [x]) m → l.length ≤ 2 * N → env met (l ++ [x]) m k ρ → x ∉ met → ∃ ρ', g ρ = .nx ρ' ∧ env (met ++ [x]) (l ++ nextO o1 x) (maxL m (valsO o1 x)) (maxL k (valsO o2 x)) ρ') {ρ : DE}
    (h0 : env [] [s0] 0 0 ρ) : ∃ ρ' met m k, S.while_ p g ρ = .nx ρ' ∧ env met [] m k ρ' ∧ Top (nextO o1) s0 (valsO o1) m ∧ Top (nextO o2) s0 (valsO o2) k := by
  have mx : ∀ (m : Int) (vs : List Int), m ≤ maxL m vs ∧ (∀ v ∈ vs, v ≤ maxL m vs) ∧ (maxL m vs = m ∨ maxL m vs ∈ vs) := fun m vs => maxL_le vs m
  obtain ⟨ρ', e, met, m, k, h1, h2, h3⟩ := while_inv (p := p) (g := g) (fun n ρ => ∃ met line m k, env met line m k ρ ∧ InvB o1 s0 met line m ∧ InvB o2 s0 met line k ∧ line.length ≤ met.length + 1 ∧ n = 3 * (N - met.length) + line.length)
    (fun ρ => ∃ met m k, env met [] m k ρ ∧ Top (nextO o1) s0 (valsO o1) m ∧ Top (nextO o2) s0 (valsO o2) k) _ ρ ⟨_, _, _, _, h0, InvB.start o1 s0, InvB.start o2 s0, Nat.le_refl _, rfl⟩ fun n ρ ⟨met, line, m, k, h1, i1, i2, hl, h3⟩ => by
      have hp' := hp met line m k ρ h1
      by_cases hw : line = []
      · subst hw
        exact .inl ⟨ρ, by rw [hp']; rfl, met, m, k, h1, i1.top, i2.top⟩
      · have e : line = line.dropLast ++ [line.getLast hw] := (List.dropLast_concat_getLast hw).symm
        generalize line.dropLast = l at e
        generalize line.getLast hw = x at e
        subst e
        rw [List.length_append, List.length_singleton] at hl
        by_cases hx : x ∈ met
        · obtain ⟨ρ', g1, g2⟩ := hs met l x m k ρ i1 h1 hx
          refine .inr ⟨ρ, ρ', _, by rw [hp', decide_eq_true hw], .inl g1, ?_, _, _, _, _, g2, i1.skip _ _ hx, i2.skip _ _ hx, by omega, rfl⟩
          rw [h3, List.length_append, List.length_singleton]
          omega
        · have i1' := i1.take o1 s0 hx (mx m _).1 (mx m _).2.1 (mx m _).2.2
          have i2' := i2.take o2 s0 hx (mx k _).1 (mx k _).2.1 (mx k _).2.2
          rw [← hn] at i2'
          have hm := hN _ _ _ i1'
          rw [List.length_append, List.length_singleton] at hm
          obtain ⟨ρ', g1, g2⟩ := hg met l x m k ρ i1 (by omega) h1 hx
          have hl2 : (nextO o1 x).length ≤ 2 := by unfold nextO; rw [List.length_map]; exact h2 x
          refine .inr ⟨ρ, ρ', _, by rw [hp', decide_eq_true hw], .inl g1, ?_, _, _, _, _, g2, i1', i2', ?_, rfl⟩
          · simp only [h3, List.length_append, List.length_singleton]
            omega
          · simp only [List.length_append, List.length_singleton]
            omega
  exact ⟨ρ', met, m, k, e, h1, h2, h3⟩
/-- what is reached on one side is reached on the other -/
theorem Reach.sim {τ : Type} {n1 : σ → List σ} {n2 : τ → List τ} {x0 : σ} {y0 : τ} (R : σ → τ → Prop) (h0 : R x0 y0) (hs : ∀ x y, R x y → ∀ x' ∈ n1 x, ∃ y' ∈ n2 y, R x' y') {x : σ} (h : Reach n1 x0 x) : ∃ y, Reach n2 y0 y ∧ R x y := by
  induction h with
  | start => exact ⟨y0, .start, h0⟩
  | step _ hx ih =>
    obtain ⟨y, h1, h2⟩ := ih
    obtain ⟨y', h3, h4⟩ := hs _ y h2 _ hx
    exact ⟨y', .step h1 h3, h4⟩
end
end PD

set_option maxRecDepth 100000
set_option maxHeartbeats 4000000
set_option autoImplicit false
namespace PD
open PySem PySem.Spec L2
/-! ### whiles that may return -/
theorem while_rt {p : M Bool} {g : MS} {ρ ρ1 ρ2 : DE} {x : D} (h : p ρ = .ok true ρ1) (hg : g ρ1 = .rt x ρ2) : S.while_ p g ρ = .rt x ρ2 := by
  have e : whileN p g 1 ρ = .rt x ρ2 := by
    unfold whileN
    rw [h]
    simp only [if_true]
    rw [hg]
  rw [while_eq (n := 1) (by rw [e]; rfl), e]
/-- a while by what holds and a number that falls; a turn may return -/
theorem while_wp {p : M Bool} {g : MS} (I : Nat → DE → Prop) (Q : Fl → Prop) : ∀ (n : Nat) (ρ : DE), I n ρ → (∀ n ρ, I n ρ → (∃ ρ1, p ρ = .ok false ρ1 ∧ Q (.nx ρ1)) ∨ (∃ ρ1 x ρ2, p ρ = .ok true ρ1 ∧ g ρ1 = .rt x ρ2 ∧ Q (.rt x ρ2)) ∨ ∃ ρ1 ρ2 m, p ρ = .ok true ρ1 ∧ (g ρ1 = .nx ρ2 ∨ g ρ1 = .ct ρ2) ∧ m < n ∧ I m ρ2) →
    Q (S.while_ p g ρ) ∧ (S.while_ p g ρ).isBad = false := by
  intro n
  induction n using Nat.strongRecOn with
  | _ n ih =>
    intro ρ h hs
    rcases hs n ρ h with ⟨ρ1, h1, h2⟩ | ⟨ρ1, x, ρ2, h1, h2, h3⟩ | ⟨ρ1, ρ2, m, h1, h2, h3, h4⟩
    · rw [while_done h1]; exact ⟨h2, rfl⟩
    · rw [while_rt h1 h2]; exact ⟨h3, rfl⟩
    · obtain ⟨e1, e2⟩ := ih m h3 ρ2 h4 hs
      rw [while_go h1 h2 e2]; exact ⟨e1, e2⟩
theorem forD_nil {G : Gt} {g : MS} {ρ : DE} : forD G g [] ρ = .nx ρ := rfl
theorem forD_nx {G : Gt} {g : MS} {x : D} {xs : List D} {ρ ρ1 ρ2 : DE} (h1 : G x ρ = some ρ1) (h2 : g ρ1 = .nx ρ2) : forD G g (x :: xs) ρ = forD G g xs ρ2 := by
  rw [forD, h1]
  simp only
  rw [h2]
/-! ### dicts from states to what was found -/
section
variable {σ : Type} [DecidableEq σ] {en : σ → D} {va : List Bool → D}
def rowsR (en : σ → D) (va : List Bool → D) (Q : List (Run σ)) : List (D × D) := Q.map fun z => (en z.1, va z.2)
def putRn (Q : List (Run σ)) (e : Run σ) : List (Run σ) := if e.1 ∈ Q.map (·.1) then Q.map (fun z => if z.1 = e.1 then (z.1, e.2) else z) else Q ++ [e]
theorem getK_none (hi : ∀ s t, nk (en s) = nk (en t) → s = t) (x : σ) : ∀ Q : List (Run σ), (getK (rowsR en va Q) (en x)).isSome = decide (x ∈ Q.map (·.1))
  | [] => rfl
  | z :: Q => by
    show (if nk (en z.1) = nk (en x) then some (va z.2) else getK (rowsR en va Q) (en x)).isSome = _
    by_cases e : z.1 = x
    · rw [if_pos (by rw [e]), decide_eq_true (by rw [List.map_cons, e]; exact List.mem_cons_self)]
      rfl
    · rw [if_neg (fun h => e (hi _ _ h)), getK_none hi x Q]
      exact decide_eq_decide.mpr ⟨fun h => by rw [List.map_cons]; exact List.mem_cons_of_mem _ h, fun h => by
        rw [List.map_cons] at h
        exact (List.mem_cons.mp h).elim (fun q => absurd q.symm e) id⟩
theorem getK_run (hi : ∀ s t, nk (en s) = nk (en t) → s = t) : ∀ (Q : List (Run σ)), (Q.map (·.1)).Nodup → ∀ x ∈ Q, getK (rowsR en va Q) (en x.1) = some (va x.2)
  | [], _, x, h => by simp at h
  | z :: Q, hn, x, h => by
    rw [List.map_cons, List.nodup_cons] at hn
    show (if nk (en z.1) = nk (en x.1) then some (va z.2) else getK (rowsR en va Q) (en x.1)) = _
    rcases List.mem_cons.mp h with e | h
    · rw [e, if_pos rfl]
    · have ne : z.1 ≠ x.1 := fun e => hn.1 (by rw [e]; exact List.mem_map.mpr ⟨x, h, rfl⟩)
      rw [if_neg (fun q => ne (hi _ _ q)), getK_run hi Q hn.2 x h]
theorem okKey_run (ht : ∀ s, tupK (en s) = true) (x : σ) (Q : List (Run σ)) : okKey (rowsR en va Q) (en x) = true := by
  have e : ((rowsR en va Q).all fun p => tupK p.1) = true := by
    unfold rowsR
    rw [List.all_map]
    exact List.all_eq_true.mpr fun s _ => ht s.1
  unfold okKey
  rw [ht x, e, Bool.true_and, Bool.or_true]
theorem inO_run (hi : ∀ s t, nk (en s) = nk (en t) → s = t) (ht : ∀ s, tupK (en s) = true) (neg : Bool) (x : σ) (Q : List (Run σ)) :
    inO neg (some (rowsR en va Q)) (en x) = some (.bool (if neg then decide (x ∉ Q.map (·.1)) else decide (x ∈ Q.map (·.1)))) := by
  unfold inO
  simp only [Option.bind_some, okKey_run ht, if_true, getK_none hi]
  by_cases h : x ∈ Q.map (·.1) <;> cases neg <;> simp [h]
theorem subKO_run (hi : ∀ s t, nk (en s) = nk (en t) → s = t) (ht : ∀ s, tupK (en s) = true) {Q : List (Run σ)} (hn : (Q.map (·.1)).Nodup) {x : Run σ} (hx : x ∈ Q) : subKO (some (rowsR en va Q)) (en x.1) = some (va x.2) := by
  unfold subKO
  simp only [Option.bind_some, okKey_run ht, if_true, getK_run hi Q hn x hx]
theorem setKO_run (hi : ∀ s t, nk (en s) = nk (en t) → s = t) (ht : ∀ s, tupK (en s) = true) {Q : List (Run σ)} (hl : Q.length < PySem.sizeLine) (x : σ) (w : List Bool) :
    setKO (some (rowsR en va Q)) (en x) (va w) = some (rowsR en va (putRn Q (x, w))) := by
  have hl2 : (rowsR en va Q).length < sizeLine := by unfold rowsR; rw [List.length_map]; exact hl
  unfold setKO
  simp only [Option.bind_some, okKey_run ht, hl2, and_self, if_true]
  congr 1
  unfold putKD putRn
  rw [getK_none hi]
  by_cases h : x ∈ Q.map (·.1)
  · simp only [h, decide_true, if_true]
    unfold rowsR
    rw [List.map_map, List.map_map]
    refine List.map_congr_left fun z _ => ?_
    show (if nk (en z.1) = nk (en x) then (en z.1, va w) else (en z.1, va z.2)) = (en (if z.1 = x then (z.1, w) else z).1, va (if z.1 = x then (z.1, w) else z).2)
    by_cases e : z.1 = x
    · rw [if_pos (by rw [e]), if_pos e]
    · rw [if_neg (fun q => e (hi _ _ q)), if_neg e]
  · simp only [h, decide_false, Bool.false_eq_true, if_false]
    unfold rowsR
    rw [List.map_append]
    rfl
theorem push_put (Q : List (Run σ)) (e : Run σ) {i : Decidable (¬ e.1 ∈ Q.map (·.1))} : @ite _ (¬ e.1 ∈ Q.map (·.1)) i (putRn Q e) Q = pushR Q e := by
  unfold putRn pushR
  by_cases h : e.1 ∈ Q.map (·.1)
  · rw [if_neg (fun q => q h), if_pos h]
  · rw [if_pos h, if_neg h, if_neg h]
theorem m_rows {c : Prop} [Decidable c] {a b : List (Run σ)} : (if c then rowsR en va a else rowsR en va b) = rowsR en va (if c then a else b) := by split <;> rfl
/-- the states in waiting -/
def waitR (en : σ → D) (Q : List (Run σ)) : List D := Q.map fun z => en z.1
theorem wait_push (Q : List (Run σ)) (e : Run σ) {i : Decidable (¬ e.1 ∈ Q.map (·.1))} : @ite _ (¬ e.1 ∈ Q.map (·.1)) i (waitR en Q ++ [en e.1]) (waitR en Q) = waitR en (pushR Q e) := by
  unfold pushR waitR
  by_cases h : e.1 ∈ Q.map (·.1)
  · rw [if_neg (fun q => q h), if_pos h]
  · rw [if_pos h, if_neg h, List.map_append]; rfl
theorem waitR_len (Q : List (Run σ)) : (waitR en Q).length = Q.length := by unfold waitR; rw [List.length_map]
theorem waitR_at {Q : List (Run σ)} {i : Nat} {x : Run σ} (h : Q[i]? = some x) : atI (waitR en Q) (i : Nat) = some (en x.1) := atI_nat (by unfold waitR; rw [List.getElem?_map, h]; rfl)
theorem push_len (Q : List (Run σ)) (e : Run σ) : (pushR Q e).length ≤ Q.length + 1 := by
  unfold pushR
  split
  · omega
  · rw [List.length_append]; exact Nat.le_refl _
theorem pushes_len : ∀ (es Q : List (Run σ)), (es.foldl pushR Q).length ≤ Q.length + es.length
  | [], Q => Nat.le_refl _
  | e :: es, Q => by
    have h1 := pushes_len es (pushR Q e)
    have h2 := push_len Q e
    rw [List.foldl_cons, List.length_cons]
    omega
/-- words are no longer than where they stand -/
def Short (Q : List (Run σ)) : Prop := ∀ (i : Nat) (x : Run σ), Q[i]? = some x → x.2.length ≤ i
theorem Short.push {Q : List (Run σ)} (h : Short Q) {e : Run σ} (he : e.2.length ≤ Q.length) : Short (pushR Q e) := fun i x hx => by
  unfold pushR at hx
  split at hx
  · exact h i x hx
  · rw [List.getElem?_append] at hx
    split at hx
    · exact h i x hx
    · rename_i hl
      have hi : i - Q.length = 0 := by
        by_cases e2 : i - Q.length = 0
        · exact e2
        · rw [List.getElem?_eq_none (by rw [List.length_singleton]; omega)] at hx; cases hx
      rw [hi] at hx
      cases hx
      omega
theorem Short.pushes : ∀ (es : List (Run σ)) {Q : List (Run σ)} {n : Nat}, Short Q → n ≤ Q.length → (∀ e ∈ es, e.2.length ≤ n) → Short (es.foldl pushR Q)
  | [], _, _, h, _, _ => h
  | e :: es, Q, n, h, hn, he => by
    obtain ⟨t, ht⟩ := push_prefix Q e
    exact Short.pushes es (h.push (Nat.le_trans (he e List.mem_cons_self) hn)) (by rw [ht, List.length_append]; omega) fun x hx => he x (List.mem_cons_of_mem _ hx)
variable {succ : σ → List (Bool × σ)} {s0 : σ} {acc : σ → Bool}
/-- a while that follows a queue, marked at the push -/
theorem bfsW {p : M Bool} {g : MS} (env : List (Run σ) → Nat → DE → Prop) (N : Nat) (hN : ∀ Q : List (Run σ), (Q.map (·.1)).Nodup → (∀ x ∈ Q, Rn succ s0 x.1 x.2) → Q.length ≤ N)
    (hp : ∀ Q i ρ, env Q i ρ → i ≤ Q.length → p ρ = .ok (decide ((i : Int) < (Q.length : Int))) ρ)
    (hg : ∀ Q (i : Nat) x ρ, Q[i]? = some x → (Q.map (·.1)).Nodup → (∀ x ∈ Q, Rn succ s0 x.1 x.2) → x.2.length ≤ N → Q.length ≤ N → env Q i ρ →
      if acc x.1 = true then ∃ ρ', g ρ = .rt (va x.2) ρ' else ∃ ρ', g ρ = .nx ρ' ∧ env ((extR succ x).foldl pushR Q) (i + 1) ρ') {ρ : DE} (h0 : env [(s0, [])] 0 ρ) :
    ∃ res, Bfs succ s0 acc res ∧ ((res = none ∧ ∃ ρ' Q i, S.while_ p g ρ = .nx ρ' ∧ env Q i ρ') ∨ ∃ w ρ', res = some w ∧ S.while_ p g ρ = .rt (va w) ρ') := by
  refine (while_wp (p := p) (g := g) (fun n ρ => ∃ Q i k, env Q i ρ ∧ InvQ succ s0 acc Q i k ∧ Short Q ∧ n = N - i)
    (fun fl => ∃ res, Bfs succ s0 acc res ∧ ((res = none ∧ ∃ ρ' Q i, fl = .nx ρ' ∧ env Q i ρ') ∨ ∃ w ρ', res = some w ∧ fl = .rt (va w) ρ')) _ ρ ⟨_, _, _, h0, InvQ.start, ?_, rfl⟩ fun n ρ ⟨Q, i, k, h1, h2, h3, h4⟩ => ?_).1
  · intro i x hx
    cases i with
    | zero => cases hx; exact Nat.le_refl _
    | succ i => simp at hx
  · have hp' := hp Q i ρ h1 h2.le
    have hnd := h2.nodup
    have hrn := h2.rn
    have hQ := hN Q hnd hrn
    by_cases hi : i < Q.length
    · obtain ⟨x, hx⟩ : ∃ x, Q[i]? = some x := ⟨_, List.getElem?_eq_getElem hi⟩
      have hw := h3 i x hx
      have ht := hg Q i x ρ hx hnd hrn (by omega) hQ h1
      rw [decide_eq_true (by omega : (i : Int) < (Q.length : Int))] at hp'
      by_cases ha : acc x.1 = true
      · rw [if_pos ha] at ht
        obtain ⟨ρ', hr⟩ := ht
        exact .inr (.inl ⟨ρ, _, ρ', hp', hr, some x.2, h2.found hx ha, .inr ⟨x.2, ρ', rfl, rfl⟩⟩)
      · rw [if_neg ha] at ht
        obtain ⟨ρ', hr, he⟩ := ht
        obtain ⟨m, hm⟩ := h2.next hx (by cases h : acc x.1 <;> first | rfl | exact absurd h ha)
        refine .inr (.inr ⟨ρ, ρ', _, hp', .inl hr, ?_, _, _, m, he, hm, ?_, rfl⟩)
        · omega
        · refine Short.pushes _ h3 (n := i + 1) hi fun e he => ?_
          unfold extR at he
          obtain ⟨q, _, rfl⟩ := List.mem_map.mp he
          rw [List.length_append, List.length_singleton]
          omega
    · have e : i = Q.length := Nat.le_antisymm h2.le (by omega)
      rw [decide_eq_false (by omega)] at hp'
      refine .inl ⟨ρ, hp', none, ?_, .inl ⟨rfl, ρ, Q, i, rfl, h1⟩⟩
      rw [e] at h2
      exact h2.over
end
end PD

set_option maxRecDepth 100000
set_option maxHeartbeats 4000000
set_option autoImplicit false
namespace L2
open PySem PySem.Spec PyProof.Rows
/-! ### sets of ints and of texts: made of a list or a tuple, sorted -/
def keyM (e : Int × Value) : Key := match e.2 with
  | .int k _ => .inl k
  | .str x _ => .inr x
  | _ => .inl 0
def GoodM (w : World) (e : Int × Value) : Prop := (∃ k : Key, keyIs k e.2 = true ∧ e.1 = keyH w k) ∧ e.2.scannable = true
def SetM (w : World) (h : Heap) (a : Addr) (S : Key → Bool) (n : Nat) : Prop :=
  ∃ o es ep t, (h.get? a = some o ∧ o.ExactSet ∧ o.data = .set es ep t) ∧ ((∀ e ∈ es.toList, GoodM w e) ∧ (es.toList.map keyM).Nodup ∧ ∀ k, S k = true ↔ k ∈ es.toList.map keyM) ∧
    (es.size < scanBound ∧ t.fits es.size = true ∧ es.size = n) ∧ Ris t.place.toList ∧ (w.params.followText "set-order" = true ∨ t.led = true)
def memK (ks : List Key) (j : Key) : Bool := ks.any fun k => decide (k = j)
theorem memK_iff {ks : List Key} {j : Key} : memK ks j = true ↔ j ∈ ks := by
  unfold memK
  rw [List.any_eq_true]
  exact ⟨fun ⟨k, hk, e⟩ => by rw [← of_decide_eq_true e]; exact hk, fun h => ⟨j, h, decide_eq_true rfl⟩⟩
theorem memK_snoc (ks : List Key) (k j : Key) : memK (ks ++ [k]) j = (memK ks j || decide (j = k)) := by
  unfold memK
  rw [List.any_append]
  congr 1
  show (decide (k = j) || false) = _
  rw [Bool.or_false]
  exact decide_eq_decide.mpr eq_comm
theorem keyM_of {e : Int × Value} {k : Key} (h : keyIs k e.2 = true) : keyM e = k := by
  obtain ⟨u, v⟩ := e
  rcases keyIs_shape h with ⟨i, t, h1, h2⟩ | ⟨x, t, h1, h2⟩
  · have h2 : v = .int i t := h2
    subst h1 h2
    rfl
  · have h2 : v = .str x t := h2
    subst h1 h2
    rfl
theorem keyM_iff {w : World} {e : Int × Value} (g : GoodM w e) (k : Key) : keyIs k e.2 = true ↔ keyM e = k := by
  obtain ⟨⟨k0, h1, _⟩, _⟩ := g
  have h0 := keyM_of h1
  exact ⟨fun h => keyM_of h, fun h => by rw [← h, h0]; exact h1⟩
section
variable {P : Program} {w : World} {h h' : Heap} {a : Addr} {S : Key → Bool} {n : Nat}
theorem SetM.at (R : SetM w h a S n) (k : ∀ o, h.get? a = some o → h'.get? a = some o) : SetM w h' a S n :=
  let ⟨o, es, ep, t, ⟨ho, hx⟩, r⟩ := R
  ⟨o, es, ep, t, ⟨k o ho, hx⟩, r⟩
theorem SetM.same {S' : Key → Bool} (R : SetM w h a S n) (e : ∀ k, S' k = S k) : SetM w h a S' n := (funext e : S' = S) ▸ R
theorem goodM_elems {l : List (Int × Value)} (g : ∀ e ∈ l, GoodM w e) : ElemsOf (mixKind P w) l := fun e he => g e he
theorem goodM_mem {l : List (Int × Value)} (g : ∀ e ∈ l, GoodM w e) (k : Key) : k ∈ l.map keyM ↔ ∃ e ∈ l, keyIs k e.2 = true :=
  List.mem_map.trans ⟨fun ⟨e, he, q⟩ => ⟨e, he, (keyM_iff (g e he) k).mpr q⟩, fun ⟨e, he, q⟩ => ⟨e, he, (keyM_iff (g e he) k).mp q⟩⟩
theorem SetM.setOf (R : SetM w h a S n) : h.SetOf (mixKind P w) a S n := by
  obtain ⟨o, es, ep, t, ⟨ho, hx, hd⟩, ⟨g, nd, hm⟩, ⟨hb, hf, hn⟩, _⟩ := R
  exact ⟨o, es, ep, t, ho, hx, hd, goodM_elems g, fun k => (hm k).trans (goodM_mem g k), hb, hf, hn⟩
end
section
variable {P : Program} {w : World} {A : Around} {E : Value → Shared → Prop} {s : Shared} {a : Addr} {S : Key → Bool} {n : Nat}
theorem addM_tail {g : Bool → Sem Unit} (hg : ∀ (b : Bool) (s₁ : Shared) (Q' : Unit → Shared → Prop), Q' () s₁ → wpAny (model P w) A (g b) Q' E s₁) {ob : Obj} {xs : Array (Int × Value)} {ep : Nat} {tb : SetTable}
    (ho : s.heap.get? a = some ob) (hex : ob.ExactSet) (hd : ob.data = .set xs ep tb) {ys : Array (Int × Value)} {tc : SetTable} {S' : Key → Bool} (gg : ∀ e ∈ ys.toList, GoodM w e) (nn : (ys.toList.map keyM).Nodup)
    (mm : ∀ k, S' k = true ↔ k ∈ ys.toList.map keyM) (hb1 : ys.size < scanBound) (hf2 : tc.fits ys.size = true) (hr : Ris tc.place.toList) (hl : w.params.followText "set-order" = true ∨ tc.led = true) {dm : Bool} {R : Option Bool → Shared → Prop}
    (hR : ∀ h', Heap.SameBut a s.heap h' → SetM w h' a S' ys.size → R (some true) { s with heap := h' }) :
    wpAny (model P w) A (do
        storeSet a ys tc
        if (!dm && tc.tooFull) = true then do
            g (relayAll tc ys (SetTable.grown ys.size)).2.2
            storeSet a (relayAll tc ys (SetTable.grown ys.size)).1 (relayAll tc ys (SetTable.grown ys.size)).2.1
            pure (some true)
          else pure (some true)) R E s := by
  have z1 := store_at (es' := ys) (t' := tc) ho hd
  have z2 := Heap.SameBut.update s.heap a (Obj.putSet ys tc)
  refine wpAny_bind (wpAny_storeSet_of ho hd ?_ (fits_of_scanBound hb1))
  by_cases hc : (!dm && tc.tooFull) = true
  · rw [if_pos hc]
    have p1 := relayAll_perm tc ys (SetTable.grown ys.size)
    have p2 := relayAll_fits tc ys (SetTable.grown ys.size)
    have p3 := relayAll_ris tc ys (SetTable.grown ys.size)
    have p4 := relayAll_led tc ys (SetTable.grown ys.size)
    generalize relayAll tc ys (SetTable.grown ys.size) = Z at p1 p2 p3 p4 ⊢
    obtain ⟨zs, td, ge⟩ := Z
    dsimp only at p1 p2 p3 p4 ⊢
    have sz : zs.size = ys.size := by
      have := p1.length_eq
      rwa [Array.length_toList, Array.length_toList] at this
    have hb2 : zs.size < scanBound := by rw [sz]; exact hb1
    refine wpAny_bind (hg _ _ _ (wpAny_bind (wpAny_storeSet_of z1 rfl ?_ (fits_of_scanBound hb2))))
    refine wpAny_pure (hR _ (z2.trans (Heap.SameBut.update _ a _)) ⟨_, zs, _, td, ⟨store_at (es' := zs) (t' := td) z1 rfl, hex, rfl⟩, ⟨fun e he => gg e (p1.mem_iff.mp he), ?_, ?_⟩, ⟨hb2, p2, sz⟩, p3, hl.imp id fun z => by rw [p4]; exact z⟩)
    · exact (p1.map keyM).nodup_iff.mpr nn
    · exact fun k => (mm k).trans (p1.map keyM).mem_iff.symm
  · rw [if_neg hc]
    exact wpAny_pure (hR _ z2 ⟨_, ys, _, tc, ⟨z1, hex, rfl⟩, ⟨gg, nn, mm⟩, ⟨hb1, hf2, rfl⟩, hr, hl⟩)
theorem addM_hashed {k : Key} {x : Value} {Q : Bool → Shared → Prop} (hkey : keyIs k x = true) (hsc : x.scannable = true) (R : SetM w s.heap a S n) (room : n + 1 < scanBound)
    (hQ : ∀ h', Heap.SameBut a s.heap h' → SetM w h' a (fun j => S j || decide (j = k)) (if S k = true then n else n + 1) → Q (!S k) { s with heap := h' }) : wpAny (model P w) A (setAddHashed a x (keyH w k)) Q E s := by
  obtain ⟨ob, xs, ep, tb, ⟨ho, hex, hd⟩, ⟨g, nd, hm⟩, ⟨hb, hf, hn⟩, hr, hl⟩ := R
  have hel : ElemsOf (mixKind P w) xs.toList := goodM_elems g
  have hk2 : (mixKind P w).is k x = true := hkey
  unfold setAddHashed setAddHashedIn
  refine wpAny_holding (wpAny_bind (wpAny_setState_of ho hd hf ?_))
  dsimp only
  rw [byScan_of hsc hb hel]
  simp only [↓reduceIte]
  unfold setAddByScan
  refine wpAny_bind (wpAny_bind (wpAny_rule (wpAny_bind (wpAny_setScan_of hk2 ho hd hf hel ?_))))
  cases hfi : List.findIdx? (fun e => (mixKind P w).is k e.2) xs.toList with
  | some j =>
    dsimp only
    obtain ⟨hj, pj, _⟩ := List.findIdx?_eq_some_iff_getElem.mp hfi
    have hS : S k = true := (hm k).mpr ((goodM_mem g k).mpr ⟨xs.toList[j], List.getElem_mem hj, pj⟩)
    have q := hQ s.heap (Heap.SameBut.refl a s.heap) ⟨ob, xs, ep, tb, ⟨ho, hex, hd⟩, ⟨g, nd, fun i => ?_⟩, ⟨hb, hf, by rw [if_pos hS]; exact hn⟩, hr, hl⟩
    · rw [hS] at q
      exact wpAny_pure (wpAny_pure q)
    · rw [Bool.or_eq_true, decide_eq_true_eq, ← hm i]
      exact ⟨fun z => z.elim id fun e => by rw [e]; exact hS, .inl⟩
  | none =>
    dsimp only
    have hno : k ∉ xs.toList.map keyM := fun z => by
      obtain ⟨e, he, q⟩ := (goodM_mem g k).mp z
      have c := List.findIdx?_eq_none_iff.mp hfi e he
      have q : (mixKind P w).is k e.2 = true := q
      rw [q] at c
      cases c
    have hS : S k = false := by
      cases q : S k with
      | false => rfl
      | true => exact absurd ((hm k).mp q) hno
    have giving : ∀ (b : Bool) {s₁ : Shared} {Q' : Unit → Shared → Prop}, Q' () s₁ → wpAny (model P w) A (match b with | true => rule "set.scan.the-table-gave-way" | false => pure ()) Q' E s₁ := fun b s₁ Q' q => by
      cases b
      · exact wpAny_pure q
      · exact wpAny_rule q
    have p1 := layNew_perm tb xs (keyH w k) x
    have p2 := layNew_fits tb xs (keyH w k) x
    have p3 := layNew_ris tb xs (keyH w k) x hr
    have p4 := layNew_led tb xs (keyH w k) x
    have eh : (mixKind P w).hash k = keyH w k := rfl
    generalize layNew tb xs (keyH w k) x = Z at p1 p2 p3 p4 ⊢
    obtain ⟨ys, tc, dm, gave⟩ := Z
    dsimp only at p1 p2 p3 p4 ⊢
    rw [Array.toList_push] at p1
    have pc : ys.toList.Perm ((keyH w k, x) :: xs.toList) := p1.trans (List.perm_append_singleton _ _)
    have ek : keyM (keyH w k, x) = k := keyM_of hkey
    have pk : (ys.toList.map keyM).Perm (k :: xs.toList.map keyM) := by
      have := pc.map keyM
      rwa [List.map_cons, ek] at this
    have gg : ∀ e ∈ ys.toList, GoodM w e := fun e he => by
      rcases List.mem_cons.mp (pc.mem_iff.mp he) with z | z
      · rw [z]; exact ⟨⟨k, hkey, rfl⟩, hsc⟩
      · exact g e z
    have nn : (ys.toList.map keyM).Nodup := pk.nodup_iff.mpr (List.nodup_cons.mpr ⟨hno, nd⟩)
    have mm : ∀ i, (S i || decide (i = k)) = true ↔ i ∈ ys.toList.map keyM := fun i => by
      rw [Bool.or_eq_true, decide_eq_true_eq, hm i, pk.mem_iff, List.mem_cons]
      exact Or.comm
    have hsz : ys.size = n + 1 := by
      have := pc.length_eq
      rw [List.length_cons, Array.length_toList, Array.length_toList, hn] at this
      exact this
    have hb1 : ys.size < scanBound := by rw [hsz]; exact room
    have hled : w.params.followText "set-order" = true ∨ tc.led = true := hl.imp id fun z => by rw [p4]; exact z
    have fin : ∀ h', Heap.SameBut a s.heap h' → SetM w h' a (fun j => S j || decide (j = k)) ys.size → Q true { s with heap := h' } := fun h' sb r => by
      have q := hQ h' sb
      rw [hS] at q
      rw [hsz] at r
      exact q r
    refine wpAny_bind (giving _ ?_)
    split
    · refine wpAny_bind ?_
      rw [hashByValue_scannable 8 hsc]
      refine wpAny_pure ?_
      refine addM_tail (fun b s₁ Q' q => giving b q) ho hex hd gg nn mm hb1 ?_ ?_ ?_ fun h' sb r => ?_
      · first | (split <;> first | exact p2 | exact SetTable.fits_plain_off p2) | exact p2
      · first | (split <;> exact p3) | exact p3
      · first | (split <;> exact hled) | exact hled
      · dsimp only; exact wpAny_pure (fin h' sb r)
    · refine wpAny_bind (wpAny_pure ?_)
      simp only [↓reduceIte]
      refine addM_tail (fun b s₁ Q' q => giving b q) ho hex hd gg nn mm hb1 p2 p3 hled fun h' sb r => ?_
      dsimp only; exact wpAny_pure (fin h' sb r)
def emptyM (w : World) : Obj := { cls := .type "set", dict := none, data := .set #[] 0 (.fresh 0 0 (!w.params.followText "set-order")) }
theorem freshM {h : Heap} {ks : List Key} (ho : h.get? a = some (emptyM w)) : SetM w h a (fun j => memK (ks.take 0) j) 0 :=
  ⟨_, #[], 0, _, ⟨ho, ⟨rfl, rfl, rfl⟩, rfl⟩, ⟨fun e he => by simp at he, by simp, fun k => by simp [memK]⟩, ⟨by decide, by rfl, rfl⟩, List.Pairwise.nil, by
    cases w.params.followText "set-order"
    · exact .inr rfl
    · exact .inl rfl⟩
theorem updM {I : Addr} {fp wr : List Addr} {G : Array GenState → Array GenState → Prop} {N : Nat} {Pv : Nat → Value → Prop} {St : Nat → Shared → Prop} {R : Result → Shared → Prop} (W : WalksS P w A.in1 I fp wr G N Pv St) (B : Addr) (hBf : B ∉ fp)
    (ks : List Key) (hN : N = ks.length) (hb : ks.length + 1 < scanBound) (hval : ∀ i v, Pv i v → ∃ k, ks[i]? = some k ∧ keyIs k v = true ∧ v.scannable = true) :
    ∀ (m i : Nat) (s : Shared), N - i = m → i ≤ N → St i s → (∃ c, c ≤ i ∧ SetM w s.heap B (fun j => memK (ks.take i) j) c) →
      (∀ s' c, Moved (B :: wr) G s s' → c ≤ N → SetM w s'.heap B (fun j => memK ks j) c → R (.ok (.ret .none)) s') → codeAny (model P w) A (.builtin "set.update.loop" ⟨[.ref B, .ref I], []⟩) R s := by
  have hBw : B ∉ wr := fun h => hBf (W.sub _ h)
  have up : ∀ b ∈ wr, b ∈ B :: wr := fun b hb => List.mem_cons_of_mem _ hb
  intro m
  induction m with
  | zero =>
    intro i s hm hi hst ⟨c, hc, hS⟩ hR
    have hin : i = N := by omega
    subst hin
    refine codeAny_builtin F.entry_set_update_loop ?_
    rw [Around.under_plainId F.plain_set_update_loop _]
    show wpAny _ A.in1 (pyNext (.ref I) >>= _) _ _ s
    refine wpAny_bind (W.done s _ _ hst fun s' hm => ?_)
    rw [List.take_of_length_le (by omega)] at hS
    exact wpAny_pure (hR s' c (hm.mono up) hc (hS.at fun o e => hm.heap B o hBw e))
  | succ m ih =>
    intro i s hm hi hst ⟨c, hc, hS⟩ hR
    have hlt : i < N := by omega
    refine codeAny_builtin F.entry_set_update_loop ?_
    rw [Around.under_plainId F.plain_set_update_loop _]
    show wpAny _ A.in1 (pyNext (.ref I) >>= _) _ _ s
    refine wpAny_bind (W.item i s _ _ hlt hst fun v s' hP hst' hmv => ?_)
    obtain ⟨k, hk, hv, hsc⟩ := hval i v hP
    have h1 : SetM w s'.heap B (fun j => memK (ks.take i) j) c := hS.at fun o e => hmv.heap B o hBw e
    show wpAny _ A.in1 (holding [v] (setAdd B v) >>= _) _ _ s'
    refine wpAny_bind (wpAny_holding ?_)
    unfold setAdd
    refine wpAny_holding (wpAny_bind ((mixKind P w).pyHash (k := k) hv ?_))
    refine addM_hashed (s := { s' with toks := s'.toks + 1 }) hv hsc h1 (by omega) fun h' sb h2 => ?_
    have h3 : SetM w h' B (fun j => memK (ks.take (i + 1)) j) (if memK (ks.take i) k = true then c else c + 1) := h2.same fun j => by
      rw [List.take_add_one, hk]
      exact memK_snoc _ _ _
    have h4 : (if memK (ks.take i) k = true then c else c + 1) ≤ i + 1 := by split <;> omega
    refine wpAny_pure ⟨plainId_quiet F.plain_set_update_loop _, ih (i + 1) _ (by omega) hlt (W.frame _ s' _ _ hst' (Nat.le_succ _) fun b hb o e => ?_) ⟨_, h4, h3⟩ fun s2 c2 m2 l2 r2 => ?_⟩
    · rw [sb.2 b (fun h : b = B => hBf (by rw [← h]; exact hb))]; exact e
    · refine hR s2 c2 (Moved.trans W.gtrans ((hmv.mono up).then_heap (Nat.le_succ _) fun b o hb e => ?_) m2) l2 r2
      rw [sb.2 b (fun h : b = B => hb (by rw [h]; exact List.mem_cons_self))]; exact e

theorem setM_list {l : Addr} {items : Array Value} (ks : List Key) {Q : Value → Shared → Prop} (hh : A.handled = none) (hl : s.heap.IsList l items) (hN : items.size = ks.length) (hval : ∀ (i : Nat) (v : Value), items[i]? = some v → ∃ k, ks[i]? = some k ∧ keyIs k v = true ∧ v.scannable = true) (hb : ks.length + 1 < scanBound)
    (h : ∀ (h' : Heap) (tk c : Nat), SetM w h' s.heap.objs.size (memK ks) c → c ≤ ks.length → (∀ b o, s.heap.get? b = some o → h'.get? b = some o) → Q (.ref s.heap.objs.size) { s with heap := h', toks := tk }) :
    wpAny (model P w) A (call (.type "set") [.ref l]) Q E s := by
  obtain ⟨c, tl, hmro⟩ := F.called_set.mro
  have hmade := F.called_set.made
  have hsub := F.called_set.sub
  refine wpAny_call (codeAny_of_tree ?_)
  show wpAny _ _ (callAny (.type "set") _) _ _ _
  refine wpAny_pure ⟨Code.quiet_builtin _ (by decide +kernel), codeAny_builtin F.entry_type_call ?_⟩
  rw [Around.under_plain (weight_type_call_type "set" [.ref l] []) rfl]
  have h1 := F.called_set.notType
  have h2 := F.called_set.canCreate
  have hct := F.typeCall_set_1 (.ref l)
  repeat (any_goals (first | assumption | wp_step))
  refine codeAny_mono (code_set_led1 (.ref l) (E := E) (Q₁ := fun obj s₁ => obj = .ref s.heap.objs.size ∧ s₁ = { s with heap := s.heap.push (emptyM w) }) ⟨rfl, rfl⟩) fun r s₁ hr => ?_
  cases r with
  | error e => exact hr
  | ok fl =>
    cases fl <;> first | exact hr.elim | skip
    obtain ⟨rfl, rfl⟩ := hr
    have hS : (s.heap.push (emptyM w)).get? s.heap.objs.size = some (emptyM w) := Heap.get?_push_size _ rfl
    have hT : Shared.TypeIs { s with heap := s.heap.push (emptyM w) } (.ref s.heap.objs.size) "set" := ⟨_, hS, rfl⟩
    have hli := F.called_set.init.lookup
    have hbi := F.called_set.init.bind (.ref s.heap.objs.size)
    repeat (any_goals (first | assumption | wp_step))
    refine codeAny_mono (codeAny_call_builtin (R := wants (fun r s₂ => r = .none ∧ ∃ h' tk c, s₂ = { s with heap := h', toks := tk } ∧ SetM w h' s.heap.objs.size (memK ks) c ∧ c ≤ ks.length ∧
        (∀ b o, s.heap.get? b = some o → h'.get? b = some o)) E) F.called_set.init.plain F.entry_set_init (check_set_init_1 hT ?_)) fun r₂ s₂ hr₂ => ?_
    · obtain ⟨ol, hol, hcl, nl, hdl⟩ := hl
      obtain ⟨ocls, odict, odata, oslots⟩ := ol
      simp only at hcl hdl
      subst hcl; subst hdl
      have hol' : (s.heap.push (emptyM w)).get? l = some { cls := .type "list", dict := odict, data := .seq items nl, slots := oslots } := Heap.get?_push_of_some _ hol
      have hsls := F.sub_list_set
      have hslf := F.sub_list_frozenset
      have hne : (Value.type "list" == Value.type "dict") = false := by decide
      have hl1 : (s.heap.push (emptyM w)).IsList l items := ⟨_, hol', rfl, nl, rfl⟩
      have hlS : l < s.heap.objs.size := Heap.lt_size hol
      have hz1 : (s.heap.push (emptyM w)).objs.size = s.heap.objs.size + 1 := Heap.size_push ..
      unfold Builtin.«set.__init__» noKeywords Builtin.Frozenset.updateFrom
      generalize hPI : pyIter = PI
      wp_walk
      subst hPI
      refine wpAny_pyIter_list hl1 (wpAny_bind (wpAny_runValue ?_))
      have hh3 : A.in1.in1.in1.handled = none := by simp [hh]
      have hneI : l ≠ (s.heap.push (emptyM w)).objs.size := by rw [hz1]; exact Nat.ne_of_lt (Nat.lt_succ_of_lt hlS)
      have hSf : s.heap.objs.size ∉ [(s.heap.push (emptyM w)).objs.size, l] := by
        rw [hz1]
        intro hm
        rcases List.mem_cons.mp hm with z | z
        · exact absurd z (Nat.ne_of_lt (Nat.lt_succ_self _))
        · rw [List.mem_singleton.mp z] at hlS; exact Nat.lt_irrefl _ hlS
      refine updM ((Walks.list hh3 _ l hneI items).toS) s.heap.objs.size hSf ks hN hb hval (items.size - 0) 0 _ (by omega) (Nat.zero_le _) ⟨⟨_, Heap.get?_push_size _ rfl, rfl, rfl⟩, (hl1.push _)⟩ ?hS0 ?hR
      case hS0 => exact ⟨0, Nat.le_refl 0, freshM (Heap.get?_push_of_some _ hS)⟩
      case hR =>
        intro s' c' hm hc' hS'
        obtain ⟨h', g2, d', tk', os'⟩ := s'
        have eg : g2 = s.gens := hm.gens
        have ed : d' = s.drawn := hm.drawn
        have eo : os' = s.os := hm.os
        subst eg; subst ed; subst eo
        show wpAny _ _ _ _ _ _
        refine wpAny_pure ?_
        show wpAny _ _ (ret Value.none) _ _ _
        rw [hN] at hc'
        refine wpAny_pure ⟨rfl, h', tk', c', rfl, hS', hc', fun b o e => ?_⟩
        have hb0 : b < s.heap.objs.size := Heap.lt_size e
        refine hm.heap b o (fun hm2 => ?_) (Heap.get?_push_of_some _ (Heap.get?_push_of_some _ e))
        rcases List.mem_cons.mp hm2 with z | z
        · exact absurd z (Nat.ne_of_lt hb0)
        · have z := List.mem_singleton.mp z
          rw [hz1] at z
          exact absurd z (Nat.ne_of_lt (Nat.lt_succ_of_lt hb0))
    · cases r₂ with
      | error e => exact hr₂
      | ok fl₂ =>
        cases fl₂ <;> first | exact hr₂.elim | skip
        obtain ⟨rfl, h', tk, c', rfl, hS', hc', hk'⟩ := hr₂
        repeat (any_goals (first | assumption | wp_step))
        exact h _ _ _ hS' hc' hk'

theorem setM_tuple {l : Addr} {items : Array Value} (ks : List Key) {Q : Value → Shared → Prop} (hh : A.handled = none) (hl : s.heap.IsTuple l items) (hN : items.size = ks.length) (hval : ∀ (i : Nat) (v : Value), items[i]? = some v → ∃ k, ks[i]? = some k ∧ keyIs k v = true ∧ v.scannable = true) (hb : ks.length + 1 < scanBound)
    (h : ∀ (h' : Heap) (tk c : Nat), SetM w h' s.heap.objs.size (memK ks) c → c ≤ ks.length → (∀ b o, s.heap.get? b = some o → h'.get? b = some o) → Q (.ref s.heap.objs.size) { s with heap := h', toks := tk }) :
    wpAny (model P w) A (call (.type "set") [.ref l]) Q E s := by
  obtain ⟨c, tl, hmro⟩ := F.called_set.mro
  have hmade := F.called_set.made
  have hsub := F.called_set.sub
  refine wpAny_call (codeAny_of_tree ?_)
  show wpAny _ _ (callAny (.type "set") _) _ _ _
  refine wpAny_pure ⟨Code.quiet_builtin _ (by decide +kernel), codeAny_builtin F.entry_type_call ?_⟩
  rw [Around.under_plain (weight_type_call_type "set" [.ref l] []) rfl]
  have h1 := F.called_set.notType
  have h2 := F.called_set.canCreate
  have hct := F.typeCall_set_1 (.ref l)
  repeat (any_goals (first | assumption | wp_step))
  refine codeAny_mono (code_set_led1 (.ref l) (E := E) (Q₁ := fun obj s₁ => obj = .ref s.heap.objs.size ∧ s₁ = { s with heap := s.heap.push (emptyM w) }) ⟨rfl, rfl⟩) fun r s₁ hr => ?_
  cases r with
  | error e => exact hr
  | ok fl =>
    cases fl <;> first | exact hr.elim | skip
    obtain ⟨rfl, rfl⟩ := hr
    have hS : (s.heap.push (emptyM w)).get? s.heap.objs.size = some (emptyM w) := Heap.get?_push_size _ rfl
    have hT : Shared.TypeIs { s with heap := s.heap.push (emptyM w) } (.ref s.heap.objs.size) "set" := ⟨_, hS, rfl⟩
    have hli := F.called_set.init.lookup
    have hbi := F.called_set.init.bind (.ref s.heap.objs.size)
    repeat (any_goals (first | assumption | wp_step))
    refine codeAny_mono (codeAny_call_builtin (R := wants (fun r s₂ => r = .none ∧ ∃ h' tk c, s₂ = { s with heap := h', toks := tk } ∧ SetM w h' s.heap.objs.size (memK ks) c ∧ c ≤ ks.length ∧
        (∀ b o, s.heap.get? b = some o → h'.get? b = some o)) E) F.called_set.init.plain F.entry_set_init (check_set_init_1 hT ?_)) fun r₂ s₂ hr₂ => ?_
    · obtain ⟨ol, hol, hcl, nl, hdl⟩ := hl
      obtain ⟨ocls, odict, odata, oslots⟩ := ol
      simp only at hcl hdl
      subst hcl; subst hdl
      have hol' : (s.heap.push (emptyM w)).get? l = some { cls := .type "tuple", dict := odict, data := .seq items nl, slots := oslots } := Heap.get?_push_of_some _ hol
      have hsls := F.sub_tuple_set
      have hslf := F.sub_tuple_frozenset
      have hne : (Value.type "tuple" == Value.type "dict") = false := by decide
      have hl1 : (s.heap.push (emptyM w)).IsTuple l items := ⟨_, hol', rfl, nl, rfl⟩
      have hlS : l < s.heap.objs.size := Heap.lt_size hol
      have hz1 : (s.heap.push (emptyM w)).objs.size = s.heap.objs.size + 1 := Heap.size_push ..
      unfold Builtin.«set.__init__» noKeywords Builtin.Frozenset.updateFrom
      generalize hPI : pyIter = PI
      wp_walk
      subst hPI
      refine wpAny_pyIter_tuple hl1 (wpAny_bind (wpAny_runValue ?_))
      have hh3 : A.in1.in1.in1.handled = none := by simp [hh]
      have hneI : l ≠ (s.heap.push (emptyM w)).objs.size := by rw [hz1]; exact Nat.ne_of_lt (Nat.lt_succ_of_lt hlS)
      have hSf : s.heap.objs.size ∉ [(s.heap.push (emptyM w)).objs.size, l] := by
        rw [hz1]
        intro hm
        rcases List.mem_cons.mp hm with z | z
        · exact absurd z (Nat.ne_of_lt (Nat.lt_succ_self _))
        · rw [List.mem_singleton.mp z] at hlS; exact Nat.lt_irrefl _ hlS
      refine updM ((Walks.tuple hh3 _ l hneI items).toS) s.heap.objs.size hSf ks hN hb hval (items.size - 0) 0 _ (by omega) (Nat.zero_le _) ⟨⟨_, Heap.get?_push_size _ rfl, rfl, rfl⟩, (hl1.push _)⟩ ?hS0 ?hR
      case hS0 => exact ⟨0, Nat.le_refl 0, freshM (Heap.get?_push_of_some _ hS)⟩
      case hR =>
        intro s' c' hm hc' hS'
        obtain ⟨h', g2, d', tk', os'⟩ := s'
        have eg : g2 = s.gens := hm.gens
        have ed : d' = s.drawn := hm.drawn
        have eo : os' = s.os := hm.os
        subst eg; subst ed; subst eo
        show wpAny _ _ _ _ _ _
        refine wpAny_pure ?_
        show wpAny _ _ (ret Value.none) _ _ _
        rw [hN] at hc'
        refine wpAny_pure ⟨rfl, h', tk', c', rfl, hS', hc', fun b o e => ?_⟩
        have hb0 : b < s.heap.objs.size := Heap.lt_size e
        refine hm.heap b o (fun hm2 => ?_) (Heap.get?_push_of_some _ (Heap.get?_push_of_some _ e))
        rcases List.mem_cons.mp hm2 with z | z
        · exact absurd z (Nat.ne_of_lt hb0)
        · have z := List.mem_singleton.mp z
          rw [hz1] at z
          exact absurd z (Nat.ne_of_lt (Nat.lt_succ_of_lt hb0))
    · cases r₂ with
      | error e => exact hr₂
      | ok fl₂ =>
        cases fl₂ <;> first | exact hr₂.elim | skip
        obtain ⟨rfl, h', tk, c', rfl, hS', hc', hk'⟩ := hr₂
        repeat (any_goals (first | assumption | wp_step))
        exact h _ _ _ hS' hc' hk'

/-- sorted of a set: its members in a list, sorted -/
theorem sortM {n : Nat} {S : Key → Bool} {Q : Value → Shared → Prop} (R : SetM w s.heap a S n) (hh : A.handled = none) (h64 : n < 64) (P' : List Value → List Value → Prop)
    (hsort : ∀ (s1 : Shared) (L : Addr) (vs : List Value) (T : Fin → Shared → Prop), vs.length = n → (∀ v ∈ vs, ∃ k : Key, keyIs k v = true ∧ S k = true) → (∀ k, S k = true → ∃ v ∈ vs, keyIs k v = true) → s1.heap.get? L = some (seqObj "list" vs.toArray 0) →
      (∀ out : Array Value, P' vs out.toList → T (.done (.ret .none)) { s1 with heap := sortedHeap s1.heap L vs out }) → wpAny (model P w) A.in1.in1 (Builtin.«list.sort» ⟨[.ref L], []⟩) T E s1)
    (hQ : ∀ s' p vs (out : Array Value) (c : Nat), (∀ b o, s.heap.get? b = some o → s'.heap.get? b = some o) → s'.gens = s.gens → s'.os = s.os → s.heap.objs.size ≤ p → s'.heap.get? p = some (seqObj "list" out c) → vs.length = n →
      (∀ v ∈ vs, ∃ k : Key, keyIs k v = true ∧ S k = true) → (∀ k, S k = true → ∃ v ∈ vs, keyIs k v = true) → (vs.map fun v => keyM (0, v)).Nodup → P' vs out.toList → Q (.ref p) s') :
    wpAny (model P w) A (call (.builtin "sorted") [.ref a]) Q E s := by
  obtain ⟨o, xs, ep, t, ⟨ho, hex, hd⟩, ⟨g, nd, hm⟩, ⟨hb, hf, hn⟩, hr, hl⟩ := R
  refine Calls.call_function_entry kind_sorted plain_sorted entry_sorted (args_sorted1 _) ?_
  unfold Builtin.«sorted»
  refine wpAny_bind (m := checkCount "sorted" 1 1 _) (wpAny_pure ?_)
  refine wpAny_bind (collect_set (A := A.in1) hh ⟨o, ho, hex.1, hd⟩ hf hb hr hl fun s1 vs k1 hz g1 o1 pm => ?_)
  have hvl : vs.length = n := by rw [pm.length_eq, List.length_map, Array.length_toList]; exact hn
  have m1 : ∀ v ∈ vs, ∃ k : Key, keyIs k v = true ∧ S k = true := fun v hv => by
    obtain ⟨e, he, q⟩ := List.mem_map.mp (pm.mem_iff.mp hv)
    obtain ⟨⟨k, h1, _⟩, _⟩ := g e he
    exact ⟨k, by rw [← q]; exact h1, (hm k).mpr ((goodM_mem g k).mpr ⟨e, he, h1⟩)⟩
  have m2 : ∀ k, S k = true → ∃ v ∈ vs, keyIs k v = true := fun k hk => by
    obtain ⟨e, he, q⟩ := (goodM_mem g k).mp ((hm k).mp hk)
    exact ⟨e.2, pm.mem_iff.mpr (List.mem_map.mpr ⟨e, he, rfl⟩), q⟩
  have m3 : (vs.map fun v => keyM (0, v)).Nodup := by
    refine ((pm.map fun v => keyM (0, v)).nodup_iff).mpr ?_
    rw [List.map_map]
    exact nd
  refine wpAny_bind (wpAny_newList ?_ (by rw [hvl, sizeLine_eq]; omega))
  have hoL : (s1.heap.push (seqObj "list" vs.toArray 0)).get? s1.heap.objs.size = some (seqObj "list" vs.toArray 0) := Heap.get?_push_size _ rfl
  refine wpAny_bind (wpAny_holding (wpAny_call_entry slot_list_sort ⟨_, hoL, rfl⟩ entry_list_sort (hsort _ _ vs _ hvl m1 m2 hoL fun out hp => ⟨_, rfl, ?_⟩) (args_list_sort _)))
  obtain ⟨c, hc⟩ := sortedHeap_at (vs := vs) (out := out) hoL
  refine wpAny_pure ⟨_, rfl, hQ _ s1.heap.objs.size vs out c (fun b u e => ?_) g1 o1 hz hc hvl m1 m2 m3 hp⟩
  have q := k1 b u e
  have hlt := Heap.lt_size q
  show (sortedHeap (s1.heap.push (seqObj "list" vs.toArray 0)) s1.heap.objs.size vs out).get? b = some u
  rw [sortedHeap_old (Nat.ne_of_lt hlt) (by rw [size_push']; exact Nat.lt_succ_of_lt hlt)]
  exact Heap.get?_push_of_some _ q
end
end L2

set_option maxRecDepth 100000
set_option maxHeartbeats 4000000
set_option autoImplicit false
namespace PD
open PySem PySem.Spec L2 PyProof.Rows
open Evl (Ex)
/-! ### ascending lists without doubles -/
section
variable {α : Type} [DecidableEq α]
def insA (lt : α → α → Bool) (x : α) : List α → List α
  | [] => [x]
  | y :: ys => if lt x y = true then x :: y :: ys else if x = y then y :: ys else y :: insA lt x ys
def ascA (lt : α → α → Bool) (xs : List α) : List α := xs.foldr (insA lt) []
structure SLin (lt : α → α → Bool) : Prop where
  irr : ∀ x, lt x x = false
  tr : ∀ x y z, lt x y = true → lt y z = true → lt x z = true
  tot : ∀ x y, lt x y = false → lt y x = false → x = y
variable {lt : α → α → Bool}
theorem mem_insA (x z : α) : ∀ ys : List α, z ∈ insA lt x ys ↔ z = x ∨ z ∈ ys
  | [] => by unfold insA; simp
  | y :: ys => by
    unfold insA
    split
    · simp
    · split
      · rename_i h
        subst h
        simp
      · rw [List.mem_cons, mem_insA x z ys, List.mem_cons]
        constructor
        · rintro (h | h | h)
          · exact .inr (.inl h)
          · exact .inl h
          · exact .inr (.inr h)
        · rintro (h | h | h)
          · exact .inr (.inl h)
          · exact .inl h
          · exact .inr (.inr h)
theorem mem_ascA (z : α) : ∀ xs : List α, z ∈ ascA lt xs ↔ z ∈ xs
  | [] => by simp [ascA]
  | x :: xs => by
    show z ∈ insA lt x (ascA lt xs) ↔ _
    rw [mem_insA, mem_ascA z xs, List.mem_cons]
theorem insA_asc (h : SLin lt) (x : α) : ∀ {ys : List α}, ys.Pairwise (fun a b => lt a b = true) → (insA lt x ys).Pairwise fun a b => lt a b = true
  | [], _ => by unfold insA; simp
  | y :: ys, p => by
    have p0 := List.pairwise_cons.mp p
    unfold insA
    split
    · rename_i hxy
      refine List.pairwise_cons.mpr ⟨fun z hz => ?_, p⟩
      rcases List.mem_cons.mp hz with rfl | hz
      · exact hxy
      · exact h.tr _ _ _ hxy (p0.1 z hz)
    · rename_i hxy
      split
      · exact p
      · rename_i hne
        refine List.pairwise_cons.mpr ⟨fun z hz => ?_, insA_asc h x p0.2⟩
        rcases (mem_insA x z ys).mp hz with rfl | hz
        · cases q : lt y z with
          | true => rfl
          | false => exact absurd (h.tot z y (by simpa using hxy) q) hne
        · exact p0.1 z hz
theorem ascA_asc (h : SLin lt) : ∀ xs : List α, (ascA lt xs).Pairwise fun a b => lt a b = true
  | [] => List.Pairwise.nil
  | x :: xs => insA_asc h x (ascA_asc h xs)
theorem asc_uniq (h : SLin lt) : ∀ {xs ys : List α}, xs.Pairwise (fun a b => lt a b = true) → ys.Pairwise (fun a b => lt a b = true) → (∀ z, z ∈ xs ↔ z ∈ ys) → xs = ys
  | [], [], _, _, _ => rfl
  | [], y :: ys, _, _, e => by have := (e y).mpr List.mem_cons_self; simp at this
  | x :: xs, [], _, _, e => by have := (e x).mp List.mem_cons_self; simp at this
  | x :: xs, y :: ys, p, q, e => by
    have p0 := List.pairwise_cons.mp p
    have q0 := List.pairwise_cons.mp q
    have nn : ∀ a b, lt a b = true → lt b a = true → False := fun a b h1 h2 => by have := h.tr _ _ _ h1 h2; rw [h.irr] at this; cases this
    have hxy : x = y := by
      rcases List.mem_cons.mp ((e x).mp List.mem_cons_self) with r | r
      · exact r
      · rcases List.mem_cons.mp ((e y).mpr List.mem_cons_self) with r2 | r2
        · exact r2.symm
        · exact (nn _ _ (q0.1 x r) (p0.1 y r2)).elim
    subst hxy
    rw [asc_uniq h p0.2 q0.2 fun z => ?_]
    constructor
    · intro hz
      rcases List.mem_cons.mp ((e z).mp (List.mem_cons_of_mem _ hz)) with r | r
      · rw [r] at hz
        have := p0.1 x hz
        rw [h.irr] at this
        cases this
      · exact r
    · intro hz
      rcases List.mem_cons.mp ((e z).mpr (List.mem_cons_of_mem _ hz)) with r | r
      · rw [r] at hz
        have := q0.1 x hz
        rw [h.irr] at this
        cases this
      · exact r
end
def liI (a b : Int) : Bool := decide (a < b)
def liS (a b : Str) : Bool := ltCps a.cps.toList b.cps.toList
theorem slin_I : SLin liI := ⟨fun x => by simp [liI], fun x y z h1 h2 => by simp only [liI, decide_eq_true_eq] at *; omega, fun x y h1 h2 => by simp only [liI, decide_eq_false_iff_not] at *; omega⟩
theorem cps_irr : ∀ a : List Nat, ltCps a a = false
  | [] => rfl
  | a :: r => by
    show (decide (a < a) || (a == a && ltCps r r)) = false
    rw [cps_irr r]
    simp
theorem cps_tr : ∀ a b c : List Nat, ltCps a b = true → ltCps b c = true → ltCps a c = true
  | [], [], _, h, _ => by cases h
  | [], _ :: _, [], _, h => by cases h
  | [], _ :: _, _ :: _, _, _ => rfl
  | _ :: _, [], _, h, _ => by cases h
  | _ :: _, _ :: _, [], _, h => by cases h
  | a :: r, b :: s, c :: t, h1, h2 => by
    have h1 : (decide (a < b) || (a == b && ltCps r s)) = true := h1
    have h2 : (decide (b < c) || (b == c && ltCps s t)) = true := h2
    show (decide (a < c) || (a == c && ltCps r t)) = true
    simp only [Bool.or_eq_true, Bool.and_eq_true, decide_eq_true_eq, beq_iff_eq] at h1 h2 ⊢
    rcases h1 with h1 | ⟨h1, h3⟩
    · rcases h2 with h2 | ⟨h2, h4⟩
      · exact .inl (by omega)
      · exact .inl (by omega)
    · rcases h2 with h2 | ⟨h2, h4⟩
      · exact .inl (by omega)
      · exact .inr ⟨by omega, cps_tr r s t h3 h4⟩
theorem cps_tot : ∀ a b : List Nat, ltCps a b = false → ltCps b a = false → a = b
  | [], [], _, _ => rfl
  | [], _ :: _, h, _ => by cases h
  | _ :: _, [], _, h => by cases h
  | a :: r, b :: s, h1, h2 => by
    have h1 : (decide (a < b) || (a == b && ltCps r s)) = false := h1
    have h2 : (decide (b < a) || (b == a && ltCps s r)) = false := h2
    simp only [Bool.or_eq_false_iff, decide_eq_false_iff_not, Bool.and_eq_false_iff, beq_eq_false_iff_ne] at h1 h2
    have e : a = b := by omega
    subst e
    rw [cps_tot r s (h1.2.resolve_left fun z => z rfl) (h2.2.resolve_left fun z => z rfl)]
theorem slin_S : SLin liS := ⟨fun x => cps_irr _, fun x y z => cps_tr _ _ _, fun x y h1 h2 => Str.ext' (Array.toList_inj.mp (cps_tot _ _ h1 h2))⟩
theorem sortedS_pw : ∀ (p : Str) (xs : List Str), risingS p xs = true → (p :: xs).Nodup → (p :: xs).Pairwise fun a b => liS a b = true
  | p, [], _, _ => by simp
  | p, x :: r, h, nd => by
    have h : (!ltCps x.cps.toList p.cps.toList && risingS x r) = true := h
    rw [Bool.and_eq_true, Bool.not_eq_true'] at h
    have nd0 := List.nodup_cons.mp nd
    have ih := sortedS_pw x r h.2 nd0.2
    have hpx : liS p x = true := by
      cases q : liS p x with
      | true => rfl
      | false => exact absurd (slin_S.tot p x q h.1) fun z => nd0.1 (z ▸ List.mem_cons_self)
    refine List.pairwise_cons.mpr ⟨fun z hz => ?_, ih⟩
    rcases List.mem_cons.mp hz with rfl | hz
    · exact hpx
    · exact slin_S.tr _ _ _ hpx ((List.pairwise_cons.mp ih).1 z hz)
/-! ### set(x), sorted(set) -/
def SetMO (w : World) (a : Addr) (ks : List Key) : HO := .ext fun h => ∃ c, c ≤ ks.length ∧ SetM w h a (memK ks) c
theorem vals_keys : ∀ {ks : List Key} {its : List Value}, Vals (ks.map kV) its → its.length = ks.length ∧ ∀ (i : Nat) (v : Value), its[i]? = some v → ∃ k, ks[i]? = some k ∧ keyIs k v = true ∧ v.scannable = true
  | [], its, h => by
    rw [List.map_nil] at h
    cases h
    exact ⟨rfl, fun i v e => by simp at e⟩
  | k :: ks, its, h => by
    rw [List.map_cons] at h
    cases h with
    | cons h t =>
      obtain ⟨l, f⟩ := vals_keys t
      refine ⟨by rw [List.length_cons, List.length_cons, l], fun i v e => ?_⟩
      cases i with
      | succ i => exact f i v e
      | zero =>
        cases e
        cases k with
        | inl i => obtain ⟨t, rfl⟩ := h; exact ⟨_, rfl, (by simp [keyIs, Value.isInt]), rfl⟩
        | inr x => obtain ⟨t, rfl⟩ := h; exact ⟨_, rfl, (by simp [keyIs, Value.isStrOf]), rfl⟩
def rSetM (X : Cx) : List V → Hp → VK → Prop := fun vs H Q => ∃ (a : Addr) (ks : List Key), vs = [V.ref a] ∧ (SqL X.K H a (ks.map kV) ∨ SqT X.K H a (ks.map kV)) ∧ ks.length + 1 < scanBound ∧
  ∀ p, H p = none → Q (.ref p) (upd H p (SetMO X.w p ks))
section
variable {X : Cx}
theorem cr_setM (hc : X.calm = true) : CallR X (.type "set") (rSetM X) := by
  intro pins s σ H vs us Q I r h
  obtain ⟨a, ks, rfl, hs, hb, q⟩ := h
  rw [Vals.ref1 r]
  have fin : ∀ (h' : Heap) (tk c : Nat), SetM X.w h' s.heap.objs.size (memK ks) c → c ≤ ks.length → (∀ b o, s.heap.get? b = some o → h'.get? b = some o) → EP X pins σ Q (.ref s.heap.objs.size) { s with heap := h', toks := tk } := fun h' tk c hS hc hk => by
    have hn : H s.heap.objs.size = none := I.hok.fresh (Nat.le_refl _)
    refine ⟨.ref _, upd H _ (SetMO X.w _ ks), I.laid (t' := tk) hk (Nat.le_refl _) (show ObjOk X.prog X.w _ _ _ (HO.ext _) from ⟨⟨c, hc, hS⟩, ?_, fun h1 h2 ⟨c, hc, r⟩ k => ⟨c, hc, r.at k⟩⟩), rfl, q _ hn⟩
    obtain ⟨o, es, ep, t, ⟨ho, _⟩, _⟩ := hS
    exact ⟨o, ho⟩
  rcases hs with hs | hs
  · obtain ⟨its, rv, hl, _⟩ := I.list hs
    obtain ⟨z1, z2⟩ := vals_keys rv
    exact setM_list ks (I.ok.hd hc) hl.isList (by rw [List.size_toArray]; exact z1) (fun i v e => z2 i v (by rwa [List.getElem?_toArray] at e)) hb fin
  · obtain ⟨its, rv, hl, _⟩ := I.tuple hs
    obtain ⟨z1, z2⟩ := vals_keys rv
    refine setM_tuple ks (I.ok.hd hc) (show s.heap.IsTuple a its.toArray from let ⟨o, e, hc, n, hd⟩ := hl; ⟨o, e, hc, n, hd⟩) (by rw [List.size_toArray]; exact z1) (fun i v e => z2 i v (by rwa [List.getElem?_toArray] at e)) hb fin
theorem SetM_card {w : World} {h : Heap} {a : Addr} {S : Key → Bool} {n : Nat} (R : SetM w h a S n) (L : List Key) (nd : L.Nodup) (m : ∀ k, S k = true ↔ k ∈ L) : n = L.length := by
  obtain ⟨o, es, ep, t, _, ⟨_, nd2, hm⟩, ⟨_, _, hn⟩, _⟩ := R
  have p : (es.toList.map keyM).Perm L := (List.perm_ext_iff_of_nodup nd2 nd).mpr fun k => (hm k).symm.trans (m k)
  have e := p.length_eq
  rw [List.length_map, Array.length_toList, hn] at e
  exact e
theorem inl_inj {xs ys : List Int} (h : xs.map (Sum.inl : Int → Key) = ys.map Sum.inl) : xs = ys := by
  have := congrArg (List.map fun k : Key => match k with | .inl i => i | .inr _ => (0 : Int)) h
  simpa [List.map_map, Function.comp_def] using this
theorem inr_inj {xs ys : List Str} (h : xs.map (Sum.inr : Str → Key) = ys.map Sum.inr) : xs = ys := by
  have := congrArg (List.map fun k : Key => match k with | .inl _ => (⟨#[]⟩ : Str) | .inr x => x) h
  simpa [List.map_map, Function.comp_def] using this
theorem ints_keys {S : List Int} : ∀ {vs : List Value}, (∀ v ∈ vs, ∃ k : Key, keyIs k v = true ∧ memK (S.map Sum.inl) k = true) → ∃ ns : List Int, IntsAre vs ns ∧ vs.map (fun v => keyM (0, v)) = ns.map Sum.inl ∧ ∀ n ∈ ns, n ∈ S
  | [], _ => ⟨[], .nil, rfl, fun _ h => by simp at h⟩
  | v :: vs, h => by
    obtain ⟨ns, h1, h2, h3⟩ := ints_keys fun v hv => h v (List.mem_cons_of_mem _ hv)
    obtain ⟨k, e1, e2⟩ := h v List.mem_cons_self
    obtain ⟨n, hn, rfl⟩ := List.mem_map.mp (memK_iff.mp e2)
    rcases keyIs_shape e1 with ⟨i, t, z1, rfl⟩ | ⟨x, t, z1, rfl⟩
    · cases z1
      refine ⟨n :: ns, .cons n t h1, by rw [List.map_cons, List.map_cons, h2]; rfl, fun m hm => ?_⟩
      rcases List.mem_cons.mp hm with rfl | hm
      · exact hn
      · exact h3 m hm
    · cases z1
theorem strs_keys {S : List Str} : ∀ {vs : List Value}, (∀ v ∈ vs, ∃ k : Key, keyIs k v = true ∧ memK (S.map Sum.inr) k = true) → ∃ ns : List Str, StrsAre vs ns ∧ vs.map (fun v => keyM (0, v)) = ns.map Sum.inr ∧ ∀ n ∈ ns, n ∈ S
  | [], _ => ⟨[], .nil, rfl, fun _ h => by simp at h⟩
  | v :: vs, h => by
    obtain ⟨ns, h1, h2, h3⟩ := strs_keys fun v hv => h v (List.mem_cons_of_mem _ hv)
    obtain ⟨k, e1, e2⟩ := h v List.mem_cons_self
    obtain ⟨n, hn, rfl⟩ := List.mem_map.mp (memK_iff.mp e2)
    rcases keyIs_shape e1 with ⟨i, t, z1, rfl⟩ | ⟨x, t, z1, rfl⟩
    · cases z1
    · cases z1
      refine ⟨n :: ns, .cons n t h1, by rw [List.map_cons, List.map_cons, h2]; rfl, fun m hm => ?_⟩
      rcases List.mem_cons.mp hm with rfl | hm
      · exact hn
      · exact h3 m hm
theorem keyM_at {ks : List Key} {vs : List Value} {k : Key} (h : ∃ v ∈ vs, keyIs k v = true) (e : vs.map (fun v => keyM (0, v)) = ks) : k ∈ ks := by
  obtain ⟨v, hv, hk⟩ := h
  rw [← e]
  exact List.mem_map.mpr ⟨v, hv, keyM_of (e := (0, v)) hk⟩
def rSortMI (X : Cx) : List V → Hp → VK → Prop := fun vs H Q => ∃ (a : Addr) (S : List Int), vs = [V.ref a] ∧ H a = some (SetMO X.w a (S.map Sum.inl)) ∧ (ascA liI S).length < 64 ∧ ∀ p, H p = none → Q (.ref p) (upd H p (.lst ((ascA liI S).map V.int)))
def rSortMS (X : Cx) : List V → Hp → VK → Prop := fun vs H Q => ∃ (a : Addr) (S : List Str), vs = [V.ref a] ∧ H a = some (SetMO X.w a (S.map Sum.inr)) ∧ (ascA liS S).length < 64 ∧ ∀ p, H p = none → Q (.ref p) (upd H p (.lst ((ascA liS S).map V.str)))
theorem sort_end {pins : List (Addr × Obj)} {s s' : Shared} {σ : L2.St} {H : Hp} {Q : VK} (I : Inv X pins σ H s) {p : Addr} {xs : List V} {out : Array Value} {c : Nat} (k : ∀ b o, s.heap.get? b = some o → s'.heap.get? b = some o) (g : s'.gens = s.gens) (o : s'.os = s.os) (hp : s.heap.objs.size ≤ p)
    (hg : s'.heap.get? p = some (seqObj "list" out c)) (hl : xs.length ≤ sizeLine) (hv : Vals xs out.toList) (q : ∀ p, H p = none → Q (.ref p) (upd H p (.lst xs))) : EP X pins σ Q (.ref p) s' := by
  have hn : H p = none := I.hok.fresh hp
  have J : Inv X pins σ (upd H p (.lst xs)) { s with heap := s'.heap, gens := s'.gens, drawn := s'.drawn, toks := s'.toks } :=
    I.call (ch := []) (Un.laid k hp hn) (I.hok.laid k hp (show ObjOk X.prog X.w _ _ _ (HO.lst xs) from ⟨hl, out.toList, c, hv, hg⟩)) (by rw [g]; exact I.bare) (fun _ z => nomatch z)
  have e : s' = { s with heap := s'.heap, gens := s'.gens, drawn := s'.drawn, toks := s'.toks } := by
    cases s'
    cases s
    cases o
    rfl
  rw [e]
  exact ⟨.ref p, _, J, rfl, q p hn⟩
theorem cr_sortMI (hc : X.calm = true) : CallR X (.builtin "sorted") (rSortMI X) := by
  intro pins s σ H vs us Q I r h
  obtain ⟨a, S, rfl, ha, h64, q⟩ := h
  obtain ⟨⟨c0, hc0, R⟩, _⟩ := (show ObjOk X.prog X.w H s.heap a (SetMO X.w a (S.map Sum.inl)) from I.hok a _ ha)
  have hcard : c0 = (ascA liI S).length := by
    have e := SetM_card R ((ascA liI S).map Sum.inl) (List.Pairwise.map _ (fun a b h e => by cases e; rw [(slin_I).irr] at h; cases h) (ascA_asc slin_I S)) fun k => by
      rw [memK_iff, List.mem_map, List.mem_map]
      exact ⟨fun ⟨x, hx, ex⟩ => ⟨x, (mem_ascA x S).mpr hx, ex⟩, fun ⟨x, hx, ex⟩ => ⟨x, (mem_ascA x S).mp hx, ex⟩⟩
    rwa [List.length_map] at e
  rw [Vals.ref1 r]
  refine sortM R (I.ok.hd hc) (by omega) (fun vs out => ∃ ns ns' : List Int, vs.map (fun v => keyM (0, v)) = ns.map Sum.inl ∧ IntsAre out ns' ∧ ns'.Perm ns ∧ ns'.Pairwise (· ≤ ·))
    (fun s1 L vs T hl m1 _ hob hT => ?_) (fun s' p vs out c k g o hp hg hl m1 m2 nd hP => ?_)
  · obtain ⟨ns, h1, h2, h3⟩ := ints_keys m1
    exact list_sort_tree hob h1 (by omega) fun out ns' g1 g2 g3 => hT out ⟨ns, ns', h2, g1, g2, g3⟩
  · obtain ⟨ns, ns', e1, g1, g2, g3⟩ := hP
    obtain ⟨ns0, _, e2, f3⟩ := ints_keys m1
    have e0 : ns0 = ns := by
      have : ns0.map (Sum.inl : Int → Key) = ns.map Sum.inl := e2.symm.trans e1
      exact inl_inj this
    subst e0
    rw [e1] at nd
    have nd1 : ns0.Nodup := List.Pairwise.of_map _ (fun a b h e => h (congrArg _ e)) nd
    have nd2 : ns'.Nodup := g2.nodup_iff.mpr nd1
    have hasc : ns' = ascA liI S := by
      refine asc_uniq slin_I ?_ (ascA_asc slin_I S) fun z => ?_
      · refine (List.Pairwise.and g3 nd2).imp fun h => ?_
        simp only [liI, decide_eq_true_eq]
        have := h.2
        omega
      · rw [mem_ascA, g2.mem_iff]
        refine ⟨f3 z, fun hz => ?_⟩
        have := keyM_at (m2 (Sum.inl z) (memK_iff.mpr (List.mem_map.mpr ⟨z, hz, rfl⟩))) e1
        obtain ⟨y, hy, e⟩ := List.mem_map.mp this
        cases e
        exact hy
    subst hasc
    refine sort_end I k g o hp hg ?_ (vals_of_ints g1) q
    have h5 := g2.length_eq
    have h6 := congrArg List.length e1
    rw [List.length_map, List.length_map] at h6
    rw [List.length_map, h5, sizeLine_eq]
    omega
theorem cr_sortMS (hc : X.calm = true) : CallR X (.builtin "sorted") (rSortMS X) := by
  intro pins s σ H vs us Q I r h
  obtain ⟨a, S, rfl, ha, h64, q⟩ := h
  obtain ⟨⟨c0, hc0, R⟩, _⟩ := (show ObjOk X.prog X.w H s.heap a (SetMO X.w a (S.map Sum.inr)) from I.hok a _ ha)
  have hcard : c0 = (ascA liS S).length := by
    have e := SetM_card R ((ascA liS S).map Sum.inr) (List.Pairwise.map _ (fun a b h e => by cases e; rw [(slin_S).irr] at h; cases h) (ascA_asc slin_S S)) fun k => by
      rw [memK_iff, List.mem_map, List.mem_map]
      exact ⟨fun ⟨x, hx, ex⟩ => ⟨x, (mem_ascA x S).mpr hx, ex⟩, fun ⟨x, hx, ex⟩ => ⟨x, (mem_ascA x S).mp hx, ex⟩⟩
    rwa [List.length_map] at e
  rw [Vals.ref1 r]
  refine sortM R (I.ok.hd hc) (by omega) (fun vs out => ∃ ns ns' : List Str, vs.map (fun v => keyM (0, v)) = ns.map Sum.inr ∧ StrsAre out ns' ∧ ns'.Perm ns ∧ sortedS ns' = true)
    (fun s1 L vs T hl m1 _ hob hT => ?_) (fun s' p vs out c k g o hp hg hl m1 m2 nd hP => ?_)
  · obtain ⟨ns, h1, h2, h3⟩ := strs_keys m1
    refine list_sort_treeK strKind_oneLt hob h1.keysOf (fun v₁ v₂ rest e => keyKind_strs (by rw [← e]; exact h1)) (by omega) fun st' hp hs => ?_
    obtain ⟨ys, g1, g2, g3⟩ := sorted_out_str h1 hp hs
    exact hT _ ⟨ns, ys, h2, g1, g2, g3⟩
  · obtain ⟨ns, ns', e1, g1, g2, g3⟩ := hP
    obtain ⟨ns0, _, e2, f3⟩ := strs_keys m1
    have e0 : ns0 = ns := by
      have : ns0.map (Sum.inr : Str → Key) = ns.map Sum.inr := e2.symm.trans e1
      exact inr_inj this
    subst e0
    rw [e1] at nd
    have nd1 : ns0.Nodup := List.Pairwise.of_map _ (fun a b h e => h (congrArg _ e)) nd
    have nd2 : ns'.Nodup := g2.nodup_iff.mpr nd1
    have hasc : ns' = ascA liS S := by
      refine asc_uniq slin_S ?_ (ascA_asc slin_S S) fun z => ?_
      · cases ns' with
        | nil => exact List.Pairwise.nil
        | cons x r => exact sortedS_pw x r g3 nd2
      · rw [mem_ascA, g2.mem_iff]
        refine ⟨f3 z, fun hz => ?_⟩
        have := keyM_at (m2 (Sum.inr z) (memK_iff.mpr (List.mem_map.mpr ⟨z, hz, rfl⟩))) e1
        obtain ⟨y, hy, e⟩ := List.mem_map.mp this
        cases e
        exact hy
    subst hasc
    refine sort_end I k g o hp hg ?_ (vals_of_strs g1) q
    have h5 := g2.length_eq
    have h6 := congrArg List.length e1
    rw [List.length_map, List.length_map] at h6
    rw [List.length_map, h5, sizeLine_eq]
    omega
end
/-! ### sorted(set(x)) -/
def ksI : List D → Option (List Int)
  | [] => some []
  | .int i :: r => (ksI r).map (i :: ·)
  | _ => none
def ksS : List D → Option (List Str)
  | [] => some []
  | .str i :: r => (ksS r).map (i :: ·)
  | _ => none
def sortsetL (xs : List D) : Option (List D) := if xs.length < 1000 then
    match ksI xs with
    | some ns => if (ascA liI ns).length < 64 then some ((ascA liI ns).map PyData.int) else none
    | none => (ksS xs).bind fun ss => if (ascA liS ss).length < 64 then some ((ascA liS ss).map PyData.str) else none
  else none
def sortsetD : D → Option (List D)
  | .list xs => sortsetL xs
  | .tuple xs => sortsetL xs
  | _ => none
def M.sortset (f : M D) : M (List D) := M.bind f fun x => M.lift (sortsetD x)
theorem ksI_v {K : PySem.W.Frag} {H : Hp} : ∀ {vs : List V} {xs : List D} {ns : List Int}, DpAll K H vs xs → ksI xs = some ns → vs = (ns.map (Sum.inl : Int → Key)).map kV
  | _, _, ns, .nil, e => by cases e; rfl
  | _, _, ns, .cons (d := d) (ds := ds) h t, e => by
    cases d <;> first | cases e | skip
    rename_i i
    have e : (ksI ds).map (i :: ·) = some ns := e
    cases q : ksI ds with
    | none => rw [q] at e; cases e
    | some cs =>
      rw [q] at e
      cases e
      rw [h.int_of, ksI_v t q]
      rfl
theorem ksS_v {K : PySem.W.Frag} {H : Hp} : ∀ {vs : List V} {xs : List D} {ns : List Str}, DpAll K H vs xs → ksS xs = some ns → vs = (ns.map (Sum.inr : Str → Key)).map kV
  | _, _, ns, .nil, e => by cases e; rfl
  | _, _, ns, .cons (d := d) (ds := ds) h t, e => by
    cases d <;> first | cases e | skip
    rename_i i
    have e : (ksS ds).map (i :: ·) = some ns := e
    cases q : ksS ds with
    | none => rw [q] at e; cases e
    | some cs =>
      rw [q] at e
      cases e
      rw [h.str_of, ksS_v t q]
      rfl
theorem dpl_I {K : PySem.W.Frag} {H : Hp} : ∀ ns : List Int, DpAll K H (ns.map V.int) (ns.map PyData.int)
  | [] => .nil
  | n :: ns => .cons (.int n) (dpl_I ns)
theorem dpl_S {K : PySem.W.Frag} {H : Hp} : ∀ ns : List Str, DpAll K H (ns.map V.str) (ns.map PyData.str)
  | [] => .nil
  | n :: ns => .cons (.str n) (dpl_S ns)
section
variable {X : Cx} {C : Fc} {p p2 pos pos2 : Pos} {e : Expr} {f : M D}
theorem cr_sortM2 (hc : X.calm = true) : CallR X (.builtin "sorted") (fun vs H Q => rSortMI X vs H Q ∨ rSortMS X vs H Q) := fun pins s σ H vs us Q I r h => h.elim (cr_sortMI hc pins s σ H vs us Q I r) (cr_sortMS hc pins s σ H vs us Q I r)
theorem pdl_sortset (hc : X.calm = true) (hm1 : X.mg "sorted" = none) (hm2 : X.mg "set" = none) (he : PDe X C e f) (hg1 : Gl X "sorted" := by rfl) (hg2 : Gl X "set" := by rfl)
    (hs2 : starEach [e] X.env = (false, eval e X.env) :: starEach [] X.env := by rfl) (hs1 : starEach [.Call (.Name "set" p2) [e] [] pos2] X.env = (false, eval (.Call (.Name "set" p2) [e] [] pos2) X.env) :: starEach [] X.env := by rfl)
    (hp1 : (backTo pos (starEach [] X.env)).any (·.1) = false := by rfl) (hp2 : (backTo pos2 (starEach [] X.env)).any (·.1) = false := by rfl) : PDl X C (.Call (.Name "sorted" p) [.Call (.Name "set" p2) [e] [] pos2] [] pos) (M.sortset f) :=
  pe_imp (pe_callB (cr_sortM2 hc) hg1 hm1 (by decide +kernel) (pa_cons (pe_callTy (cr_setM hc) hg2 hm2 (by decide +kernel) (pa_cons he pa_nil hs2) (by decide) (by decide) hs2 hp2) pa_nil hs1) (by decide) (by decide) hs1 hp1) fun σ H Q ⟨Hf, ρ, s, h⟩ => by
    refine tG_bind s h fun v x H1 Hf1 ρ1 e1 s1 d1 h1 => ?_
    obtain ⟨z, hz, h2⟩ := h1.lift
    have fin : ∀ (a : Addr) (us : List V) (xs : List D), v = .ref a → DpAll X.K Hf1 us xs → (SqL X.K H1 a us ∨ SqT X.K H1 a us) → sortsetL xs = some z → rSetM X [v] H1 fun w H2 => rSortMI X [w] H2 Q ∨ rSortMS X [w] H2 Q := fun a us xs ev d hs hz => by
      subst ev
      unfold sortsetL at hz
      split at hz
      case isFalse => cases hz
      rename_i hl
      have hsb : ∀ n : Nat, n < 1000 → n + 1 < scanBound := fun n hn => by unfold scanBound; omega
      cases q : ksI xs with
      | some ns =>
        rw [q] at hz
        simp only at hz
        split at hz
        case isFalse => cases hz
        rename_i ha60
        cases hz
        have e0 := ksI_v d q
        have el : ns.length = xs.length := by
          have := d.length
          rw [e0, List.length_map, List.length_map] at this
          exact this
        rw [e0] at hs
        refine ⟨a, ns.map Sum.inl, rfl, hs, by rw [List.length_map]; exact hsb _ (by omega), fun p1 hp1 => .inl ⟨p1, ns, rfl, upd_same, by omega, fun p2 hp2 => ?_⟩⟩
        have s2 := s1.grow (Grow.mine (o := SetMO X.w p1 (ns.map Sum.inl)) s1.e1 hp1)
        exact PostG.nowG (b := V.ref p2) h2 s2 (Grow.mine (o := .lst ((ascA liI ns).map V.int)) s2.e1 hp2) (s2.newL hp2 (dpl_I _))
      | none =>
        rw [q] at hz
        cases q2 : ksS xs with
        | none => rw [q2] at hz; cases hz
        | some ss =>
          rw [q2] at hz
          simp only [Option.bind_some] at hz
          split at hz
          case isFalse => cases hz
          rename_i ha60
          cases hz
          have e0 := ksS_v d q2
          have el : ss.length = xs.length := by
            have := d.length
            rw [e0, List.length_map, List.length_map] at this
            exact this
          rw [e0] at hs
          refine ⟨a, ss.map Sum.inr, rfl, hs, by rw [List.length_map]; exact hsb _ (by omega), fun p1 hp1 => .inr ⟨p1, ss, rfl, upd_same, by omega, fun p2 hp2 => ?_⟩⟩
          have s2 := s1.grow (Grow.mine (o := SetMO X.w p1 (ss.map Sum.inr)) s1.e1 hp1)
          exact PostG.nowG (b := V.ref p2) h2 s2 (Grow.mine (o := .lst ((ascA liS ss).map V.str)) s2.e1 hp2) (s2.newL hp2 (dpl_S _))
    cases x <;> first | cases hz | skip
    · obtain ⟨a, us, rfl, g1, g2⟩ := Dp.list_of d1
      exact fin a us _ rfl g2 (.inl (Evl.ex_l s1.e1 g1)) hz
    · obtain ⟨a, us, rfl, g1, g2⟩ := Dp.tup_of d1
      exact fin a us _ rfl g2 (.inr (Evl.ex_t s1.e1 g1)) hz
end
/-! ### t.index(x), t a known tuple of texts -/
def TupK (K : PySem.W.Frag) (u : Value) : Prop := ∃ a o, u = .ref a ∧ K.lookup a = some o ∧ o.cls = .type "tuple" ∧ o.dict = none
theorem tupk {K : PySem.W.Frag} {a : Addr} {its : Array Value} {n : Nat} {sl : Array (Option Value)} (h : K.lookup a = some ⟨.type "tuple", none, .seq its n, sl⟩) : TupK K (.ref a) := ⟨a, _, rfl, h, rfl, rfl⟩
def firstS (z : Str) : List Str → Option Nat
  | [] => none
  | y :: ys => if y = z then some 0 else (firstS z ys).map (· + 1)
theorem firstS_ok {z : Str} : ∀ {ys : List Str} {j : Nat}, firstS z ys = some j → ys[j]? = some z ∧ ∀ m, m < j → ys[m]? ≠ some z
  | [], _, h => by cases h
  | y :: ys, j, h => by
    unfold firstS at h
    split at h
    · rename_i e
      cases h
      exact ⟨by rw [e]; rfl, fun m hm => absurd hm (Nat.not_lt_zero _)⟩
    · rename_i e
      cases q : firstS z ys with
      | none => rw [q] at h; cases h
      | some k =>
        rw [q] at h
        cases h
        obtain ⟨h1, h2⟩ := firstS_ok q
        refine ⟨h1, fun m hm => ?_⟩
        cases m with
        | zero => exact fun z => e (Option.some.inj z)
        | succ m => exact h2 m (Nat.lt_of_succ_lt_succ hm)
def tidxD : D → D → Option D
  | .tuple xs, .str z => (ksS xs).bind fun ss => (firstS z ss).map fun j => .int (j : Nat)
  | _, _ => none
theorem tidxD_some {d x z : D} (h : tidxD d x = some z) : ∃ (xs : List D) (zz : Str) (ss : List Str) (j : Nat), d = .tuple xs ∧ x = .str zz ∧ ksS xs = some ss ∧ firstS zz ss = some j ∧ z = .int (j : Int) := by
  cases d <;> first | (cases h; done) | skip
  cases x <;> first | (cases h; done) | skip
  rename_i xs zz
  have h : ((ksS xs).bind fun ss => (firstS zz ss).map fun j => (PyData.int (j : Nat) : D)) = some z := h
  cases q : ksS xs with
  | none => rw [q] at h; cases h
  | some ss =>
    rw [q] at h
    simp only [Option.bind_some] at h
    cases q2 : firstS zz ss with
    | none => rw [q2] at h; cases h
    | some j =>
      rw [q2] at h
      cases h
      exact ⟨xs, zz, ss, j, rfl, rfl, q, q2, rfl⟩
def M.tidx (d : D) (f : M D) : M D := M.bind f fun z => M.lift (tidxD d z)
section
variable {X : Cx} {C : Fc} {e : Expr} {f : M D}
theorem pd_tidx {x : Str} {px apos cpos : Pos} {u : Value} {d : D} (hm : X.mg x = some u) (hk : TupK X.K u) (hr : ∃ v, RelV v u ∧ ∀ H, Dp X.K H v d) (he : PDe X C e f) (hg : Gl X x := by rfl) (hdb : (x == ("__debug__" : Str)) = false := by decide)
    (hbase : attributeBase (.Name x px) "index" X.env (eval (.Name x px) X.env) = eval (.Name x px) X.env := by rfl)
    (hfew : ((backTo cpos (starEach [e] X.env)).all (fun x => !x.1) && (backToKw cpos (keywordEach [] X.env)).all (fun x => x.1.isSome)
      && decide ([e].length + ([] : List Keyword).length + (if ([] : List Keyword).isEmpty then 0 else 1) < 30)) = true := by rfl)
    (hline : (apos.endLine == cpos.line) = true := by rfl) (hs : starEach [e] X.env = (false, eval e X.env) :: starEach [] X.env := by rfl) (hplain : (backTo cpos (starEach [] X.env)).any (·.1) = false := by rfl) :
    PDe X C (.Call (.Attribute (.Name x px) "index" apos) [e] [] cpos) (M.tidx d f) := by
  obtain ⟨v, r, hd⟩ := hr
  refine pe_imp (pe_bm F.plainAttrs_tuple F.slot_tuple_index F.type_tuple_index mt_tup_index (pe_glob hg hm r hdb) (pa_cons he pa_nil hs) hbase hfew hline hs hplain) fun σ H Q ⟨Hf, ρ, s, h⟩ => ?_
  obtain ⟨a, o, ea, hl, hc, hn⟩ := hk
  have tv : tyV X.K "tuple" v H ∧ ∃ b, v = .ref b := by
    subst ea
    cases v <;> first | (cases r; exact ⟨.inr (.inl ⟨rfl, o, hl, hc, hn⟩), _, rfl⟩) | (obtain ⟨_, r⟩ := r; cases r) | cases r
  refine ⟨tv.1, tG_bind s h fun w y H1 Hf1 ρ1 e1 s1 d1 h1 => ?_⟩
  obtain ⟨z, hz, h2⟩ := h1.lift
  obtain ⟨xs, zz, ss, j, ed, rfl, q, q2, rfl⟩ := tidxD_some hz
  subst ed
  obtain ⟨p, us, rfl, g1, g2⟩ := Dp.tup_of (hd H1)
  have e0 := ksS_v g2 q
  have e3 : (ss.map (Sum.inr : Str → Key)).map kV = ss.map V.str := by rw [List.map_map]; rfl
  rw [e0, e3] at g1
  obtain ⟨z1, z2⟩ := firstS_ok q2
  exact ⟨p, ss, zz, j, rfl, by rw [Dp.str_of d1], g1, z1, z2, PostG.now h2 s1 (.int _)⟩
end
end PD

set_option maxRecDepth 100000
set_option maxHeartbeats 4000000
set_option autoImplicit false
namespace L2
open PySem PySem.Spec PyProof.Rows
/-! ### list(zip(xs, ys)): the iterators stand at n0, n0 + 1, the zip at n0 + 4, the list at n0 + 5, the pairs behind -/
theorem zl_no_len : typeLookup (.type "zip") "__len__" = pure none := am_miss_of_fast (by decide +kernel)
theorem zl_no_hint : typeLookup (.type "zip") "__length_hint__" = pure none := am_miss_of_fast (by decide +kernel)
structure ZlB (h : Heap) (n0 l1 l2 i : Nat) (xs ys : Array Value) : Prop where
  ti : IsPair h (n0 + 2) (.ref n0) (.ref (n0 + 1))
  j1 : h.IsListIter n0 l1 i
  j2 : h.IsListIter (n0 + 1) l2 i
  q1 : h.IsList l1 xs
  q2 : h.IsList l2 ys
  zz : (i = 0 ∧ IsZip h (n0 + 4) (n0 + 2) (n0 + 3) .none ∧ ∃ a b, IsPair h (n0 + 3) a b) ∨ ∃ (T : Addr) (f : Bool) (oT : Obj), IsZipHeld h (n0 + 4) (n0 + 2) (n0 + 3) T f ∧ h.get? T = some oT ∧ n0 + 5 < T
/-- the pairs so far -/
structure ZlG (h : Heap) (n0 : Nat) (xs ys : Array Value) (as : List Addr) : Prop where
  rise : as.Pairwise (· < ·)
  above : ∀ a ∈ as, n0 + 5 < a
  pairs : ∀ (j : Nat) (a : Addr), as[j]? = some a → ∃ x y, xs[j]? = some x ∧ ys[j]? = some y ∧ IsPair h a x y
theorem zl_in {c n0 : Nat} (h : c < n0 ∨ n0 + 4 < c) : c < n0 ∨ c = n0 + 2 ∨ n0 + 4 < c := h.elim .inl fun h => .inr (.inr h)
theorem zl_ne4 {c n0 : Nat} (h : c < n0 ∨ c = n0 + 2 ∨ n0 + 4 < c) : c ≠ n0 + 4 := by omega
theorem zl_ne3 {c n0 : Nat} (h : c < n0 ∨ c = n0 + 2 ∨ n0 + 4 < c) : c ≠ n0 + 3 := by omega
theorem zl_ne0 {c n0 : Nat} (h : c < n0 ∨ c = n0 + 2 ∨ n0 + 4 < c) : c ≠ n0 := by omega
theorem zl_ne1 {c n0 : Nat} (h : c < n0 ∨ c = n0 + 2 ∨ n0 + 4 < c) : c ≠ n0 + 1 := by omega
theorem ZlB.up {h h' : Heap} {n0 l1 l2 i : Nat} {xs ys : Array Value} (B : ZlB h n0 l1 l2 i xs ys) (b1 : l1 < n0) (b2 : l2 < n0) (k : ∀ b o, b ≠ n0 + 5 → h.get? b = some o → h'.get? b = some o) : ZlB h' n0 l1 l2 i xs ys where
  ti := k _ _ (by omega) B.ti
  j1 := B.j1.at fun o e => k _ o (by omega) e
  j2 := B.j2.at fun o e => k _ o (by omega) e
  q1 := B.q1.at fun o e => k _ o (by omega) e
  q2 := B.q2.at fun o e => k _ o (by omega) e
  zz := by
    rcases B.zz with ⟨e, z, a, b, t⟩ | ⟨T, f, oT, z, t, l⟩
    · exact .inl ⟨e, k _ _ (by omega) z, a, b, k _ _ (by omega) t⟩
    · exact .inr ⟨T, f, oT, k _ _ (by omega) z, k _ _ (by omega) t, l⟩
section
variable {P : Program} {w : World} {A : Around} {E : Value → Shared → Prop} {s : Shared} {n0 l1 l2 : Nat} {xs ys : Array Value}
theorem zl_item {i : Nat} {x y : Value} {Q : Option Value → Shared → Prop} (B : ZlB s.heap n0 l1 l2 i xs ys) (b1 : l1 < n0) (b2 : l2 < n0) (hb : n0 + 5 < s.heap.objs.size) (hx : xs[i]? = some x) (hy : ys[i]? = some y)
    (hQ : ∀ h', ZlB h' n0 l1 l2 (i + 1) xs ys → IsPair h' s.heap.objs.size x y → h'.objs.size = s.heap.objs.size + 1 → (∀ c o, (c < n0 ∨ n0 + 4 < c) → s.heap.get? c = some o → h'.get? c = some o) → Q (some (.ref s.heap.objs.size)) { s with heap := h' }) :
    wpAny (model P w) A (pyNext (.ref (n0 + 4))) Q E s := by
  have D := PySem.W.ktu_apart n0 l1 l2 b1 b2
  rcases B.zz with ⟨e, z, a, b, t⟩ | ⟨T, f, oT, z, t, l⟩
  · refine wpAny_pyNext_zip_item D z B.ti t B.j1 B.j2 B.q1 B.q2 hx hy fun h' z1 _ g1 g2 g3 g4 k => ?_
    have kk : ∀ c o, (c < n0 ∨ c = n0 + 2 ∨ n0 + 4 < c) → s.heap.get? c = some o → h'.get? c = some o := fun c o hc e => k c o (zl_ne4 hc) (zl_ne3 hc) (zl_ne0 hc) (zl_ne1 hc) e
    exact hQ h' ⟨kk _ _ (by omega) B.ti, g1, g2, B.q1.at fun o e => kk _ o (by omega) e, B.q2.at fun o e => kk _ o (by omega) e, .inr ⟨_, false, _, z1, g3, hb⟩⟩ g3 g4 fun c o hc e => kk c o (by omega) e
  · refine wpAny_pyNext_zip_item_held D z t B.ti B.j1 B.j2 B.q1 B.q2 hx hy fun h' z1 g1 g2 g3 g4 k => ?_
    have kk : ∀ c o, (c < n0 ∨ c = n0 + 2 ∨ n0 + 4 < c) → s.heap.get? c = some o → h'.get? c = some o := fun c o hc e => k c o (zl_ne4 hc) (zl_ne0 hc) (zl_ne1 hc) e
    exact hQ h' ⟨kk _ _ (by omega) B.ti, g1, g2, B.q1.at fun o e => kk _ o (by omega) e, B.q2.at fun o e => kk _ o (by omega) e, .inr ⟨T, true, oT, z1, kk _ _ (by omega) t, l⟩⟩ g3 g4 fun c o hc e => kk c o (by omega) e
theorem zl_done {i : Nat} {Q : Option Value → Shared → Prop} (hh : A.handled = none) (B : ZlB s.heap n0 l1 l2 i xs ys) (b1 : l1 < n0) (b2 : l2 < n0) (he : xs[i]? = none ∨ ys[i]? = none)
    (hQ : ∀ h', (∀ c o, (c < n0 ∨ n0 + 4 < c) → s.heap.get? c = some o → h'.get? c = some o) → Q none { s with heap := h' }) : wpAny (model P w) A (pyNext (.ref (n0 + 4))) Q E s := by
  have D := PySem.W.ktu_apart n0 l1 l2 b1 b2
  rcases B.zz with ⟨e, z, a, b, t⟩ | ⟨T, f, oT, z, t, l⟩
  · exact wpAny_pyNext_zip_end hh D z B.ti t B.j1 B.j2 B.q1 B.q2 he fun h' k => hQ h' fun c o hc e => k c o (zl_ne4 (zl_in hc)) (zl_ne3 (zl_in hc)) (zl_ne0 (zl_in hc)) (zl_ne1 (zl_in hc)) e
  · exact wpAny_pyNext_zip_end_held hh D z t B.ti B.j1 B.j2 B.q1 B.q2 he fun h' k => hQ h' fun c o hc e => k c o (zl_ne4 (zl_in hc)) (zl_ne0 (zl_in hc)) (zl_ne1 (zl_in hc)) e
theorem zl_loop {R : Result → Shared → Prop} (hh : A.handled = none) (b1 : l1 < n0) (b2 : l2 < n0) {n : Nat} (hn : n ≤ sizeLine) (hi : ∀ i, i < n → ∃ x y, xs[i]? = some x ∧ ys[i]? = some y) (he : xs[n]? = none ∨ ys[n]? = none) (res : Value) {h₁ : Heap}
    (hR : ∀ h' tk acc c as, (∀ b o, b < n0 → h₁.get? b = some o → h'.get? b = some o) → h'.get? (n0 + 5) = some { cls := .type "list", dict := none, data := .seq acc c, slots := #[] } → as.length = n → ZlG h' n0 xs ys as → acc.toList = as.map Value.ref →
      R (.ok (.ret res)) { s with heap := h', toks := tk }) :
    ∀ (k i : Nat) (h : Heap) (tk c : Nat) (acc : Array Value) (as : List Addr), n - i = k → i ≤ n → ZlB h n0 l1 l2 i xs ys → (∀ b o, b < n0 → h₁.get? b = some o → h.get? b = some o) → h.get? (n0 + 5) = some { cls := .type "list", dict := none, data := .seq acc c, slots := #[] } →
      acc.toList = as.map Value.ref → as.length = i → ZlG h n0 xs ys as → codeAny (model P w) A (.builtin "list.extend.loop" ⟨[.ref (n0 + 5), .ref (n0 + 4), res], []⟩) R { s with heap := h, toks := tk } := by
  intro k
  induction k with
  | zero =>
    intro i h tk c acc as hk hin B kp hS ha hl G
    have e0 : i = n := by omega
    subst e0
    refine codeAny_builtin F.entry_extend_loop ?_
    rw [Around.under_plainId F.plain_extend_loop _]
    show wpAny _ A.in1 (pyNext (.ref (n0 + 4)) >>= _) _ _ _
    refine wpAny_bind (zl_done (s := { s with heap := h, toks := tk }) (A := A.in1) hh B b1 b2 he fun h' k => wpAny_pure (hR h' tk acc c as (fun b o hb e => k b o (.inl hb) (kp b o hb e)) (k _ _ (.inr (by omega)) hS) hl ⟨G.rise, G.above, fun j a hj => ?_⟩ ha))
    obtain ⟨x, y, f1, f2, f3⟩ := G.pairs j a hj
    exact ⟨x, y, f1, f2, k a _ (.inr (by have := G.above a (List.mem_of_getElem? hj); omega)) f3⟩
  | succ k ih =>
    intro i h tk c acc as hk hin B kp hS ha hl G
    obtain ⟨x, y, hx, hy⟩ := hi i (by omega)
    have hsz : acc.size = i := by rw [← Array.length_toList, ha, List.length_map, hl]
    have hb : n0 + 5 < h.objs.size := Heap.lt_size hS
    refine codeAny_builtin F.entry_extend_loop ?_
    rw [Around.under_plainId F.plain_extend_loop _]
    show wpAny _ A.in1 (pyNext (.ref (n0 + 4)) >>= _) _ _ _
    refine wpAny_bind (zl_item (s := { s with heap := h, toks := tk }) B b1 b2 hb hx hy fun h' B' t' z' k' => ?_)
    have t' : IsPair h' h.objs.size x y := t'
    have hS' := k' _ _ (.inr (by omega)) hS
    have up : ∀ b o, b ≠ n0 + 5 → h'.get? b = some o → (h'.update (n0 + 5) (Obj.mapSeq (·.push (Value.ref h.objs.size)))).get? b = some o := fun b o hne e => (Heap.get?_update_other _ _ (Ne.symm hne)).trans e
    show wpAny _ A.in1 (updateSeq (n0 + 5) (·.push (Value.ref h.objs.size)) >>= _) _ _ _
    refine wpAny_bind (wpAny_updateSeq hS' rfl (wpAny_pure ⟨plainId_quiet F.plain_extend_loop _, ih (i + 1) _ tk _ (acc.push (Value.ref h.objs.size)) (as ++ [h.objs.size]) (by omega) (by omega) (B'.up b1 b2 up) (fun b o hlt e => up b o (by omega) (k' b o (.inl hlt) (kp b o hlt e)))
      (Heap.get?_update_self _ hS' rfl) (by rw [Array.toList_push, ha, List.map_append]; rfl) (by rw [List.length_append, hl]; rfl) ⟨?_, ?_, ?_⟩⟩) (by rw [hsz]; omega) (by show (acc.push (Value.ref h.objs.size)).size ≤ sizeLine + 1; rw [Array.size_push, hsz]; omega))
    · refine List.pairwise_append.mpr ⟨G.rise, List.pairwise_singleton _ _, fun a ha b hb => ?_⟩
      rw [List.mem_singleton.mp hb]
      obtain ⟨j, hj⟩ := List.mem_iff_getElem?.mp ha
      obtain ⟨_, _, _, _, e⟩ := G.pairs j a hj
      exact Heap.lt_size e
    · intro a ha
      rcases List.mem_append.mp ha with ha | ha
      · exact G.above a ha
      · rw [List.mem_singleton.mp ha]; exact hb
    · intro j a hj
      by_cases h1 : j < as.length
      · rw [List.getElem?_append_left h1] at hj
        obtain ⟨x', y', f1, f2, f3⟩ := G.pairs j a hj
        have ga := G.above a (List.mem_of_getElem? hj)
        exact ⟨x', y', f1, f2, up a _ (by omega) (k' a _ (.inr (by omega)) f3)⟩
      · rw [List.getElem?_append_right (by omega)] at hj
        have hj0 : j - as.length = 0 := by
          cases q : j - as.length with
          | zero => rfl
          | succ m => rw [q] at hj; simp at hj
        rw [hj0] at hj
        cases hj
        have ej : j = i := by omega
        subst ej
        exact ⟨x, y, hx, hy, up _ _ (by omega) t'⟩
theorem zl_extend {R : Result → Shared → Prop} (hh : A.handled = none) (b1 : l1 < n0) (b2 : l2 < n0) {n : Nat} (hn : n ≤ sizeLine) (hi : ∀ i, i < n → ∃ x y, xs[i]? = some x ∧ ys[i]? = some y) (he : xs[n]? = none ∨ ys[n]? = none) (res : Value) (c₀ : Nat)
    (B : ZlB s.heap n0 l1 l2 0 xs ys) (hz : IsZip s.heap (n0 + 4) (n0 + 2) (n0 + 3) .none) (hS : s.heap.get? (n0 + 5) = some { cls := .type "list", data := .seq #[] c₀ })
    (hR : ∀ h' tk acc c as, (∀ b o, b < n0 → s.heap.get? b = some o → h'.get? b = some o) → h'.get? (n0 + 5) = some { cls := .type "list", dict := none, data := .seq acc c, slots := #[] } → as.length = n → ZlG h' n0 xs ys as → acc.toList = as.map Value.ref →
      R (.ok (.ret res)) { s with heap := h', toks := tk }) :
    wpAny (model P w) A.in1 (Builtin.List.listExtendWith (.ref (n0 + 5)) (.ref (n0 + 4)) res)
      (fun fin s' => match fin with | .done f => R (.ok f) s' | .again c' => c'.quiet = true ∧ codeAny (model P w) A c' R s') (fun e s' => R (.error e) s') s := by
  have hT : s.TypeIs (.ref (n0 + 4)) "zip" := ⟨_, hz, rfl⟩
  unfold Builtin.List.listExtendWith
  refine wpAny_bind (wpAny_typeOf hT ?_)
  have h1 : Builtin.List.listSameRef (.ref (n0 + 5)) (.ref (n0 + 4)) = false := by simp [Builtin.List.listSameRef]
  have h2 : (Value.type "zip" == Value.type "list") = false := by decide
  have h3 : (Value.type "zip" == Value.type "tuple") = false := by decide
  simp only [h1, h2, h3, Bool.or_false, Bool.false_eq_true, if_false]
  refine wpAny_bind (wpAny_pyIter_zip hz ?_)
  refine wpAny_bind (wpAny_holding ?_)
  unfold Builtin.List.listLengthHint
  refine wpAny_bind (wpAny_specialOf hT zl_no_len ?_)
  show wpAny _ A.in1 (specialOf (Value.ref (n0 + 4)) (Str.ofString "__length_hint__") >>= _) _ _ _
  refine wpAny_bind (wpAny_specialOf hT zl_no_hint (wpAny_pure ?_))
  show wpAny _ A.in1 (rule "list.extend.makes-room" >>= fun _ => Builtin.List.listTouch (.ref (n0 + 5)) >>= fun _ => again (.builtin "list.extend.loop" ⟨[.ref (n0 + 5), .ref (n0 + 4), res], []⟩)) _ _ _
  refine wpAny_bind (wpAny_rule (wpAny_bind ?_))
  show wpAny _ A.in1 (updateSeq (n0 + 5) (·.push .none) >>= fun _ => updateSeq (n0 + 5) (·.pop)) _ _ _
  refine wpAny_bind (wpAny_updateSeq hS rfl ?_)
  have hS₂ := Heap.get?_update_self (Obj.mapSeq (·.push Value.none)) hS rfl
  refine wpAny_updateSeq (hz := by seq_fits) hS₂ rfl ?_
  have hS₃ := Heap.get?_update_self (Obj.mapSeq (·.pop)) hS₂ rfl
  have oth : ∀ b o, b ≠ n0 + 5 → s.heap.get? b = some o → ((s.heap.update (n0 + 5) (Obj.mapSeq (·.push Value.none))).update (n0 + 5) (Obj.mapSeq (·.pop))).get? b = some o :=
    fun b o hb e => (Heap.get?_update_other _ _ (Ne.symm hb)).trans ((Heap.get?_update_other _ _ (Ne.symm hb)).trans e)
  exact wpAny_pure ⟨plainId_quiet F.plain_extend_loop _, zl_loop (s := s) (h₁ := s.heap) hh b1 b2 hn hi he res hR n 0 _ s.toks _ #[] [] rfl (Nat.zero_le _) (B.up b1 b2 oth) (fun b o hb e => oth b o (by omega) e) hS₃ rfl rfl ⟨List.Pairwise.nil, fun _ h => by simp at h, fun j a hj => by simp at hj⟩⟩
/-- list of a zip of two lists -/
theorem zl_call {Q : Value → Shared → Prop} (hh : A.handled = none) (b1 : l1 < n0) (b2 : l2 < n0) {n : Nat} (hn : n ≤ sizeLine) (hi : ∀ i, i < n → ∃ x y, xs[i]? = some x ∧ ys[i]? = some y) (he : xs[n]? = none ∨ ys[n]? = none)
    (B : ZlB s.heap n0 l1 l2 0 xs ys) (hz : IsZip s.heap (n0 + 4) (n0 + 2) (n0 + 3) .none) (hs : s.heap.objs.size = n0 + 5)
    (hQ : ∀ h' tk acc c as, (∀ b o, b < n0 → s.heap.get? b = some o → h'.get? b = some o) → h'.get? (n0 + 5) = some { cls := .type "list", dict := none, data := .seq acc c, slots := #[] } → as.length = n → ZlG h' n0 xs ys as → acc.toList = as.map Value.ref →
      Q (.ref (n0 + 5)) { s with heap := h', toks := tk }) :
    wpAny (model P w) A (call (.type "list") [.ref (n0 + 4)]) Q E s := by
  refine callType_codes (Q₁ := fun obj s₁ => obj = .ref s.heap.objs.size ∧ s₁ = { s with heap := s.heap.push { cls := .type "list", data := .seq #[] } }) F.called_list (F.typeCall_list_1 _) F.entry_list_init
    (code_list_new _ ⟨rfl, rfl⟩) fun obj s₁ h₁ => ?_
  obtain ⟨rfl, rfl⟩ := h₁
  rw [hs]
  have hS : (s.heap.push { cls := .type "list", data := .seq #[] }).get? (n0 + 5) = some { cls := .type "list", data := .seq #[] } := by rw [← hs]; exact Heap.get?_push_size _ rfl
  have pu : ∀ b o, s.heap.get? b = some o → (s.heap.push { cls := .type "list", data := .seq #[] }).get? b = some o := fun b o e => Heap.get?_push_of_some _ e
  refine ⟨⟨_, hS, rfl⟩, F.args_list_init_2 _ _, ?_⟩
  show wpAny _ A.in1.in1 (do let old ← Builtin.List.listItems (.ref (n0 + 5)); Builtin.List.listUpdate (.ref (n0 + 5)) (fun _ => #[]); letGo old.toList.reverse; Builtin.List.listExtendWith (.ref (n0 + 5)) (.ref (n0 + 4)) .none) _ _ _
  refine wpAny_bind ?_
  unfold Builtin.List.listItems
  refine wpAny_bind (wpAny_seqItems hS rfl (wpAny_pure ?_))
  show wpAny _ A.in1.in1 (updateSeq (n0 + 5) (fun _ => #[]) >>= fun _ => letGo (#[] : Array Value).toList.reverse >>= fun _ => Builtin.List.listExtendWith (.ref (n0 + 5)) (.ref (n0 + 4)) .none) _ _ _
  refine wpAny_bind (wpAny_updateSeq hS rfl ?_)
  have hS₂ := Heap.get?_update_self (Obj.mapSeq (fun _ => (#[] : Array Value))) hS rfl
  have oth : ∀ b o, b ≠ n0 + 5 → s.heap.get? b = some o → ((s.heap.push { cls := .type "list", data := .seq #[] }).update (n0 + 5) (Obj.mapSeq (fun _ => (#[] : Array Value)))).get? b = some o := fun b o hb e => (Heap.get?_update_other _ _ (Ne.symm hb)).trans (pu b o e)
  refine wpAny_bind (wpAny_letGo ?_)
  exact zl_extend (s := { s with heap := (s.heap.push { cls := .type "list", data := .seq #[] }).update (n0 + 5) (Obj.mapSeq (fun _ => (#[] : Array Value))) }) (A := A.in1) hh b1 b2 hn hi he .none _ (B.up b1 b2 oth) (oth _ _ (by omega) hz) hS₂ fun h' tk acc c as k g1 g2 g3 g4 => ⟨rfl, hQ h' tk acc c as (fun b o hb e => k b o hb (oth b o (by omega) e)) g1 g2 g3 g4⟩
end
end L2
namespace PD
open PySem PySem.Spec L2
open Evl (Ex)
def lzT : Hp → List Addr → List (V × V) → Hp
  | H, a :: as, p :: ps => lzT (upd H a (.tup [p.1, p.2])) as ps
  | H, _, _ => H
theorem lzT_out : ∀ (as : List Addr) (ps : List (V × V)) (H : Hp) {c : Addr}, c ∉ as → lzT H as ps c = H c
  | [], _, _, _, _ => rfl
  | _ :: _, [], _, _, _ => rfl
  | a :: as, p :: ps, H, c, h => by
    show lzT (upd H a (.tup [p.1, p.2])) as ps c = H c
    rw [lzT_out as ps _ fun z => h (List.mem_cons_of_mem _ z), upd_ne (fun z => h (by rw [z]; exact List.mem_cons_self))]
def tLZ (X : Cx) (ta : TA) : TE := fun σ H Q => ta σ H fun vs H1 => ∃ (a b : Addr) (xs ys : List V), vs = [.ref a, .ref b] ∧ SqL X.K H1 a xs ∧ SqL X.K H1 b ys ∧ ∀ (L : Addr) (as : List Addr), as.length = (xs.zip ys).length → as.Nodup → (∀ c ∈ as, H1 c = none ∧ L ≠ c) → H1 L = none →
  Q (.ref L) (upd (lzT H1 as (xs.zip ys)) L (.lst (as.map V.ref)))
section
variable {X : Cx} {pins : List (Addr × Obj)} {σ : L2.St} {s1 : Shared} {H0 : Hp} {h2 : Heap} {tk : Nat}
theorem lzAll (I1 : Inv X pins σ H0 s1) : ∀ (as : List Addr) (ps : List (V × V)) (H : Hp), Inv X pins σ H { s1 with heap := h2, toks := tk } → as.Nodup → (∀ a ∈ as, s1.heap.objs.size ≤ a ∧ H a = none) →
    (∀ (j : Nat) (a : Addr) (p : V × V), as[j]? = some a → ps[j]? = some p → ∃ x y, RelV p.1 x ∧ RelV p.2 y ∧ IsPair h2 a x y) → Inv X pins σ (lzT H as ps) { s1 with heap := h2, toks := tk }
  | [], _, _, J, _, _, _ => J
  | _ :: _, [], _, J, _, _, _ => J
  | a :: as, p :: ps, H, J, nd, hn, hp => by
    have nd0 := List.nodup_cons.mp nd
    obtain ⟨x, y, r1, r2, e⟩ := hp 0 a p rfl rfl
    have J2 : Inv X pins σ (upd H a (.tup [p.1, p.2])) { s1 with heap := h2, toks := tk } :=
      J.take (h' := h2) (t' := tk) (fun b ob _ e => e) (I1.fpOk (hn a List.mem_cons_self).1 (hn a List.mem_cons_self).2) (show ObjOk X.prog X.w _ h2 a (.tup [p.1, p.2]) from ⟨by rw [sizeLine_eq]; show 2 ≤ 16777216; decide, [x, y], .cons r1 (.cons r2 .nil), _, e, rfl, 0, rfl⟩)
    refine lzAll I1 as ps _ J2 nd0.2 (fun c hc => ⟨(hn c (List.mem_cons_of_mem _ hc)).1, ?_⟩) fun j c q hj hq => hp (j + 1) c q hj hq
    rw [upd_ne (fun z => nd0.1 (by rw [← z]; exact hc))]
    exact (hn c (List.mem_cons_of_mem _ hc)).2
theorem pe_listzip {ta : TA} {p p2 pos pos2 : Pos} {e e2 : Expr} (hc : X.calm = true) (hm1 : X.mg "list" = none) (hm2 : X.mg "zip" = none) (ha : PA X [e, e2] ta) (hg1 : Gl X "list" := by rfl) (hg2 : Gl X "zip" := by rfl)
    (hs : starEach [e, e2] X.env = (false, eval e X.env) :: starEach [e2] X.env := by rfl) (hpl : (backTo pos2 (starEach [e2] X.env)).any (·.1) = false := by rfl)
    (hs1 : starEach [.Call (.Name "zip" p2) [e, e2] [] pos2] X.env = (false, eval (.Call (.Name "zip" p2) [e, e2] [] pos2) X.env) :: starEach [] X.env := by rfl) (hp1 : (backTo pos (starEach [] X.env)).any (·.1) = false := by rfl) :
    PE X (.Call (.Name "list" p) [.Call (.Name "zip" p2) [e, e2] [] pos2] [] pos) (tLZ X ta) := by
  refine ⟨fun pins s σ H Q I h => ?_⟩
  refine wpAny_Call_Name_kw (ld_blt I hg1 hm1 (show bootBuiltins ("list" : Str) = some (.type "list") by decide +kernel) ?_ (by decide) (by decide))
  refine PyProof.Rows.callWith_type1 ?_ hs1 hp1
  rw [hs1]
  refine Calls.spliced_cons ?_
  refine wpAny_Call_Name_kw (ld_blt I hg2 hm2 PyProof.Rows.boot_zip ?_ (by decide) (by decide))
  refine PyProof.Rows.callWith_type1 (thn (ha.run pos2 pins s σ H _ I h) fun us s1 ⟨vs, H1, I1, r1, q1⟩ => ?_) hs hpl
  obtain ⟨a, b, xs, ys, rfl, hqx, hqy, q⟩ := q1
  obtain ⟨u, v, rfl, ru, rv⟩ := vals2 r1
  cases ru
  cases rv
  obtain ⟨its, w1, p1, z1⟩ := I1.list hqx
  obtain ⟨its2, w2, p2, z2⟩ := I1.list hqy
  have l1 := w1.length
  have l2 := w2.length
  refine call_zip_2 p1.isList p2.isList fun h' hz hTI hTO h1 h2 hsz hk => ?_
  refine Calls.spliced_nil ?_
  have B : ZlB h' s1.heap.objs.size a b 0 its.toArray its2.toArray := ⟨hTI, h1, h2, p1.isList.at fun o e => hk _ o e, p2.isList.at fun o e => hk _ o e, .inl ⟨rfl, hz, _, _, hTO⟩⟩
  refine zl_call (s := { s1 with heap := h' }) (n := min its.length its2.length) (I1.ok.hd hc) p1.lt p2.lt (by omega) (fun i hi => ⟨its[i]'(by omega), its2[i]'(by omega), by simp [show i < its.length by omega], by simp [show i < its2.length by omega]⟩) ?_ B hz hsz fun hf tk acc c as k hS hl G hacc => ?_
  · by_cases hle : its.length ≤ its2.length
    · exact .inl (by simp [Nat.min_eq_left hle])
    · exact .inr (by simp [Nat.min_eq_right (Nat.le_of_lt (Nat.lt_of_not_le hle))])
  have kp : ∀ b o, s1.heap.get? b = some o → hf.get? b = some o := fun b o e => k b o (Heap.lt_size e) (hk b o e)
  have J : Inv X pins σ H1 { s1 with heap := hf, toks := tk } := I1.kept (t' := tk) kp
  have nd : as.Nodup := G.rise.imp fun h e => by rw [e] at h; exact Nat.lt_irrefl _ h
  have hlen : as.length = (xs.zip ys).length := by rw [hl, List.length_zip, l1, l2]
  have fr : ∀ c ∈ as, s1.heap.objs.size ≤ c ∧ H1 c = none := fun c hc => by
    have := G.above c hc
    have h0 : s1.heap.objs.size ≤ c := by omega
    exact ⟨h0, I1.hok.fresh h0⟩
  have J2 := lzAll (h2 := hf) (tk := tk) I1 as (xs.zip ys) H1 J nd fr fun j a q hj hq => by
    obtain ⟨x, y, f1, f2, f3⟩ := G.pairs j a hj
    obtain ⟨g1, g2⟩ := List.getElem?_zip_eq_some.mp hq
    obtain ⟨x', e1, t1⟩ := w1.get g1
    obtain ⟨y', e2, t2⟩ := w2.get g2
    have e3 : its[j]? = some x := by simpa using f1
    have e4 : its2[j]? = some y := by simpa using f2
    rw [e3] at e1
    rw [e4] at e2
    cases e1
    cases e2
    exact ⟨x, y, t1, t2, f3⟩
  have hL : s1.heap.objs.size + 5 ∉ as := fun z => Nat.lt_irrefl _ (G.above _ z)
  have hL1 : H1 (s1.heap.objs.size + 5) = none := I1.hok.fresh (Nat.le_add_right _ _)
  refine ⟨.ref (s1.heap.objs.size + 5), _, J2.take (h' := hf) (t' := tk) (o := .lst (as.map V.ref)) (fun b ob _ e => e) (I1.fpOk (Nat.le_add_right _ _) (by rw [lzT_out _ _ _ hL]; exact hL1)) ⟨?_, acc.toList, c, ?_, by rw [Array.toArray_toList]; exact hS⟩, rfl, q _ as hlen nd (fun c hc => ⟨(fr c hc).2, fun z => hL (by rw [z]; exact hc)⟩) hL1⟩
  · rw [List.length_map, hl]; omega
  · rw [hacc]; exact vals_maps V.ref Value.ref as fun _ _ => rfl
end
theorem lzDp {K : PySem.W.Frag} : ∀ (as : List Addr) (us ws : List V) (xs ys : List D) (Hf H : Hp), Ex Hf H → DpAll K Hf us xs → DpAll K Hf ws ys → as.length = (us.zip ws).length → as.Nodup → (∀ a ∈ as, H a = none) →
    Grow Hf H (lzT Hf as (us.zip ws)) (lzT H as (us.zip ws)) ∧ DpAll K (lzT Hf as (us.zip ws)) (as.map V.ref) (zipL xs ys)
  | [], us, ws, xs, ys, Hf, H, e, d1, d2, hl, _, _ => by
    refine ⟨Grow.refl e, ?_⟩
    have h1 := d1.length
    have h2 := d2.length
    rw [List.length_zip] at hl
    have : zipL xs ys = [] := by
      unfold zipL
      rw [List.map_eq_nil_iff]
      refine List.length_eq_zero_iff.mp ?_
      rw [List.length_zip, ← h1, ← h2, ← hl]
      rfl
    rw [this]
    exact .nil
  | a :: as, us, ws, xs, ys, Hf, H, e, d1, d2, hl, nd, hn => by
    cases d1 with
    | nil => simp at hl
    | @cons u us x xs du d1 =>
      cases d2 with
      | nil => simp at hl
      | @cons v ws y ys dv d2 =>
        have nd0 := List.nodup_cons.mp nd
        have g := Grow.new (o := .tup [u, v]) e (hn a List.mem_cons_self)
        obtain ⟨g2, d⟩ := lzDp as us ws xs ys (upd Hf a (.tup [u, v])) (upd H a (.tup [u, v])) g.s (DpAll.mono g.f _ _ d1) (DpAll.mono g.f _ _ d2) (by simpa using hl) nd0.2 fun c hc => by
          rw [upd_ne (fun z => nd0.1 (by rw [← z]; exact hc))]
          exact hn c (List.mem_cons_of_mem _ hc)
        refine ⟨g.trans g2, ?_⟩
        show DpAll K _ (V.ref a :: as.map V.ref) (PyData.tuple [x, y] :: zipL xs ys)
        refine .cons (Dp.mono g2.f _ _ (.tup (.inl (.inl upd_same)) (.cons (Dp.mono g.f _ _ du) (.cons (Dp.mono g.f _ _ dv) .nil)))) d
/-- of two lists -/
def zipLD : List D → Option (List D)
  | [.list xs, .list ys] => some (zipL xs ys)
  | _ => none
section
variable {X : Cx} {C : Fc} {p p2 pos pos2 : Pos} {e e2 : Expr} {g : M (List Arg)}
theorem pdl_listzip (hc : X.calm = true) (hm1 : X.mg "list" = none) (hm2 : X.mg "zip" = none) (ha : PDa X C [e, e2] g) (hg1 : Gl X "list" := by rfl) (hg2 : Gl X "zip" := by rfl)
    (hs : starEach [e, e2] X.env = (false, eval e X.env) :: starEach [e2] X.env := by rfl) (hpl : (backTo pos2 (starEach [e2] X.env)).any (·.1) = false := by rfl)
    (hs1 : starEach [.Call (.Name "zip" p2) [e, e2] [] pos2] X.env = (false, eval (.Call (.Name "zip" p2) [e, e2] [] pos2) X.env) :: starEach [] X.env := by rfl) (hp1 : (backTo pos (starEach [] X.env)).any (·.1) = false := by rfl) :
    PDl X C (.Call (.Name "list" p) [.Call (.Name "zip" p2) [e, e2] [] pos2] [] pos) (M.callL zipLD g) :=
  pe_imp (pe_listzip hc hm1 hm2 ha hg1 hg2 hs hpl hs1 hp1) fun σ H Q ⟨Hf, ρ, s, h⟩ => tG_bind s h fun vs as H1 Hf1 ρ1 e1 s1 d1 h1 => by
    obtain ⟨xs, z, hd, hz, h2⟩ := callL_go h1
    have da := ArgsRel.dats d1 hd
    unfold zipLD at hz
    split at hz
    · cases hz
      obtain ⟨v, w, rfl, g1, g2⟩ := dp2 da
      obtain ⟨a, us, rfl, f1, f2⟩ := g1.list_of
      obtain ⟨b, ws, rfl, f3, f4⟩ := g2.list_of
      refine ⟨a, b, us, ws, rfl, Evl.ex_l s1.e1 f1, Evl.ex_l s1.e1 f3, fun L as hl nd hn hL => ?_⟩
      obtain ⟨gr, dd⟩ := lzDp as us ws _ _ Hf1 H1 s1.e1 f2 f4 hl nd fun c hc => (hn c hc).1
      have s2 := s1.grow gr
      have hL2 : lzT H1 as (us.zip ws) L = none := by rw [lzT_out _ _ _ fun z => (hn L z).2 rfl]; exact hL
      have gm := Grow.mine (o := .lst (as.map V.ref)) s2.e1 hL2
      exact h2 _ _ _ gr.f (s2.grow gm) (s2.newL hL2 dd)
    · cases hz
end
end PD

set_option maxRecDepth 100000
set_option maxHeartbeats 4000000
set_option autoImplicit false
namespace PD
open PySem PySem.Spec L2
open Evl (Ex)
/-! ### [c for y in d if len(d[y]) > k], d an own dict: locked while it is walked -/
def longL (k : Int) (kvs : List (D × D)) (x : D) : Bool := match getK kvs x with
  | some (.list xs) => decide (k < (xs.length : Int))
  | _ => false
def isLstO : Option D → Bool
  | some (.list _) => true
  | _ => false
def M.lck (i : Nat) (c : Str) (k : Int) : M (List D) := fun ρ => match dctAt ρ i with
  | some kvs => if (kvs.all fun p => scalK p.1 && isLstO (PD.getK kvs p.1)) = true ∧ kvs.length ≤ sizeLine then .ok ((kvs.filter fun p => longL k kvs p.1).map fun _ => .str c) ρ else .bad
  | none => .bad
def M.lckJ (i j : Nat) (c : Str) (k : Int) : M (List D) := fun ρ => if j < ρ.length then M.lck i c k ρ else .bad
def ttLck (X : Cx) (i j : Nat) (k : Int) : TT := tB (tGt (tCB (fun xs H Q => ∃ x n, xs = [x] ∧ LenV X.K x H n ∧ Q (.int n) H) (tCons (tGetN X.w X.K (tVar i) (tVar j)) tNil)) (tC (.int k)))
theorem dp_reps {K : PySem.W.Frag} {H : Hp} {c : Str} : ∀ (l : List (D × D)) (m : List (Key × V)) (p : D × D → Bool) (q : Key × V → Bool), Paired (fun x y => q x = p y) m l → DpAll K H ((m.filter q).map fun _ => V.str c) ((l.filter p).map fun _ => PyData.str c)
  | _, _, p, q, .nil => .nil
  | y :: l, x :: m, p, q, .cons h t => by
    have ih := dp_reps (K := K) (H := H) (c := c) l m p q t
    cases e : p y with
    | true =>
      rw [List.filter_cons_of_pos e, List.filter_cons_of_pos (h.trans e), List.map_cons, List.map_cons]
      exact .cons (.str c) ih
    | false =>
      rw [List.filter_cons_of_neg (p := p) (by rw [e]; decide), List.filter_cons_of_neg (p := q) (by rw [h, e]; decide)]
      exact ih
theorem keys_mem {K : PySem.W.Frag} {Hf : Hp} : ∀ {ks : List (Key × V)} {kvs : List (D × D)}, KeysRel K Hf ks kvs → ∀ x ∈ ks, ∃ p ∈ kvs, keyD x.1 = p.1
  | _, _, .nil, x, h => by simp at h
  | _, _, .cons h t, x, hx => by
    rcases List.mem_cons.mp hx with rfl | hx
    · exact ⟨_, List.mem_cons_self, h.1⟩
    · obtain ⟨p, hp, e⟩ := keys_mem t x hx
      exact ⟨p, List.mem_cons_of_mem _ hp, e⟩
section
variable {X : Cx} {C : Fc}
theorem lck_go {i j : Nat} {c : Str} {k : Int} (hij : i ≠ j) {σ : L2.St} {H : Hp} {Q : VK} (hw : C.w = X.w) (hj : j < σ.length) (h : tG X.K C (relL X.K C) (M.lck i c k) σ H Q) : tLockE (tLc (iKeys (tVar i)) (gName j) (ttLck X i j k) (tC (.str c)) [j]) σ H Q := by
  obtain ⟨Hf, ρ, s, h⟩ := h
  unfold M.lck at h
  cases hk : dctAt ρ i with
  | none => rw [hk] at h; exact (show False from h).elim
  | some kvs =>
    rw [hk] at h
    simp only at h
    split at h
    case isFalse => exact (show False from h).elim
    rename_i hall
    obtain ⟨hall, hlen⟩ := hall
    obtain ⟨a, ho, g1, g2, g3, g4, _⟩ := s.dct i kvs (dctAt_get hk)
    have scal : (kvs.all fun p => scalK p.1) = true := by
      rw [List.all_eq_true] at hall ⊢
      intro p hp
      have := hall p hp
      rw [Bool.and_eq_true] at this
      exact this.1
    obtain ⟨ks, rfl, r⟩ : ∃ ks, ho = .dK ks ∧ KeysRel X.K Hf ks kvs := by
      rcases g4 with ⟨ks, e, r⟩ | ⟨xs, rfl, r, hne⟩
      · exact ⟨ks, e, r⟩
      · exact (r.notScal hne scal).elim
    have kl : ks.length = kvs.length := Paired.length r
    refine ⟨a, .dK ks, g3, True.intro, fun od => ?_⟩
    have exH : ∀ (Dl : Addr) (l : HO), (upd H a (.frz od (.dK ks))) Dl = none → Ex Hf (upd (upd H a (.frz od (.dK ks))) Dl l) := fun Dl l hD b o hb => by
      have hba : b ≠ a := fun z => by rw [z, g2] at hb; cases hb
      have hH := s.e1 b o hb
      have hbD : b ≠ Dl := fun z => by
        rw [← z, upd_ne hba, hH] at hD
        cases hD
      rw [upd_ne hbD, upd_ne hba]
      exact hH
    let q : Key × V → Bool := fun x => longL k kvs (keyD x.1)
    refine ⟨.ref a, g1, a, od, rfl, .inl ⟨ks, upd_same, ?_⟩⟩
    intro Dl hD
    have hDa : a ≠ Dl := fun z => by rw [← z, upd_same] at hD; cases hD
    have hDH : H Dl = none := by rw [upd_ne (Ne.symm hDa)] at hD; exact hD
    refine ⟨fun n m H' => n ≤ ks.length ∧ m = ks.length - n ∧ H' = upd (upd H a (.frz od (.dK ks))) Dl (.lst (((ks.take n).filter q).map fun _ => V.str c)), ⟨_, Nat.zero_le _, rfl, rfl⟩, ?_⟩
    rintro n m H2 ⟨hn, rfl, rfl⟩
    have hfz : ∀ l, (upd (upd H a (.frz od (.dK ks))) Dl l) a = some (.frz od (.dK ks)) := fun l => by rw [upd_ne hDa, upd_same]
    by_cases hlt : n < ks.length
    · refine .inr ⟨⟨hfz _, hlt⟩, fun H' => H' = upd (upd H a (.frz od (.dK ks))) Dl (.lst (((ks.take (n + 1)).filter q).map fun _ => V.str c)), fun H' e => ⟨ks.length - (n + 1), by omega, hlt, rfl, e⟩, ?_⟩
      rintro v H' ⟨rfl, k', w, hkw, rfl⟩
      have hwl : (L2.wipe σ [j]).length = σ.length := L2.wipe_length σ [j]
      have ws : L2.wipe σ [j] = σ.set j none := rfl
      refine ⟨by rw [ws]; show (((σ.set j none).set j _).set j none) = _; rw [List.set_set, List.set_set], ?_⟩
      have v1 : ((L2.wipe σ [j]).set j (some (kV k')))[i]? = some (some (.ref a)) := by
        rw [ws, List.getElem?_set_ne (Ne.symm hij), List.getElem?_set_ne (Ne.symm hij)]
        exact g1
      have v2 : ((L2.wipe σ [j]).set j (some (kV k')))[j]? = some (some (kV k')) := List.getElem?_set_self (by rw [hwl]; exact hj)
      have rg := r.get (k := k')
      -- the value
      have hmem : (k', w) ∈ ks := List.mem_of_getElem? hkw
      obtain ⟨p, hp, ep⟩ := keys_mem r _ hmem
      have ep : keyD k' = p.1 := ep
      have hpl := List.all_eq_true.mp hall p hp
      rw [Bool.and_eq_true, ← ep] at hpl
      obtain ⟨xs, hxs⟩ : ∃ xs, PD.getK kvs (keyD k') = some (.list xs) := by
        have h2 := hpl.2
        cases e : PD.getK kvs (keyD k') with
        | none => rw [e] at h2; cases h2
        | some d =>
          rw [e] at h2
          cases d <;> first | exact ⟨_, rfl⟩ | cases h2
      rw [hxs] at rg
      cases hv : valV ks k' with
      | none => rw [hv] at rg; exact rg.elim
      | some wv =>
        rw [hv] at rg
        obtain ⟨b, us, rfl, f1, f2⟩ := Dp.list_of rg
        have hq : q (k', w) = decide (k < (us.length : Int)) := by
          show longL k kvs (keyD k') = _
          unfold longL
          rw [hxs, f2.length]
        have tk : (ks.take (n + 1)).filter q = (ks.take n).filter q ++ if q (k', w) = true then [(k', w)] else [] := by
          rw [List.take_add_one, hkw, List.filter_append]
          congr 1
          show List.filter q [(k', w)] = _
          by_cases hp : q (k', w) = true
          · rw [if_pos hp, List.filter_cons_of_pos hp]; rfl
          · rw [if_neg hp, List.filter_cons_of_neg hp]; rfl
        refine ⟨.ref a, v1, kV k', v2, a, .ref b, rfl, .inl (.inl ⟨ks, k', .inr ⟨od, hfz _⟩, rfl, hv.symm⟩), .ref b, us.length, rfl, .inl ⟨us, Evl.ex_l (exH Dl _ hD) f1, rfl⟩, (us.length : Int), k, rfl, rfl, _, rfl, ?_⟩
        rw [tk]
        show if decide (k < (us.length : Int)) = true then _ else _
        by_cases hb : k < (us.length : Int)
        · rw [if_pos (show decide (k < (us.length : Int)) = true from decide_eq_true hb), if_pos (by rw [hq]; exact decide_eq_true hb), List.map_append]
          refine ⟨_, upd_same, ?_, by rw [upd_upd]; rfl⟩
          rw [List.length_map]
          have l1 := List.length_filter_le q (ks.take n)
          rw [List.length_take] at l1
          omega
        · rw [if_neg (show ¬ decide (k < (us.length : Int)) = true from fun z => hb (of_decide_eq_true z)), if_neg (by rw [hq]; exact fun z => hb (of_decide_eq_true z)), List.append_nil]
    · have e : n = ks.length := by omega
      subst e
      rw [List.take_length]
      refine .inl ⟨⟨hfz _, Nat.le_refl _⟩, hfz _, ?_⟩
      have eH : ∀ l, upd (upd (upd H a (.frz od (.dK ks))) Dl l) a (.dK ks) = upd H Dl l := fun l => by
        funext b
        by_cases h1 : b = a
        · rw [h1, upd_same, upd_ne hDa, g3]
        · rw [upd_ne h1]
          by_cases h2 : b = Dl
          · rw [h2, upd_same, upd_same]
          · rw [upd_ne h2, upd_ne h1, upd_ne h2]
      rw [eH]
      refine PostG.nowG (b := V.ref Dl) h s (Grow.mine (o := .lst _) s.e1 hDH) (s.newL hDH (dp_reps _ _ _ _ (Paired.mapP r fun x y z => ?_)))
      show longL k kvs (keyD x.1) = longL k kvs y.1
      rw [z.1]
end
end PD
namespace PD
open PySem PySem.Spec L2
section
variable {X : Cx} {C : Fc}
theorem tt_lck {i j : Nat} {k : Int} {xd y : Str} {lp xp yp sp clp kp gp : Pos} {kj : Nat} (hu : X.A.units + 9 < cLine) (hm : X.mg "len" = none) (hs : NoSl (.Name y yp)) (hNi : X.N[i]? = some xd := by rfl) (hNj : X.N[j]? = some y := by rfl)
    (hvi : Vis X.env.scope xd := by first | exact Or.inl rfl | exact Or.inr (Or.inl rfl) | exact Or.inr (Or.inr rfl)) (hvj : Vis X.env.scope y := by first | exact Or.inl rfl | exact Or.inr (Or.inl rfl) | exact Or.inr (Or.inr rfl))
    (d1 : (xd == ("__debug__" : Str)) = false := by decide) (d2 : (xd == ("__classdict__" : Str)) = false := by decide) (d3 : (y == ("__debug__" : Str)) = false := by decide) (d4 : (y == ("__classdict__" : Str)) = false := by decide) (hg : Gl X "len" := by rfl)
    (he : starEach [.Subscript (.Name xd xp) (.Name y yp) sp] X.env = (false, eval (.Subscript (.Name xd xp) (.Name y yp) sp) X.env) :: starEach [] X.env := by rfl) (hpl : (backTo clp (starEach [] X.env)).any (·.1) = false := by rfl) :
    PTs X [.Compare (.Call (.Name "len" lp) [.Subscript (.Name xd xp) (.Name y yp) sp] [] clp) [.Gt] [.Constant (.int k) kj kp] gp] (ttLck X i j k) :=
  pts_one (pt_cmp (pc_gt (pe_callB call_len hg hm PySem.boot_len (pa_cons (pe_getN hu (pe_var hNi hvi d1 d2) (pe_var hNj hvj d3 d4) hs) pa_nil he) (by decide) (by decide) he hpl) pe_int) (nomark _))
theorem pdl_lck {pos : Pos} {tg iter elt : Expr} {ifs : List Expr} {scope : Scope} {own : List (Str × Nat)} (i j : Nat) (c : Str) (k : Int) (hij : i ≠ j) (hw : C.w = X.w) (hc : X.calm = true) (hN : X.N.Nodup) (ok : BlkOk X.N X.env.scope scope own) (ho : own.map (·.2) = [j])
    (hi : PE X iter (tVar i)) (hg : ∀ (s : Shared) (H : Hp) (Cc : Addr) (cl : List (Str × Addr)) (fp : List Addr), PG (X.blk s H scope (compEnvC scope cl Cc X.env) fp) tg (gName j))
    (ht : ∀ (s : Shared) (H : Hp) (Cc : Addr) (cl : List (Str × Addr)) (fp : List Addr), PTs (X.blk s H scope (compEnvC scope cl Cc X.env) fp) ifs (ttLck X i j k))
    (he : ∀ (s : Shared) (H : Hp) (Cc : Addr) (cl : List (Str × Addr)) (fp : List Addr), PE (X.blk s H scope (compEnvC scope cl Cc X.env) fp) elt (tC (.str c))) (hs : ∀ x, foldedSetIterable iter X.env x = pure x := by intro _; rfl) :
    PDl X C (.ListComp elt [⟨tg, iter, ifs, 0⟩] scope pos) (M.lckJ i j c k) :=
  pe_imp (pe_lock (pe_lc hc hN (pi_keys hi) ok hg ht he hs)) fun σ H Q ⟨Hf, ρ, s, h⟩ => by
    rw [ho]
    unfold M.lckJ at h
    split at h
    · rename_i hj
      exact lck_go hij hw (by rw [s.len]; exact hj) ⟨Hf, ρ, s, h⟩
    · exact (show False from h).elim
end
end PD
namespace PD
open PySem PySem.Spec L2
open Evl (Ex)
/-! ### x, y, z = (..) with a name that a comprehension sees -/
theorem News.ex {K : PySem.W.Frag} {σ : L2.St} {Hf H H' : Hp} {ρ : DE} (e : Ex H H') {C : Fc} {vs : List V} {ls : List LV} (h : News K σ Hf H ρ C vs ls) : News K σ Hf H' ρ C vs ls := by
  induction h with
  | nil => exact .nil
  | d hd _ ih => exact .d hd ih
  | o fr _ ih => exact .o ⟨fr.f, e _ _ fr.h, fr.o, fr.z, fr.n, fr.j⟩ ih
section
variable {X : Cx} {C : Fc} {pos : Pos} {g : M (List LV)}
theorem pd_parT3 {i j l : Nat} {x y z : Str} {a b c : Expr} {px py pz pt : Pos} {kt k2 pt2} (hpi : ∀ q, C.io = some q → q.1 ≠ i) (hpj : ∀ q, C.io = some q → q.1 ≠ j) (hpl : ∀ q, C.io = some q → q.1 ≠ l) (hc : X.calm = true) (hN : X.N.Nodup) (ha : PDns X C [a, b, c] g)
    (hi : X.N[i]? = some x := by rfl) (hj : X.N[j]? = some y := by rfl) (hl : X.N[l]? = some z := by rfl)
    (hx : Loc X.env.scope x := by first | exact Or.inl rfl | exact Or.inr rfl) (hy : Loc X.env.scope y := by first | exact Or.inl rfl | exact Or.inr rfl) (hz : Loc X.env.scope z := by first | exact Or.inl rfl | exact Or.inr rfl)
    (fx : X.fn x = true ∨ X.env.scope.names.lookup x = some .local := by first | exact .inl rfl | exact .inr rfl) (fy : X.fn y = true ∨ X.env.scope.names.lookup y = some .local := by first | exact .inl rfl | exact .inr rfl)
    (fz : X.fn z = true ∨ X.env.scope.names.lookup z = some .local := by first | exact .inl rfl | exact .inr rfl)
    (hn : (assignEach [.Name x px, .Name y py, .Name z pz] X.env).length = 3 := by rfl) (hst : (assignEach [.Name x px, .Name y py, .Name z pz] X.env).findIdx? (·.1) = none := by rfl)
    (hs : swapsWithSole [.Tuple [.Name x px, .Name y py, .Name z pz] kt pt] (.Tuple [a, b, c] k2 pt2) pos.line X.env = pure false := by rfl) (hw : swappedStores [.Tuple [.Name x px, .Name y py, .Name z pz] kt pt] (.Tuple [a, b, c] k2 pt2) X.env = pure none := by rfl)
    (h1 : (assignEach [.Tuple [.Name x px, .Name y py, .Name z pz] kt pt] X.env).map (·.2) = [assign (.Tuple [.Name x px, .Name y py, .Name z pz] kt pt) X.env] := by rfl) :
    PDs X C (.Assign [.Tuple [.Name x px, .Name y py, .Name z pz] kt pt] (.Tuple [a, b, c] k2 pt2) pos) (S.parN [i, j, l] g) :=
  ps_imp (ps_asg (pe_tup ha) (pg_tup hc (pgs_cons (pg_name hN hi hx fx) (pgs_cons (pg_name hN hj hy fy) (pgs_cons (pg_name hN hl hz fz) pgs_nil))) hn hst) hs hw h1) fun E σ H ⟨Hf, ρ, s, q⟩ => by
    refine ⟨Hf, ρ, s, ?_⟩
    unfold S.parN parR at q
    cases hg : g ρ with
    | ex e ρ1 => rw [hg] at q; exact (show False from q).elim
    | bad => rw [hg] at q; exact (show False from q).elim
    | ok ls ρ1 =>
      rw [hg] at q
      simp only at q
      intro vs H1 Hf1 e1 s1 nw
      match ls, q with
      | [], q => exact (show False from q).elim
      | [_], q => exact (show False from q).elim
      | [_, _], q => exact (show False from q).elim
      | _ :: _ :: _ :: _ :: _, q => exact (show False from q).elim
      | [l1, l2, l3], q =>
        have hlen := nw.len
        match vs, hlen with
        | [v1, v2, v3], _ =>
          refine ⟨by rw [sizeLine_eq]; show 3 ≤ 16777216; decide, fun p hp => ⟨p, [v1, v2, v3], rfl, .inl (.inl upd_same), rfl, ?_⟩⟩
          have gr := Grow.mine (o := .tup [v1, v2, v3]) s1.e1 hp
          obtain ⟨s2, n2⟩ := (nw.ex gr.h).set (s1.grow gr) hpi
          obtain ⟨s3, n3⟩ := n2.set s2 hpj
          obtain ⟨s4, n4⟩ := n3.set s3 hpl
          exact ⟨v1, _, rfl, v2, _, rfl, v3, _, rfl, rfl, PostS.nx (PostS.mono e1 q) s4⟩
end
end PD

set_option maxRecDepth 100000
set_option maxHeartbeats 4000000
namespace K2
open PySem PySem.Spec L2 PD
noncomputable section
def topS (i : Nat) : Stmt := PySem.Challenge.pw_selfstarts_k02_whole_rows_taped.main.body.getD i (.Pass ⟨0, 0, 0, 0⟩)
def cst_AWAKE : D := .str ("awake" : Str)
def cst_RECORDS : D := .str ("records" : Str)
def cst_SLEEPS : D := .str ("sleeps" : Str)
def cst_FRESH : D := .tuple [.str ("awake" : Str), .int 0, .int 0, .tuple []]
def cst_MOST_TICKS : D := .int 60
abbrev s_is_within : Stmt := topS 13
abbrev N_is_within : List Str := ["value", "low", "high"]
abbrev P_is_within : List Str := ["value", "low", "high"]
theorem sc_is_within : FnScope N_is_within P_is_within (defScope s_is_within) := ⟨rfl, rfl, rfl, by decide +kernel, rfl, by decide +kernel, by decide +kernel⟩
abbrev s_is_row_of : Stmt := topS 14
abbrev N_is_row_of : List Str := ["value", "size"]
abbrev P_is_row_of : List Str := ["value", "size"]
theorem sc_is_row_of : FnScope N_is_row_of P_is_row_of (defScope s_is_row_of) := ⟨rfl, rfl, rfl, by decide +kernel, rfl, by decide +kernel, by decide +kernel⟩
abbrev s_is_recorder : Stmt := topS 15
abbrev N_is_recorder : List Str := ["value"]
abbrev P_is_recorder : List Str := ["value"]
theorem sc_is_recorder : FnScope N_is_recorder P_is_recorder (defScope s_is_recorder) := ⟨rfl, rfl, rfl, by decide +kernel, rfl, by decide +kernel, by decide +kernel⟩
abbrev s_is_world : Stmt := topS 16
abbrev N_is_world : List Str := ["value"]
abbrev P_is_world : List Str := ["value"]
theorem sc_is_world : FnScope N_is_world P_is_world (defScope s_is_world) := ⟨rfl, rfl, rfl, by decide +kernel, rfl, by decide +kernel, by decide +kernel⟩
abbrev s_is_row : Stmt := topS 17
abbrev N_is_row : List Str := ["value", "sound"]
abbrev P_is_row : List Str := ["value"]
theorem sc_is_row : FnScope N_is_row P_is_row (defScope s_is_row) := ⟨rfl, rfl, rfl, by decide +kernel, rfl, by decide +kernel, by decide +kernel⟩
abbrev s_look_at_recorder : Stmt := topS 18
abbrev N_look_at_recorder : List Str := ["recorder"]
abbrev P_look_at_recorder : List Str := ["recorder"]
theorem sc_look_at_recorder : FnScope N_look_at_recorder P_look_at_recorder (defScope s_look_at_recorder) := ⟨rfl, rfl, rfl, by decide +kernel, rfl, by decide +kernel, by decide +kernel⟩
abbrev s_look_at_world : Stmt := topS 19
abbrev N_look_at_world : List Str := ["world"]
abbrev P_look_at_world : List Str := ["world"]
theorem sc_look_at_world : FnScope N_look_at_world P_look_at_world (defScope s_look_at_world) := ⟨rfl, rfl, rfl, by decide +kernel, rfl, by decide +kernel, by decide +kernel⟩
abbrev s_look_at_row : Stmt := topS 20
abbrev N_look_at_row : List Str := ["row"]
abbrev P_look_at_row : List Str := ["row"]
theorem sc_look_at_row : FnScope N_look_at_row P_look_at_row (defScope s_look_at_row) := ⟨rfl, rfl, rfl, by decide +kernel, rfl, by decide +kernel, by decide +kernel⟩
abbrev s_look_at_sound : Stmt := topS 21
abbrev N_look_at_sound : List Str := ["sound"]
abbrev P_look_at_sound : List Str := ["sound"]
theorem sc_look_at_sound : FnScope N_look_at_sound P_look_at_sound (defScope s_look_at_sound) := ⟨rfl, rfl, rfl, by decide +kernel, rfl, by decide +kernel, by decide +kernel⟩
abbrev s_is_heard : Stmt := topS 22
abbrev N_is_heard : List Str := ["recorder", "value", "need", "ahead", "after", "most", "rest", "sound"]
abbrev P_is_heard : List Str := ["recorder", "value"]
theorem sc_is_heard : FnScope N_is_heard P_is_heard (defScope s_is_heard) := ⟨rfl, rfl, rfl, by decide +kernel, rfl, by decide +kernel, by decide +kernel⟩
abbrev s_fits : Stmt := topS 23
abbrev N_fits : List Str := ["recorder", "value"]
abbrev P_fits : List Str := ["recorder", "value"]
theorem sc_fits : FnScope N_fits P_fits (defScope s_fits) := ⟨rfl, rfl, rfl, by decide +kernel, rfl, by decide +kernel, by decide +kernel⟩
abbrev s_look_at_stand : Stmt := topS 24
abbrev N_look_at_stand : List Str := ["recorder", "stand"]
abbrev P_look_at_stand : List Str := ["recorder", "stand"]
theorem sc_look_at_stand : FnScope N_look_at_stand P_look_at_stand (defScope s_look_at_stand) := ⟨rfl, rfl, rfl, by decide +kernel, rfl, by decide +kernel, by decide +kernel⟩
abbrev s_ended : Stmt := topS 26
abbrev N_ended : List Str := ["recorder"]
abbrev P_ended : List Str := ["recorder"]
theorem sc_ended : FnScope N_ended P_ended (defScope s_ended) := ⟨rfl, rfl, rfl, by decide +kernel, rfl, by decide +kernel, by decide +kernel⟩
abbrev s_step : Stmt := topS 27
abbrev N_step : List Str := ["recorder", "stand", "sound", "need", "ahead", "after_so", "most", "rest", "mode", "count", "quiet", "heard", "kept"]
abbrev P_step : List Str := ["recorder", "stand", "sound"]
theorem sc_step : FnScope N_step P_step (defScope s_step) := ⟨rfl, rfl, rfl, by decide +kernel, rfl, by decide +kernel, by decide +kernel⟩
abbrev s_led : Stmt := topS 28
abbrev N_led : List Str := ["recorder", "row", "found", "sound"]
abbrev P_led : List Str := ["recorder", "row"]
theorem sc_led : FnScope N_led P_led (defScope s_led) := ⟨rfl, rfl, rfl, by decide +kernel, rfl, by decide +kernel, by decide +kernel⟩
abbrev s_left_of : Stmt := topS 29
abbrev N_left_of : List Str := ["recorder", "stand"]
abbrev P_left_of : List Str := ["recorder", "stand"]
theorem sc_left_of : FnScope N_left_of P_left_of (defScope s_left_of) := ⟨rfl, rfl, rfl, by decide +kernel, rfl, by decide +kernel, by decide +kernel⟩
abbrev s_recordings_of : Stmt := topS 30
abbrev N_recordings_of : List Str := ["recorder", "row", "found", "stand", "tick", "sound", "old", "kept"]
abbrev P_recordings_of : List Str := ["recorder", "row"]
theorem sc_recordings_of : FnScope N_recordings_of P_recordings_of (defScope s_recordings_of) := ⟨rfl, rfl, rfl, by decide +kernel, rfl, by decide +kernel, by decide +kernel⟩
abbrev s_sounds_of : Stmt := topS 31
abbrev N_sounds_of : List Str := ["row", "found", "tick", "sound"]
abbrev P_sounds_of : List Str := ["row"]
theorem sc_sounds_of : FnScope N_sounds_of P_sounds_of (defScope s_sounds_of) := ⟨rfl, rfl, rfl, by decide +kernel, rfl, by decide +kernel, by decide +kernel⟩
abbrev s_meet : Stmt := topS 32
abbrev N_meet : List Str := ["one", "other"]
abbrev P_meet : List Str := ["one", "other"]
theorem sc_meet : FnScope N_meet P_meet (defScope s_meet) := ⟨rfl, rfl, rfl, by decide +kernel, rfl, by decide +kernel, by decide +kernel⟩
abbrev s_is_in : Stmt := topS 33
abbrev N_is_in : List Str := ["tick", "some", "first", "last"]
abbrev P_is_in : List Str := ["tick", "some"]
theorem sc_is_in : FnScope N_is_in P_is_in (defScope s_is_in) := ⟨rfl, rfl, rfl, by decide +kernel, rfl, by decide +kernel, by decide +kernel⟩
abbrev s_harms_of : Stmt := topS 34
abbrev N_harms_of : List Str := ["recorder", "row", "some", "all_sounds", "found", "sound", "mine", "one"]
abbrev P_harms_of : List Str := ["recorder", "row"]
theorem sc_harms_of : FnScope N_harms_of P_harms_of (defScope s_harms_of) := ⟨rfl, rfl, rfl, by decide +kernel, rfl, by decide +kernel, by decide +kernel⟩
abbrev s_after : Stmt := topS 35
abbrev N_after : List Str := ["recorder", "stand", "sound"]
abbrev P_after : List Str := ["recorder", "stand", "sound"]
theorem sc_after : FnScope N_after P_after (defScope s_after) := ⟨rfl, rfl, rfl, by decide +kernel, rfl, by decide +kernel, by decide +kernel⟩
abbrev s_stand_behind : Stmt := topS 36
abbrev N_stand_behind : List Str := ["recorder", "row"]
abbrev P_stand_behind : List Str := ["recorder", "row"]
theorem sc_stand_behind : FnScope N_stand_behind P_stand_behind (defScope s_stand_behind) := ⟨rfl, rfl, rfl, by decide +kernel, rfl, by decide +kernel, by decide +kernel⟩
abbrev s_recordings : Stmt := topS 37
abbrev N_recordings : List Str := ["recorder", "row"]
abbrev P_recordings : List Str := ["recorder", "row"]
theorem sc_recordings : FnScope N_recordings P_recordings (defScope s_recordings) := ⟨rfl, rfl, rfl, by decide +kernel, rfl, by decide +kernel, by decide +kernel⟩
abbrev s_sounds : Stmt := topS 38
abbrev N_sounds : List Str := ["row"]
abbrev P_sounds : List Str := ["row"]
theorem sc_sounds : FnScope N_sounds P_sounds (defScope s_sounds) := ⟨rfl, rfl, rfl, by decide +kernel, rfl, by decide +kernel, by decide +kernel⟩
abbrev s_row_harms : Stmt := topS 39
abbrev N_row_harms : List Str := ["recorder", "row"]
abbrev P_row_harms : List Str := ["recorder", "row"]
theorem sc_row_harms : FnScope N_row_harms P_row_harms (defScope s_row_harms) := ⟨rfl, rfl, rfl, by decide +kernel, rfl, by decide +kernel, by decide +kernel⟩
abbrev s_is_of : Stmt := topS 40
abbrev N_is_of : List Str := ["world", "row", "some", "first", "last", "sooner", "later"]
abbrev P_is_of : List Str := ["world", "row"]
theorem sc_is_of : FnScope N_is_of P_is_of (defScope s_is_of) := ⟨rfl, rfl, rfl, by decide +kernel, rfl, by decide +kernel, by decide +kernel⟩
abbrev s_f_law_spring : Stmt := topS 42
abbrev N_f_law_spring : List Str := ["script", "at", "cell", "mixed"]
abbrev P_f_law_spring : List Str := ["script", "at"]
theorem sc_f_law_spring : FnScope N_f_law_spring P_f_law_spring (defScope s_f_law_spring) := ⟨rfl, rfl, rfl, by decide +kernel, rfl, by decide +kernel, by decide +kernel⟩
abbrev s_f_law_pick : Stmt := topS 43
abbrev N_f_law_pick : List Str := ["spring", "many", "digit"]
abbrev P_f_law_pick : List Str := ["spring", "many"]
theorem sc_f_law_pick : FnScope N_f_law_pick P_f_law_pick (defScope s_f_law_pick) := ⟨rfl, rfl, rfl, by decide +kernel, rfl, by decide +kernel, by decide +kernel⟩
abbrev s_f_law_kind : Stmt := topS 44
abbrev N_f_law_kind : List Str := ["value"]
abbrev P_f_law_kind : List Str := ["value"]
theorem sc_f_law_kind : FnScope N_f_law_kind P_f_law_kind (defScope s_f_law_kind) := ⟨rfl, rfl, rfl, by decide +kernel, rfl, by decide +kernel, by decide +kernel⟩
abbrev s_f_law_twins : Stmt := topS 45
abbrev N_f_law_twins : List Str := ["one", "other", "a", "b"]
abbrev P_f_law_twins : List Str := ["one", "other"]
theorem sc_f_law_twins : FnScope N_f_law_twins P_f_law_twins (defScope s_f_law_twins) := ⟨rfl, rfl, rfl, by decide +kernel, rfl, by decide +kernel, by decide +kernel⟩
abbrev s_f_law_recorder : Stmt := topS 46
abbrev N_f_law_recorder : List Str := ["spring", "need", "ahead", "most"]
abbrev P_f_law_recorder : List Str := ["spring"]
theorem sc_f_law_recorder : FnScope N_f_law_recorder P_f_law_recorder (defScope s_f_law_recorder) := ⟨rfl, rfl, rfl, by decide +kernel, rfl, by decide +kernel, by decide +kernel⟩
abbrev s_f_law_world : Stmt := topS 47
abbrev N_f_law_world : List Str := ["spring", "least", "greatest"]
abbrev P_f_law_world : List Str := ["spring"]
theorem sc_f_law_world : FnScope N_f_law_world P_f_law_world (defScope s_f_law_world) := ⟨rfl, rfl, rfl, by decide +kernel, rfl, by decide +kernel, by decide +kernel⟩
abbrev s_f_law_tapes : Stmt := topS 48
abbrev N_f_law_tapes : List Str := ["recorder", "row", "need", "ahead", "hush", "most", "rest", "found", "wake", "tick", "loud", "begin", "end", "quiet"]
abbrev P_f_law_tapes : List Str := ["recorder", "row"]
theorem sc_f_law_tapes : FnScope N_f_law_tapes P_f_law_tapes (defScope s_f_law_tapes) := ⟨rfl, rfl, rfl, by decide +kernel, rfl, by decide +kernel, by decide +kernel⟩
abbrev s_f_law_sounds : Stmt := topS 49
abbrev N_f_law_sounds : List Str := ["row", "ends", "begins", "at"]
abbrev P_f_law_sounds : List Str := ["row"]
theorem sc_f_law_sounds : FnScope N_f_law_sounds P_f_law_sounds (defScope s_f_law_sounds) := ⟨rfl, rfl, rfl, by decide +kernel, rfl, by decide +kernel, by decide +kernel⟩
abbrev s_f_law_kept : Stmt := topS 50
abbrev N_f_law_kept : List Str := ["recorder", "row", "marks", "number", "begin", "end", "tick"]
abbrev P_f_law_kept : List Str := ["recorder", "row"]
theorem sc_f_law_kept : FnScope N_f_law_kept P_f_law_kept (defScope s_f_law_kept) := ⟨rfl, rfl, rfl, by decide +kernel, rfl, by decide +kernel, by decide +kernel⟩
abbrev s_f_law_harms : Stmt := topS 51
abbrev N_f_law_harms : List Str := ["recorder", "row", "marks", "found", "owners", "number", "begin", "end", "mine", "some", "one"]
abbrev P_f_law_harms : List Str := ["recorder", "row"]
theorem sc_f_law_harms : FnScope N_f_law_harms P_f_law_harms (defScope s_f_law_harms) := ⟨rfl, rfl, rfl, by decide +kernel, rfl, by decide +kernel, by decide +kernel⟩
abbrev s_f_law_is_of : Stmt := topS 52
abbrev N_f_law_is_of : List Str := ["world", "row", "some", "begin", "end", "one", "two"]
abbrev P_f_law_is_of : List Str := ["world", "row"]
theorem sc_f_law_is_of : FnScope N_f_law_is_of P_f_law_is_of (defScope s_f_law_is_of) := ⟨rfl, rfl, rfl, by decide +kernel, rfl, by decide +kernel, by decide +kernel⟩
abbrev s_f_law_tick : Stmt := topS 53
abbrev N_f_law_tick : List Str := ["recorder", "stand", "sound", "need", "ahead", "hush", "most", "rest", "mode", "count", "quiet", "heard", "calm", "kept"]
abbrev P_f_law_tick : List Str := ["recorder", "stand", "sound"]
theorem sc_f_law_tick : FnScope N_f_law_tick P_f_law_tick (defScope s_f_law_tick) := ⟨rfl, rfl, rfl, by decide +kernel, rfl, by decide +kernel, by decide +kernel⟩
abbrev s_law : Stmt := topS 56
abbrev N_law : List Str := ["script", "at", "spring", "recorder", "turn", "often", "row", "tick", "again", "told", "world", "stand", "sound", "there"]
abbrev P_law : List Str := ["script"]
theorem sc_law : FnScope N_law P_law (defScope s_law) := ⟨rfl, rfl, rfl, by decide +kernel, rfl, by decide +kernel, by decide +kernel⟩
/-- what the top has left -/
structure Txt (K : PySem.W.Frag) (mg : Str → Option Value) (fs : Nat → Addr) (fds : Nat → FuncData) (us : Nat → Value) : Prop where
  f_is_within : Fun K "is_within" "is_within" s_is_within (fs 13) (fds 13)
  m_is_within : mg "is_within" = some (.ref (fs 13))
  b_is_within : Binds K (fds 13) P_is_within []
  f_is_row_of : Fun K "is_row_of" "is_row_of" s_is_row_of (fs 14) (fds 14)
  m_is_row_of : mg "is_row_of" = some (.ref (fs 14))
  b_is_row_of : Binds K (fds 14) P_is_row_of []
  f_is_recorder : Fun K "is_recorder" "is_recorder" s_is_recorder (fs 15) (fds 15)
  m_is_recorder : mg "is_recorder" = some (.ref (fs 15))
  b_is_recorder : Binds K (fds 15) P_is_recorder []
  f_is_world : Fun K "is_world" "is_world" s_is_world (fs 16) (fds 16)
  m_is_world : mg "is_world" = some (.ref (fs 16))
  b_is_world : Binds K (fds 16) P_is_world []
  f_is_row : Fun K "is_row" "is_row" s_is_row (fs 17) (fds 17)
  m_is_row : mg "is_row" = some (.ref (fs 17))
  b_is_row : Binds K (fds 17) P_is_row []
  f_look_at_recorder : Fun K "look_at_recorder" "look_at_recorder" s_look_at_recorder (fs 18) (fds 18)
  m_look_at_recorder : mg "look_at_recorder" = some (.ref (fs 18))
  b_look_at_recorder : Binds K (fds 18) P_look_at_recorder []
  f_look_at_world : Fun K "look_at_world" "look_at_world" s_look_at_world (fs 19) (fds 19)
  m_look_at_world : mg "look_at_world" = some (.ref (fs 19))
  b_look_at_world : Binds K (fds 19) P_look_at_world []
  f_look_at_row : Fun K "look_at_row" "look_at_row" s_look_at_row (fs 20) (fds 20)
  m_look_at_row : mg "look_at_row" = some (.ref (fs 20))
  b_look_at_row : Binds K (fds 20) P_look_at_row []
  f_look_at_sound : Fun K "look_at_sound" "look_at_sound" s_look_at_sound (fs 21) (fds 21)
  m_look_at_sound : mg "look_at_sound" = some (.ref (fs 21))
  b_look_at_sound : Binds K (fds 21) P_look_at_sound []
  f_is_heard : Fun K "is_heard" "is_heard" s_is_heard (fs 22) (fds 22)
  m_is_heard : mg "is_heard" = some (.ref (fs 22))
  b_is_heard : Binds K (fds 22) P_is_heard []
  f_fits : Fun K "fits" "fits" s_fits (fs 23) (fds 23)
  m_fits : mg "fits" = some (.ref (fs 23))
  b_fits : Binds K (fds 23) P_fits []
  f_look_at_stand : Fun K "look_at_stand" "look_at_stand" s_look_at_stand (fs 24) (fds 24)
  m_look_at_stand : mg "look_at_stand" = some (.ref (fs 24))
  b_look_at_stand : Binds K (fds 24) P_look_at_stand []
  f_ended : Fun K "ended" "ended" s_ended (fs 26) (fds 26)
  m_ended : mg "ended" = some (.ref (fs 26))
  b_ended : Binds K (fds 26) P_ended []
  f_step : Fun K "step" "step" s_step (fs 27) (fds 27)
  m_step : mg "step" = some (.ref (fs 27))
  b_step : Binds K (fds 27) P_step []
  f_led : Fun K "led" "led" s_led (fs 28) (fds 28)
  m_led : mg "led" = some (.ref (fs 28))
  b_led : Binds K (fds 28) P_led []
  f_left_of : Fun K "left_of" "left_of" s_left_of (fs 29) (fds 29)
  m_left_of : mg "left_of" = some (.ref (fs 29))
  b_left_of : Binds K (fds 29) P_left_of []
  f_recordings_of : Fun K "recordings_of" "recordings_of" s_recordings_of (fs 30) (fds 30)
  m_recordings_of : mg "recordings_of" = some (.ref (fs 30))
  b_recordings_of : Binds K (fds 30) P_recordings_of []
  f_sounds_of : Fun K "sounds_of" "sounds_of" s_sounds_of (fs 31) (fds 31)
  m_sounds_of : mg "sounds_of" = some (.ref (fs 31))
  b_sounds_of : Binds K (fds 31) P_sounds_of []
  f_meet : Fun K "meet" "meet" s_meet (fs 32) (fds 32)
  m_meet : mg "meet" = some (.ref (fs 32))
  b_meet : Binds K (fds 32) P_meet []
  f_is_in : Fun K "is_in" "is_in" s_is_in (fs 33) (fds 33)
  m_is_in : mg "is_in" = some (.ref (fs 33))
  b_is_in : Binds K (fds 33) P_is_in []
  f_harms_of : Fun K "harms_of" "harms_of" s_harms_of (fs 34) (fds 34)
  m_harms_of : mg "harms_of" = some (.ref (fs 34))
  b_harms_of : Binds K (fds 34) P_harms_of []
  f_after : Fun K "after" "after" s_after (fs 35) (fds 35)
  m_after : mg "after" = some (.ref (fs 35))
  b_after : Binds K (fds 35) P_after []
  f_stand_behind : Fun K "stand_behind" "stand_behind" s_stand_behind (fs 36) (fds 36)
  m_stand_behind : mg "stand_behind" = some (.ref (fs 36))
  b_stand_behind : Binds K (fds 36) P_stand_behind []
  f_recordings : Fun K "recordings" "recordings" s_recordings (fs 37) (fds 37)
  m_recordings : mg "recordings" = some (.ref (fs 37))
  b_recordings : Binds K (fds 37) P_recordings []
  f_sounds : Fun K "sounds" "sounds" s_sounds (fs 38) (fds 38)
  m_sounds : mg "sounds" = some (.ref (fs 38))
  b_sounds : Binds K (fds 38) P_sounds []
  f_row_harms : Fun K "row_harms" "row_harms" s_row_harms (fs 39) (fds 39)
  m_row_harms : mg "row_harms" = some (.ref (fs 39))
  b_row_harms : Binds K (fds 39) P_row_harms []
  f_is_of : Fun K "is_of" "is_of" s_is_of (fs 40) (fds 40)
  m_is_of : mg "is_of" = some (.ref (fs 40))
  b_is_of : Binds K (fds 40) P_is_of []
  f_f_law_spring : Fun K "_law_spring" "_law_spring" s_f_law_spring (fs 42) (fds 42)
  m_f_law_spring : mg "_law_spring" = some (.ref (fs 42))
  b_f_law_spring : Binds K (fds 42) P_f_law_spring []
  f_f_law_pick : Fun K "_law_pick" "_law_pick" s_f_law_pick (fs 43) (fds 43)
  m_f_law_pick : mg "_law_pick" = some (.ref (fs 43))
  b_f_law_pick : Binds K (fds 43) P_f_law_pick []
  f_f_law_kind : Fun K "_law_kind" "_law_kind" s_f_law_kind (fs 44) (fds 44)
  m_f_law_kind : mg "_law_kind" = some (.ref (fs 44))
  b_f_law_kind : Binds K (fds 44) P_f_law_kind []
  f_f_law_twins : Fun K "_law_twins" "_law_twins" s_f_law_twins (fs 45) (fds 45)
  m_f_law_twins : mg "_law_twins" = some (.ref (fs 45))
  b_f_law_twins : Binds K (fds 45) P_f_law_twins []
  f_f_law_recorder : Fun K "_law_recorder" "_law_recorder" s_f_law_recorder (fs 46) (fds 46)
  m_f_law_recorder : mg "_law_recorder" = some (.ref (fs 46))
  b_f_law_recorder : Binds K (fds 46) P_f_law_recorder []
  f_f_law_world : Fun K "_law_world" "_law_world" s_f_law_world (fs 47) (fds 47)
  m_f_law_world : mg "_law_world" = some (.ref (fs 47))
  b_f_law_world : Binds K (fds 47) P_f_law_world []
  f_f_law_tapes : Fun K "_law_tapes" "_law_tapes" s_f_law_tapes (fs 48) (fds 48)
  m_f_law_tapes : mg "_law_tapes" = some (.ref (fs 48))
  b_f_law_tapes : Binds K (fds 48) P_f_law_tapes []
  f_f_law_sounds : Fun K "_law_sounds" "_law_sounds" s_f_law_sounds (fs 49) (fds 49)
  m_f_law_sounds : mg "_law_sounds" = some (.ref (fs 49))
  b_f_law_sounds : Binds K (fds 49) P_f_law_sounds []
  f_f_law_kept : Fun K "_law_kept" "_law_kept" s_f_law_kept (fs 50) (fds 50)
  m_f_law_kept : mg "_law_kept" = some (.ref (fs 50))
  b_f_law_kept : Binds K (fds 50) P_f_law_kept []
  f_f_law_harms : Fun K "_law_harms" "_law_harms" s_f_law_harms (fs 51) (fds 51)
  m_f_law_harms : mg "_law_harms" = some (.ref (fs 51))
  b_f_law_harms : Binds K (fds 51) P_f_law_harms []
  f_f_law_is_of : Fun K "_law_is_of" "_law_is_of" s_f_law_is_of (fs 52) (fds 52)
  m_f_law_is_of : mg "_law_is_of" = some (.ref (fs 52))
  b_f_law_is_of : Binds K (fds 52) P_f_law_is_of []
  f_f_law_tick : Fun K "_law_tick" "_law_tick" s_f_law_tick (fs 53) (fds 53)
  m_f_law_tick : mg "_law_tick" = some (.ref (fs 53))
  b_f_law_tick : Binds K (fds 53) P_f_law_tick []
  f_law : Fun K "law" "law" s_law (fs 56) (fds 56)
  m_law : mg "law" = some (.ref (fs 56))
  b_law : Binds K (fds 56) P_law []
  n_abs : mg "abs" = none
  n_all : mg "all" = none
  n_any : mg "any" = none
  n_bool : mg "bool" = none
  n_enumerate : mg "enumerate" = none
  n_int : mg "int" = none
  n_isinstance : mg "isinstance" = none
  n_len : mg "len" = none
  n_list : mg "list" = none
  n_max : mg "max" = none
  n_min : mg "min" = none
  n_range : mg "range" = none
  n_set : mg "set" = none
  n_sorted : mg "sorted" = none
  n_str : mg "str" = none
  n_tuple : mg "tuple" = none
  n_zip : mg "zip" = none
  c_AWAKE : mg "AWAKE" = some (us 8)
  r_AWAKE : ∃ v, RelV v (us 8) ∧ ∀ H, Dp K H v cst_AWAKE
  c_RECORDS : mg "RECORDS" = some (us 9)
  r_RECORDS : ∃ v, RelV v (us 9) ∧ ∀ H, Dp K H v cst_RECORDS
  c_SLEEPS : mg "SLEEPS" = some (us 10)
  r_SLEEPS : ∃ v, RelV v (us 10) ∧ ∀ H, Dp K H v cst_SLEEPS
  c_FRESH : mg "FRESH" = some (us 11)
  r_FRESH : ∃ v, RelV v (us 11) ∧ ∀ H, Dp K H v cst_FRESH
  c_MOST_TICKS : mg "MOST_TICKS" = some (us 12)
  r_MOST_TICKS : ∃ v, RelV v (us 12) ∧ ∀ H, Dp K H v cst_MOST_TICKS
section
variable {P : Program} {w : World} {K : PySem.W.Frag} {mg : Str → Option Value} {base : Heap} {fs : Nat → Addr} {fds : Nat → FuncData} {us : Nat → Value}
def g_is_within : MS := S.ret (M.andV (M.op1 (isD tInt) (M.var 0)) (M.andV (M.op1 notD (M.op1 (isD tBool) (M.var 0))) (M.chain leD leD (M.var 1) (M.var 0) (M.var 2))))
def F_is_within (lvs : List LV) : FR := runF 3 3 none g_is_within lvs
theorem ok_is_within (T : Txt K mg fs fds us) : FnOk P w K mg base CX0 1 (fs 13) (fds 13) P_is_within (spF K none F_is_within) :=
  fn_pd (io := none) (k := 0) T.f_is_within sc_is_within (by decide) (fun cdv A outer s H E C hr hio hw => (have hu : A.units + 3 + 64 < cLine := hr.units
      (pds_one (pd_ret (pd_and (pd_isi k_int T.n_isinstance T.n_int (by decide +kernel) (pd_var 0)) (pd_and (pd_not (pd_isi k_bool T.n_isinstance T.n_bool (by decide +kernel) (pd_var 0))) (pd_one (pd_lele (pd_var 1) (pd_var 0) (pd_var 2)))))))))
def g_is_row_of : MS := S.ret (M.andV (M.op1 (isD tTuple) (M.var 0)) (M.op2 eqDD (M.call lenD (M.argD (M.var 0) (M.argN))) (M.var 1)))
def F_is_row_of (lvs : List LV) : FR := runF 2 2 none g_is_row_of lvs
theorem ok_is_row_of (T : Txt K mg fs fds us) : FnOk P w K mg base CX0 1 (fs 14) (fds 14) P_is_row_of (spF K none F_is_row_of) :=
  fn_pd (io := none) (k := 0) T.f_is_row_of sc_is_row_of (by decide) (fun cdv A outer s H E C hr hio hw => (have hu : A.units + 3 + 64 < cLine := hr.units
      (pds_one (pd_ret (pd_and (pd_isi k_tuple T.n_isinstance T.n_tuple (by decide +kernel) (pd_var 0)) (pd_one (pd_eq hu (pd_len T.n_len (pda_cons (pd_var 0) (pda_nil))) (pd_var 1))))))))
def g_is_recorder : MS := S.seq (S.ite (M.orT (M.notT (M.test (M.fn none (F_is_row_of) (M.argD (M.var 0) (M.argD (M.ret (PyData.int 5)) (M.argN)))))) (M.orT (M.notT (M.test (M.fn none (F_is_within) (M.argD (M.op2 ixD (M.var 0) (M.ret (PyData.int 0))) (M.argD (M.ret (PyData.int 1)) (M.argD (M.ret (PyData.int 3)) (M.argN))))))) (M.notT (M.test (M.fn none (F_is_within) (M.argD (M.op2 ixD (M.var 0) (M.ret (PyData.int 1))) (M.argD (M.ret (PyData.int 0)) (M.argD (M.ret (PyData.int 3)) (M.argN))))))))) (S.ret (M.ret (PyData.bool false))) (S.nil))
    (S.seq (S.ite (M.orT (M.notT (M.test (M.fn none (F_is_within) (M.argD (M.op2 ixD (M.var 0) (M.ret (PyData.int 2))) (M.argD (M.ret (PyData.int 1)) (M.argD (M.ret (PyData.int 3)) (M.argN))))))) (M.notT (M.test (M.fn none (F_is_within) (M.argD (M.op2 ixD (M.var 0) (M.ret (PyData.int 4))) (M.argD (M.ret (PyData.int 0)) (M.argD (M.ret (PyData.int 3)) (M.argN)))))))) (S.ret (M.ret (PyData.bool false))) (S.nil))
    (S.ret (M.fn none (F_is_within) (M.argD (M.op2 ixD (M.var 0) (M.ret (PyData.int 3))) (M.argD (M.op2 addD (M.op2 ixD (M.var 0) (M.ret (PyData.int 0))) (M.op2 ixD (M.var 0) (M.ret (PyData.int 1)))) (M.argD (M.ret (PyData.int 10)) (M.argN)))))))
def F_is_recorder (lvs : List LV) : FR := runF 1 1 none g_is_recorder lvs
theorem ok_is_recorder (T : Txt K mg fs fds us) : FnOk P w K mg base CX0 2 (fs 15) (fds 15) P_is_recorder (spF K none F_is_recorder) :=
  fn_pd (io := none) (k := 1) T.f_is_recorder sc_is_recorder (by decide) (fun cdv A outer s H E C hr hio hw => (have hu : A.units + 3 + 64 < cLine := hr.units
      (pds_cons (pd_ifS (pdt_w (pdw_or (pdt_not (pdt_val (pd_fn (ok_is_row_of T) (hr.mono (by omega)) T.m_is_row_of T.f_is_row_of.kp T.b_is_row_of (pda_cons (pd_var 0) (pda_cons (pd_int) (pda_nil)))))) (pdw_or (pdt_not (pdt_val (pd_fn (ok_is_within T) (hr.mono (by omega)) T.m_is_within T.f_is_within.kp T.b_is_within (pda_cons (pd_sub_ (pd_var 0) (pd_int) (fun _ _ => rfl)) (pda_cons (pd_int) (pda_cons (pd_int) (pda_nil))))))) (pdw_or1 (pdt_not (pdt_val (pd_fn (ok_is_within T) (hr.mono (by omega)) T.m_is_within T.f_is_within.kp T.b_is_within (pda_cons (pd_sub_ (pd_var 0) (pd_int) (fun _ _ => rfl)) (pda_cons (pd_int) (pda_cons (pd_int) (pda_nil))))))))))) (pds_one (pd_ret (pd_bl))) (pds_nil))
      (pds_cons (pd_ifS (pdt_w (pdw_or (pdt_not (pdt_val (pd_fn (ok_is_within T) (hr.mono (by omega)) T.m_is_within T.f_is_within.kp T.b_is_within (pda_cons (pd_sub_ (pd_var 0) (pd_int) (fun _ _ => rfl)) (pda_cons (pd_int) (pda_cons (pd_int) (pda_nil))))))) (pdw_or1 (pdt_not (pdt_val (pd_fn (ok_is_within T) (hr.mono (by omega)) T.m_is_within T.f_is_within.kp T.b_is_within (pda_cons (pd_sub_ (pd_var 0) (pd_int) (fun _ _ => rfl)) (pda_cons (pd_int) (pda_cons (pd_int) (pda_nil)))))))))) (pds_one (pd_ret (pd_bl))) (pds_nil))
      (pds_one (pd_ret (pd_fn (ok_is_within T) (hr.mono (by omega)) T.m_is_within T.f_is_within.kp T.b_is_within (pda_cons (pd_sub_ (pd_var 0) (pd_int) (fun _ _ => rfl)) (pda_cons (pd_add (pd_sub_ (pd_var 0) (pd_int) (fun _ _ => rfl)) (pd_sub_ (pd_var 0) (pd_int) (fun _ _ => rfl))) (pda_cons (pd_int) (pda_nil)))))))))))
def g_is_world : MS := S.seq (S.ite (M.orT (M.notT (M.test (M.fn none (F_is_row_of) (M.argD (M.var 0) (M.argD (M.ret (PyData.int 3)) (M.argN)))))) (M.orT (M.notT (M.test (M.fn none (F_is_within) (M.argD (M.op2 ixD (M.var 0) (M.ret (PyData.int 0))) (M.argD (M.ret (PyData.int 1)) (M.argD (M.ret (PyData.int 12)) (M.argN))))))) (M.notT (M.test (M.fn none (F_is_within) (M.argD (M.op2 ixD (M.var 0) (M.ret (PyData.int 1))) (M.argD (M.op2 ixD (M.var 0) (M.ret (PyData.int 0))) (M.argD (M.ret (PyData.int 12)) (M.argN))))))))) (S.ret (M.ret (PyData.bool false))) (S.nil))
    (S.ret (M.fn none (F_is_within) (M.argD (M.op2 ixD (M.var 0) (M.ret (PyData.int 2))) (M.argD (M.ret (PyData.int 1)) (M.argD (M.ret (PyData.int 4)) (M.argN))))))
def F_is_world (lvs : List LV) : FR := runF 1 1 none g_is_world lvs
theorem ok_is_world (T : Txt K mg fs fds us) : FnOk P w K mg base CX0 2 (fs 16) (fds 16) P_is_world (spF K none F_is_world) :=
  fn_pd (io := none) (k := 1) T.f_is_world sc_is_world (by decide) (fun cdv A outer s H E C hr hio hw => (have hu : A.units + 3 + 64 < cLine := hr.units
      (pds_cons (pd_ifS (pdt_w (pdw_or (pdt_not (pdt_val (pd_fn (ok_is_row_of T) (hr.mono (by omega)) T.m_is_row_of T.f_is_row_of.kp T.b_is_row_of (pda_cons (pd_var 0) (pda_cons (pd_int) (pda_nil)))))) (pdw_or (pdt_not (pdt_val (pd_fn (ok_is_within T) (hr.mono (by omega)) T.m_is_within T.f_is_within.kp T.b_is_within (pda_cons (pd_sub_ (pd_var 0) (pd_int) (fun _ _ => rfl)) (pda_cons (pd_int) (pda_cons (pd_int) (pda_nil))))))) (pdw_or1 (pdt_not (pdt_val (pd_fn (ok_is_within T) (hr.mono (by omega)) T.m_is_within T.f_is_within.kp T.b_is_within (pda_cons (pd_sub_ (pd_var 0) (pd_int) (fun _ _ => rfl)) (pda_cons (pd_sub_ (pd_var 0) (pd_int) (fun _ _ => rfl)) (pda_cons (pd_int) (pda_nil))))))))))) (pds_one (pd_ret (pd_bl))) (pds_nil))
      (pds_one (pd_ret (pd_fn (ok_is_within T) (hr.mono (by omega)) T.m_is_within T.f_is_within.kp T.b_is_within (pda_cons (pd_sub_ (pd_var 0) (pd_int) (fun _ _ => rfl)) (pda_cons (pd_int) (pda_cons (pd_int) (pda_nil))))))))))
def E_is_row_1 : M D := M.op1 (isD tBool) (M.var 1)
def g_is_row : MS := S.seq (S.ite (M.orT (M.notT (M.test (M.op1 (isD tTuple) (M.var 0)))) (M.test (M.op2 gtD (M.call lenD (M.argD (M.var 0) (M.argN))) (M.ret cst_MOST_TICKS)))) (S.ret (M.ret (PyData.bool false))) (S.nil))
    (S.ret (M.call allD (M.argD (M.known (M.lc (M.items (M.var 0)) [1] (G.nm 1) (M.ret true) (E_is_row_1))) (M.argN))))
def F_is_row (lvs : List LV) : FR := runF 1 2 none g_is_row lvs
theorem ok_is_row (T : Txt K mg fs fds us) : FnOk P w K mg base CX0 1 (fs 17) (fds 17) P_is_row (spF K none F_is_row) :=
  fn_pd (io := none) (k := 0) T.f_is_row sc_is_row (by decide) (fun cdv A outer s H E C hr hio hw => (have hu : A.units + 3 + 64 < cLine := hr.units
      (pds_cons (pd_ifS (pdt_w (pdw_or (pdt_not (pdt_val (pd_isi k_tuple T.n_isinstance T.n_tuple (by decide +kernel) (pd_var 0)))) (pdw_or1 (pdt_gt (pd_len T.n_len (pda_cons (pd_var 0) (pda_nil))) (pd_const T.c_MOST_TICKS T.r_MOST_TICKS))))) (pds_one (pd_ret (pd_bl))) (pds_nil))
      (pds_one (pd_ret (pd_all rfl T.n_all (pda_cons (pd_l (pdl_lc (own := [(("sound" : Str), 1)]) (io_nin hio) (by decide) rfl sc_is_row.nd (blkOk_by (N := N_is_row) (sc := defScope s_is_row) (by decide +kernel)) (pdi_seq (pd_var 0)) (fun _ hc1 _ _ _ _ _ => pdg_nm (i := 1) (io_ne (io_eq hio hc1)) sc_is_row.nd) (fun _ hc1 _ _ _ _ _ => pdts_nil) (fun _ hc1 _ _ _ _ _ => pd_isi k_bool T.n_isinstance T.n_bool (by decide +kernel) (pd_var 1)))) (pda_nil))))))))
def g_look_at_recorder : MS := S.ite (M.notT (M.test (M.fn none (F_is_recorder) (M.argD (M.var 0) (M.argN))))) (S.never) (S.nil)
def F_look_at_recorder (lvs : List LV) : FR := runF 1 1 none g_look_at_recorder lvs
theorem ok_look_at_recorder (T : Txt K mg fs fds us) : FnOk P w K mg base CX0 3 (fs 18) (fds 18) P_look_at_recorder (spF K none F_look_at_recorder) :=
  fn_pd (io := none) (k := 2) T.f_look_at_recorder sc_look_at_recorder (by decide) (fun cdv A outer s H E C hr hio hw => (have hu : A.units + 3 + 64 < cLine := hr.units
      (pds_one (pd_ifS (pdt_not (pdt_val (pd_fn (ok_is_recorder T) (hr.mono (by omega)) T.m_is_recorder T.f_is_recorder.kp T.b_is_recorder (pda_cons (pd_var 0) (pda_nil))))) (pds_one (pd_never)) (pds_nil)))))
def g_look_at_world : MS := S.ite (M.notT (M.test (M.fn none (F_is_world) (M.argD (M.var 0) (M.argN))))) (S.never) (S.nil)
def F_look_at_world (lvs : List LV) : FR := runF 1 1 none g_look_at_world lvs
theorem ok_look_at_world (T : Txt K mg fs fds us) : FnOk P w K mg base CX0 3 (fs 19) (fds 19) P_look_at_world (spF K none F_look_at_world) :=
  fn_pd (io := none) (k := 2) T.f_look_at_world sc_look_at_world (by decide) (fun cdv A outer s H E C hr hio hw => (have hu : A.units + 3 + 64 < cLine := hr.units
      (pds_one (pd_ifS (pdt_not (pdt_val (pd_fn (ok_is_world T) (hr.mono (by omega)) T.m_is_world T.f_is_world.kp T.b_is_world (pda_cons (pd_var 0) (pda_nil))))) (pds_one (pd_never)) (pds_nil)))))
def g_look_at_row : MS := S.ite (M.notT (M.test (M.fn none (F_is_row) (M.argD (M.var 0) (M.argN))))) (S.never) (S.nil)
def F_look_at_row (lvs : List LV) : FR := runF 1 1 none g_look_at_row lvs
theorem ok_look_at_row (T : Txt K mg fs fds us) : FnOk P w K mg base CX0 2 (fs 20) (fds 20) P_look_at_row (spF K none F_look_at_row) :=
  fn_pd (io := none) (k := 1) T.f_look_at_row sc_look_at_row (by decide) (fun cdv A outer s H E C hr hio hw => (have hu : A.units + 3 + 64 < cLine := hr.units
      (pds_one (pd_ifS (pdt_not (pdt_val (pd_fn (ok_is_row T) (hr.mono (by omega)) T.m_is_row T.f_is_row.kp T.b_is_row (pda_cons (pd_var 0) (pda_nil))))) (pds_one (pd_never)) (pds_nil)))))
def g_look_at_sound : MS := S.ite (M.notT (M.test (M.op1 (isD tBool) (M.var 0)))) (S.never) (S.nil)
def F_look_at_sound (lvs : List LV) : FR := runF 1 1 none g_look_at_sound lvs
theorem ok_look_at_sound (T : Txt K mg fs fds us) : FnOk P w K mg base CX0 1 (fs 21) (fds 21) P_look_at_sound (spF K none F_look_at_sound) :=
  fn_pd (io := none) (k := 0) T.f_look_at_sound sc_look_at_sound (by decide) (fun cdv A outer s H E C hr hio hw => (have hu : A.units + 3 + 64 < cLine := hr.units
      (pds_one (pd_ifS (pdt_not (pdt_val (pd_isi k_bool T.n_isinstance T.n_bool (by decide +kernel) (pd_var 0)))) (pds_one (pd_never)) (pds_nil)))))
def E_is_heard_1 : M D := M.op1 (isD tBool) (M.var 7)
def g_is_heard : MS := S.seq (S.asgT (G.tup 5 (G.cons (G.nm 2) (G.cons (G.nm 3) (G.cons (G.nm 4) (G.cons (G.nm 5) (G.cons (G.nm 6) (G.nil))))))) (M.var 0))
    (S.seq (S.ite (M.orT (M.notT (M.test (M.op1 (isD tTuple) (M.var 1)))) (M.test (M.op2 gtD (M.call lenD (M.argD (M.var 1) (M.argN))) (M.op2 subD (M.op2 addD (M.var 2) (M.var 3)) (M.ret (PyData.int 1)))))) (S.ret (M.ret (PyData.bool false))) (S.nil))
    (S.seq (S.ite (M.notT (M.test (M.call allD (M.argD (M.known (M.lc (M.items (M.var 1)) [7] (G.nm 7) (M.ret true) (E_is_heard_1))) (M.argN))))) (S.ret (M.ret (PyData.bool false))) (S.nil))
    (S.ret (M.orV (M.op2 ltD (M.call lenD (M.argD (M.var 1) (M.argN))) (M.var 2)) (M.op1 notD (M.call allD (M.argD (M.slice (M.var 1) (M.part (M.op1 negD (M.var 2))) (M.ret none)) (M.argN))))))))
def F_is_heard (lvs : List LV) : FR := runF 2 8 none g_is_heard lvs
theorem ok_is_heard (T : Txt K mg fs fds us) : FnOk P w K mg base CX0 1 (fs 22) (fds 22) P_is_heard (spF K none F_is_heard) :=
  fn_pd (io := none) (k := 0) T.f_is_heard sc_is_heard (by decide) (fun cdv A outer s H E C hr hio hw => (have hu : A.units + 3 + 64 < cLine := hr.units
      (pds_cons (pd_asgT (pd_var 0) (pdg_tup rfl (pdgs_cons (pdg_nm (i := 2) (io_ne hio) sc_is_heard.nd) (pdgs_cons (pdg_nm (i := 3) (io_ne hio) sc_is_heard.nd) (pdgs_cons (pdg_nm (i := 4) (io_ne hio) sc_is_heard.nd) (pdgs_cons (pdg_nm (i := 5) (io_ne hio) sc_is_heard.nd) (pdgs_cons (pdg_nm (i := 6) (io_ne hio) sc_is_heard.nd) (pdgs_nil))))))))
      (pds_cons (pd_ifS (pdt_w (pdw_or (pdt_not (pdt_val (pd_isi k_tuple T.n_isinstance T.n_tuple (by decide +kernel) (pd_var 1)))) (pdw_or1 (pdt_gt (pd_len T.n_len (pda_cons (pd_var 1) (pda_nil))) (pd_sub (pd_add (pd_var 2) (pd_var 3)) (pd_int)))))) (pds_one (pd_ret (pd_bl))) (pds_nil))
      (pds_cons (pd_ifS (pdt_not (pdt_val (pd_all rfl T.n_all (pda_cons (pd_l (pdl_lc (own := [(("sound" : Str), 7)]) (io_nin hio) (by decide) rfl sc_is_heard.nd (blkOk_by (N := N_is_heard) (sc := defScope s_is_heard) (by decide +kernel)) (pdi_seq (pd_var 1)) (fun _ hc1 _ _ _ _ _ => pdg_nm (i := 7) (io_ne (io_eq hio hc1)) sc_is_heard.nd) (fun _ hc1 _ _ _ _ _ => pdts_nil) (fun _ hc1 _ _ _ _ _ => pd_isi k_bool T.n_isinstance T.n_bool (by decide +kernel) (pd_var 7)))) (pda_nil))))) (pds_one (pd_ret (pd_bl))) (pds_nil))
      (pds_one (pd_ret (pd_or (pd_lt (pd_len T.n_len (pda_cons (pd_var 1) (pda_nil))) (pd_var 2)) (pd_one (pd_not (pd_all rfl T.n_all (pda_cons (pd_slice (pd_var 1) (pdo_some (pd_neg (pd_var 2))) (pdo_none)) (pda_nil)))))))))))))
def g_fits : MS := S.seq (S.ite (M.orT (M.notT (M.test (M.fn none (F_is_row_of) (M.argD (M.var 1) (M.argD (M.ret (PyData.int 4)) (M.argN)))))) (M.notT (M.test (M.op1 (isD tStr) (M.op2 ixD (M.var 1) (M.ret (PyData.int 0))))))) (S.ret (M.ret (PyData.bool false))) (S.nil))
    (S.seq (S.ite (M.test (M.op2 eqDD (M.op2 ixD (M.var 1) (M.ret (PyData.int 0))) (M.ret cst_AWAKE))) (S.ret (M.andV (M.fn none (F_is_within) (M.argD (M.op2 ixD (M.var 1) (M.ret (PyData.int 1))) (M.argD (M.ret (PyData.int 0)) (M.argD (M.ret (PyData.int 0)) (M.argN))))) (M.andV (M.fn none (F_is_within) (M.argD (M.op2 ixD (M.var 1) (M.ret (PyData.int 2))) (M.argD (M.ret (PyData.int 0)) (M.argD (M.ret (PyData.int 0)) (M.argN))))) (M.fn none (F_is_heard) (M.argD (M.var 0) (M.argD (M.op2 ixD (M.var 1) (M.ret (PyData.int 3))) (M.argN))))))) (S.nil))
    (S.seq (S.ite (M.notT (M.test (M.fn none (F_is_row_of) (M.argD (M.op2 ixD (M.var 1) (M.ret (PyData.int 3))) (M.argD (M.ret (PyData.int 0)) (M.argN)))))) (S.ret (M.ret (PyData.bool false))) (S.nil))
    (S.seq (S.ite (M.test (M.op2 eqDD (M.op2 ixD (M.var 1) (M.ret (PyData.int 0))) (M.ret cst_SLEEPS))) (S.ret (M.andV (M.fn none (F_is_within) (M.argD (M.op2 ixD (M.var 1) (M.ret (PyData.int 1))) (M.argD (M.ret (PyData.int 1)) (M.argD (M.op2 ixD (M.var 0) (M.ret (PyData.int 4))) (M.argN))))) (M.fn none (F_is_within) (M.argD (M.op2 ixD (M.var 1) (M.ret (PyData.int 2))) (M.argD (M.ret (PyData.int 0)) (M.argD (M.ret (PyData.int 0)) (M.argN))))))) (S.nil))
    (S.seq (S.ite (M.orT (M.test (M.op2 neDD (M.op2 ixD (M.var 1) (M.ret (PyData.int 0))) (M.ret cst_RECORDS))) (M.notT (M.test (M.fn none (F_is_within) (M.argD (M.op2 ixD (M.var 1) (M.ret (PyData.int 1))) (M.argD (M.ret (PyData.int 1)) (M.argD (M.op2 subD (M.op2 ixD (M.var 0) (M.ret (PyData.int 3))) (M.ret (PyData.int 1))) (M.argN)))))))) (S.ret (M.ret (PyData.bool false))) (S.nil))
    (S.ret (M.fn none (F_is_within) (M.argD (M.op2 ixD (M.var 1) (M.ret (PyData.int 2))) (M.argD (M.ret (PyData.int 0)) (M.argD (M.op2 subD (M.call minD (M.argD (M.op2 ixD (M.var 0) (M.ret (PyData.int 2))) (M.argD (M.op2 ixD (M.var 1) (M.ret (PyData.int 1))) (M.argN)))) (M.ret (PyData.int 1))) (M.argN))))))))))
def F_fits (lvs : List LV) : FR := runF 2 2 none g_fits lvs
theorem ok_fits (T : Txt K mg fs fds us) : FnOk P w K mg base CX0 2 (fs 23) (fds 23) P_fits (spF K none F_fits) :=
  fn_pd (io := none) (k := 1) T.f_fits sc_fits (by decide) (fun cdv A outer s H E C hr hio hw => (have hu : A.units + 3 + 64 < cLine := hr.units
      (pds_cons (pd_ifS (pdt_w (pdw_or (pdt_not (pdt_val (pd_fn (ok_is_row_of T) (hr.mono (by omega)) T.m_is_row_of T.f_is_row_of.kp T.b_is_row_of (pda_cons (pd_var 1) (pda_cons (pd_int) (pda_nil)))))) (pdw_or1 (pdt_not (pdt_val (pd_isi k_str T.n_isinstance T.n_str (by decide +kernel) (pd_sub_ (pd_var 1) (pd_int) (fun _ _ => rfl)))))))) (pds_one (pd_ret (pd_bl))) (pds_nil))
      (pds_cons (pd_ifS (pdt_eq hu (pd_sub_ (pd_var 1) (pd_int) (fun _ _ => rfl)) (pd_const T.c_AWAKE T.r_AWAKE)) (pds_one (pd_ret (pd_and (pd_fn (ok_is_within T) (hr.mono (by omega)) T.m_is_within T.f_is_within.kp T.b_is_within (pda_cons (pd_sub_ (pd_var 1) (pd_int) (fun _ _ => rfl)) (pda_cons (pd_int) (pda_cons (pd_int) (pda_nil))))) (pd_and (pd_fn (ok_is_within T) (hr.mono (by omega)) T.m_is_within T.f_is_within.kp T.b_is_within (pda_cons (pd_sub_ (pd_var 1) (pd_int) (fun _ _ => rfl)) (pda_cons (pd_int) (pda_cons (pd_int) (pda_nil))))) (pd_one (pd_fn (ok_is_heard T) (hr.mono (by omega)) T.m_is_heard T.f_is_heard.kp T.b_is_heard (pda_cons (pd_var 0) (pda_cons (pd_sub_ (pd_var 1) (pd_int) (fun _ _ => rfl)) (pda_nil))))))))) (pds_nil))
      (pds_cons (pd_ifS (pdt_not (pdt_val (pd_fn (ok_is_row_of T) (hr.mono (by omega)) T.m_is_row_of T.f_is_row_of.kp T.b_is_row_of (pda_cons (pd_sub_ (pd_var 1) (pd_int) (fun _ _ => rfl)) (pda_cons (pd_int) (pda_nil)))))) (pds_one (pd_ret (pd_bl))) (pds_nil))
      (pds_cons (pd_ifS (pdt_eq hu (pd_sub_ (pd_var 1) (pd_int) (fun _ _ => rfl)) (pd_const T.c_SLEEPS T.r_SLEEPS)) (pds_one (pd_ret (pd_and (pd_fn (ok_is_within T) (hr.mono (by omega)) T.m_is_within T.f_is_within.kp T.b_is_within (pda_cons (pd_sub_ (pd_var 1) (pd_int) (fun _ _ => rfl)) (pda_cons (pd_int) (pda_cons (pd_sub_ (pd_var 0) (pd_int) (fun _ _ => rfl)) (pda_nil))))) (pd_one (pd_fn (ok_is_within T) (hr.mono (by omega)) T.m_is_within T.f_is_within.kp T.b_is_within (pda_cons (pd_sub_ (pd_var 1) (pd_int) (fun _ _ => rfl)) (pda_cons (pd_int) (pda_cons (pd_int) (pda_nil))))))))) (pds_nil))
      (pds_cons (pd_ifS (pdt_w (pdw_or (pdt_ne hu (pd_sub_ (pd_var 1) (pd_int) (fun _ _ => rfl)) (pd_const T.c_RECORDS T.r_RECORDS)) (pdw_or1 (pdt_not (pdt_val (pd_fn (ok_is_within T) (hr.mono (by omega)) T.m_is_within T.f_is_within.kp T.b_is_within (pda_cons (pd_sub_ (pd_var 1) (pd_int) (fun _ _ => rfl)) (pda_cons (pd_int) (pda_cons (pd_sub (pd_sub_ (pd_var 0) (pd_int) (fun _ _ => rfl)) (pd_int)) (pda_nil)))))))))) (pds_one (pd_ret (pd_bl))) (pds_nil))
      (pds_one (pd_ret (pd_fn (ok_is_within T) (hr.mono (by omega)) T.m_is_within T.f_is_within.kp T.b_is_within (pda_cons (pd_sub_ (pd_var 1) (pd_int) (fun _ _ => rfl)) (pda_cons (pd_int) (pda_cons (pd_sub (pd_min rfl T.n_min (pda_cons (pd_sub_ (pd_var 0) (pd_int) (fun _ _ => rfl)) (pda_cons (pd_sub_ (pd_var 1) (pd_int) (fun _ _ => rfl)) (pda_nil)))) (pd_int)) (pda_nil))))))))))))))
def g_look_at_stand : MS := S.ite (M.notT (M.test (M.fn none (F_fits) (M.argD (M.var 0) (M.argD (M.var 1) (M.argN)))))) (S.never) (S.nil)
def F_look_at_stand (lvs : List LV) : FR := runF 2 2 none g_look_at_stand lvs
theorem ok_look_at_stand (T : Txt K mg fs fds us) : FnOk P w K mg base CX0 3 (fs 24) (fds 24) P_look_at_stand (spF K none F_look_at_stand) :=
  fn_pd (io := none) (k := 2) T.f_look_at_stand sc_look_at_stand (by decide) (fun cdv A outer s H E C hr hio hw => (have hu : A.units + 3 + 64 < cLine := hr.units
      (pds_one (pd_ifS (pdt_not (pdt_val (pd_fn (ok_fits T) (hr.mono (by omega)) T.m_fits T.f_fits.kp T.b_fits (pda_cons (pd_var 0) (pda_cons (pd_var 1) (pda_nil)))))) (pds_one (pd_never)) (pds_nil)))))
def g_ended : MS := S.ret (M.ite (M.test (M.op2 gtD (M.op2 ixD (M.var 0) (M.ret (PyData.int 4))) (M.ret (PyData.int 0)))) (M.tup (M.argD (M.ret cst_SLEEPS) (M.argD (M.op2 ixD (M.var 0) (M.ret (PyData.int 4))) (M.argD (M.ret (PyData.int 0)) (M.argD (M.tup (M.argN)) (M.argN)))))) (M.ret cst_FRESH))
def F_ended (lvs : List LV) : FR := runF 1 1 none g_ended lvs
theorem ok_ended (T : Txt K mg fs fds us) : FnOk P w K mg base CX0 1 (fs 26) (fds 26) P_ended (spF K none F_ended) :=
  fn_pd (io := none) (k := 0) T.f_ended sc_ended (by decide) (fun cdv A outer s H E C hr hio hw => (have hu : A.units + 3 + 64 < cLine := hr.units
      (pds_one (pd_ret (pd_if (pdt_gt (pd_sub_ (pd_var 0) (pd_int) (fun _ _ => rfl)) (pd_int)) (pd_tup (pda_cons (pd_const T.c_SLEEPS T.r_SLEEPS) (pda_cons (pd_sub_ (pd_var 0) (pd_int) (fun _ _ => rfl)) (pda_cons (pd_int) (pda_cons (pd_tup (pda_nil)) (pda_nil)))))) (pd_const T.c_FRESH T.r_FRESH))))))
def g_step : MS := S.seq (S.asgT (G.tup 5 (G.cons (G.nm 3) (G.cons (G.nm 4) (G.cons (G.nm 5) (G.cons (G.nm 6) (G.cons (G.nm 7) (G.nil))))))) (M.var 0))
    (S.seq (S.asgT (G.tup 4 (G.cons (G.nm 8) (G.cons (G.nm 9) (G.cons (G.nm 10) (G.cons (G.nm 11) (G.nil)))))) (M.var 1))
    (S.seq (S.ite (M.test (M.op2 eqDD (M.var 8) (M.ret cst_SLEEPS))) (S.ret (M.tup (M.argD (M.ite (M.test (M.op2 gtD (M.var 9) (M.ret (PyData.int 1)))) (M.tup (M.argD (M.ret cst_SLEEPS) (M.argD (M.op2 subD (M.var 9) (M.ret (PyData.int 1))) (M.argD (M.ret (PyData.int 0)) (M.argD (M.tup (M.argN)) (M.argN)))))) (M.ret cst_FRESH)) (M.argD (M.ret (PyData.int 0)) (M.argN))))) (S.nil))
    (S.seq (S.ite (M.test (M.op2 eqDD (M.var 8) (M.ret cst_AWAKE))) (S.seq (S.asg 11 (M.op2 addD (M.var 11) (M.tup (M.argD (M.var 2) (M.argN)))))
    (S.seq (S.ite (M.orT (M.test (M.op2 ltD (M.call lenD (M.argD (M.var 11) (M.argN))) (M.var 3))) (M.notT (M.test (M.call allD (M.argD (M.slice (M.var 11) (M.part (M.op1 negD (M.var 3))) (M.ret none)) (M.argN)))))) (S.ret (M.tup (M.argD (M.tup (M.argD (M.ret cst_AWAKE) (M.argD (M.ret (PyData.int 0)) (M.argD (M.ret (PyData.int 0)) (M.argD (M.slice (M.var 11) (M.part (M.call maxD (M.argD (M.ret (PyData.int 0)) (M.argD (M.op2 addD (M.op2 subD (M.op2 subD (M.call lenD (M.argD (M.var 11) (M.argN))) (M.var 3)) (M.var 4)) (M.ret (PyData.int 1))) (M.argN))))) (M.ret none)) (M.argN)))))) (M.argD (M.ret (PyData.int 0)) (M.argN))))) (S.nil))
    (S.par3 9 10 12 (M.argD (M.call lenD (M.argD (M.var 11) (M.argN))) (M.argD (M.ret (PyData.int 0)) (M.argD (M.call lenD (M.argD (M.var 11) (M.argN))) (M.argN))))))) (S.par3 9 10 12 (M.argD (M.op2 addD (M.var 9) (M.ret (PyData.int 1))) (M.argD (M.ite (M.test (M.var 2)) (M.ret (PyData.int 0)) (M.op2 addD (M.var 10) (M.ret (PyData.int 1)))) (M.argD (M.ret (PyData.int 1)) (M.argN))))))
    (S.seq (S.ite (M.orT (M.test (M.op2 eqDD (M.var 10) (M.var 5))) (M.test (M.op2 eqDD (M.var 9) (M.var 6)))) (S.ret (M.tup (M.argD (M.fn none (F_ended) (M.argD (M.var 0) (M.argN))) (M.argD (M.var 12) (M.argN))))) (S.nil))
    (S.ret (M.tup (M.argD (M.tup (M.argD (M.ret cst_RECORDS) (M.argD (M.var 9) (M.argD (M.var 10) (M.argD (M.tup (M.argN)) (M.argN)))))) (M.argD (M.var 12) (M.argN)))))))))
def F_step (lvs : List LV) : FR := runF 3 13 none g_step lvs
theorem ok_step (T : Txt K mg fs fds us) : FnOk P w K mg base CX0 2 (fs 27) (fds 27) P_step (spF K none F_step) :=
  fn_pd (io := none) (k := 1) T.f_step sc_step (by decide) (fun cdv A outer s H E C hr hio hw => (have hu : A.units + 3 + 64 < cLine := hr.units
      (pds_cons (pd_asgT (pd_var 0) (pdg_tup rfl (pdgs_cons (pdg_nm (i := 3) (io_ne hio) sc_step.nd) (pdgs_cons (pdg_nm (i := 4) (io_ne hio) sc_step.nd) (pdgs_cons (pdg_nm (i := 5) (io_ne hio) sc_step.nd) (pdgs_cons (pdg_nm (i := 6) (io_ne hio) sc_step.nd) (pdgs_cons (pdg_nm (i := 7) (io_ne hio) sc_step.nd) (pdgs_nil))))))))
      (pds_cons (pd_asgT (pd_var 1) (pdg_tup rfl (pdgs_cons (pdg_nm (i := 8) (io_ne hio) sc_step.nd) (pdgs_cons (pdg_nm (i := 9) (io_ne hio) sc_step.nd) (pdgs_cons (pdg_nm (i := 10) (io_ne hio) sc_step.nd) (pdgs_cons (pdg_nm (i := 11) (io_ne hio) sc_step.nd) (pdgs_nil)))))))
      (pds_cons (pd_ifS (pdt_eq hu (pd_var 8) (pd_const T.c_SLEEPS T.r_SLEEPS)) (pds_one (pd_ret (pd_tup (pda_cons (pd_if (pdt_gt (pd_var 9) (pd_int)) (pd_tup (pda_cons (pd_const T.c_SLEEPS T.r_SLEEPS) (pda_cons (pd_sub (pd_var 9) (pd_int)) (pda_cons (pd_int) (pda_cons (pd_tup (pda_nil)) (pda_nil)))))) (pd_const T.c_FRESH T.r_FRESH)) (pda_cons (pd_int) (pda_nil)))))) (pds_nil))
      (pds_cons (pd_ifS (pdt_eq hu (pd_var 8) (pd_const T.c_AWAKE T.r_AWAKE)) (pds_cons (pd_set (i := 11) (io_ne hio) sc_step.nd (pd_add (pd_var 11) (pd_tup (pda_cons (pd_var 2) (pda_nil)))))
      (pds_cons (pd_ifS (pdt_w (pdw_or (pdt_lt (pd_len T.n_len (pda_cons (pd_var 11) (pda_nil))) (pd_var 3)) (pdw_or1 (pdt_not (pdt_val (pd_all rfl T.n_all (pda_cons (pd_slice (pd_var 11) (pdo_some (pd_neg (pd_var 3))) (pdo_none)) (pda_nil)))))))) (pds_one (pd_ret (pd_tup (pda_cons (pd_tup (pda_cons (pd_const T.c_AWAKE T.r_AWAKE) (pda_cons (pd_int) (pda_cons (pd_int) (pda_cons (pd_slice (pd_var 11) (pdo_some (pd_max rfl T.n_max (pda_cons (pd_int) (pda_cons (pd_add (pd_sub (pd_sub (pd_len T.n_len (pda_cons (pd_var 11) (pda_nil))) (pd_var 3)) (pd_var 4)) (pd_int)) (pda_nil))))) (pdo_none)) (pda_nil)))))) (pda_cons (pd_int) (pda_nil)))))) (pds_nil))
      (pds_one (pd_par3 (i := 9) (j := 10) (l := 12) (io_ne hio) (io_ne hio) (io_ne hio) rfl sc_step.nd (pda_cons (pd_len T.n_len (pda_cons (pd_var 11) (pda_nil))) (pda_cons (pd_int) (pda_cons (pd_len T.n_len (pda_cons (pd_var 11) (pda_nil))) (pda_nil)))))))) (pds_one (pd_par3 (i := 9) (j := 10) (l := 12) (io_ne hio) (io_ne hio) (io_ne hio) rfl sc_step.nd (pda_cons (pd_add (pd_var 9) (pd_int)) (pda_cons (pd_if (pdt_val (pd_var 2)) (pd_int) (pd_add (pd_var 10) (pd_int))) (pda_cons (pd_int) (pda_nil)))))))
      (pds_cons (pd_ifS (pdt_w (pdw_or (pdt_eq hu (pd_var 10) (pd_var 5)) (pdw_or1 (pdt_eq hu (pd_var 9) (pd_var 6))))) (pds_one (pd_ret (pd_tup (pda_cons (pd_fn (ok_ended T) (hr.mono (by omega)) T.m_ended T.f_ended.kp T.b_ended (pda_cons (pd_var 0) (pda_nil))) (pda_cons (pd_var 12) (pda_nil)))))) (pds_nil))
      (pds_one (pd_ret (pd_tup (pda_cons (pd_tup (pda_cons (pd_const T.c_RECORDS T.r_RECORDS) (pda_cons (pd_var 9) (pda_cons (pd_var 10) (pda_cons (pd_tup (pda_nil)) (pda_nil)))))) (pda_cons (pd_var 12) (pda_nil)))))))))))))
def B_led_1 : MS := S.app 2 (M.op2 ixD (M.fn none (F_step) (M.argD (M.var 0) (M.argD (M.subO 2 (M.op1 negD (M.ret (PyData.int 1)))) (M.argD (M.var 3) (M.argN))))) (M.ret (PyData.int 0)))
def g_led : MS := S.seq (S.own 2 (M.lst (M.argD (M.ret cst_FRESH) (M.argN))))
    (S.seq (S.for_ (M.items (M.var 1)) (G.nm 3) (B_led_1))
    (S.retO 2))
def F_led (lvs : List LV) : FR := runF 2 4 none g_led lvs
theorem ok_led (T : Txt K mg fs fds us) : FnOk P w K mg base CX0 3 (fs 28) (fds 28) P_led (spF K none F_led) :=
  fn_pd (io := none) (k := 2) T.f_led sc_led (by decide) (fun cdv A outer s H E C hr hio hw => (have hu : A.units + 3 + 64 < cLine := hr.units
      (pds_cons (pd_own (i := 2) (io_ne hio) sc_led.nd (pdl_lst (pda_cons (pd_const T.c_FRESH T.r_FRESH) (pda_nil))))
      (pds_cons (pd_for PassesOwn.never rfl (pdi_seq (pd_var 1)) (pdg_nm (i := 3) (io_ne hio) sc_led.nd) (pds_one (pd_app 2 (pd_sub_ (pd_fn (ok_step T) (hr.mono (by omega)) T.m_step T.f_step.kp T.b_step (pda_cons (pd_var 0) (pda_cons (pd_subO 2 (pd_neg (pd_int)) (fun _ _ => rfl)) (pda_cons (pd_var 3) (pda_nil))))) (pd_int) (fun _ _ => rfl)))))
      (pds_one (pd_retO 2 (io_ne hio)))))))
def g_left_of : MS := S.ret (M.ite (M.test (M.op2 eqDD (M.op2 ixD (M.var 1) (M.ret (PyData.int 0))) (M.ret cst_RECORDS))) (M.call minD (M.argD (M.op2 subD (M.op2 ixD (M.var 0) (M.ret (PyData.int 2))) (M.op2 ixD (M.var 1) (M.ret (PyData.int 2)))) (M.argD (M.op2 subD (M.op2 ixD (M.var 0) (M.ret (PyData.int 3))) (M.op2 ixD (M.var 1) (M.ret (PyData.int 1)))) (M.argN)))) (M.ret (PyData.int 0)))
def F_left_of (lvs : List LV) : FR := runF 2 2 none g_left_of lvs
theorem ok_left_of (T : Txt K mg fs fds us) : FnOk P w K mg base CX0 1 (fs 29) (fds 29) P_left_of (spF K none F_left_of) :=
  fn_pd (io := none) (k := 0) T.f_left_of sc_left_of (by decide) (fun cdv A outer s H E C hr hio hw => (have hu : A.units + 3 + 64 < cLine := hr.units
      (pds_one (pd_ret (pd_if (pdt_eq hu (pd_sub_ (pd_var 1) (pd_int) (fun _ _ => rfl)) (pd_const T.c_RECORDS T.r_RECORDS)) (pd_min rfl T.n_min (pda_cons (pd_sub (pd_sub_ (pd_var 0) (pd_int) (fun _ _ => rfl)) (pd_sub_ (pd_var 1) (pd_int) (fun _ _ => rfl))) (pda_cons (pd_sub (pd_sub_ (pd_var 0) (pd_int) (fun _ _ => rfl)) (pd_sub_ (pd_var 1) (pd_int) (fun _ _ => rfl))) (pda_nil)))) (pd_int))))))
def B_recordings_of_1 : MS := S.seq (S.asg 6 (M.var 3))
    (S.seq (S.asgT (G.tup 2 (G.cons (G.nm 3) (G.cons (G.nm 7) (G.nil)))) (M.fn none (F_step) (M.argD (M.var 0) (M.argD (M.var 6) (M.argD (M.var 5) (M.argN))))))
    (S.ite (M.andT (M.test (M.op2 gtD (M.var 7) (M.ret (PyData.int 0)))) (M.test (M.op2 eqDD (M.op2 ixD (M.var 6) (M.ret (PyData.int 0))) (M.ret cst_AWAKE)))) (S.asg 2 (M.known (M.catL (M.var 2) (M.known (M.lst (M.argD (M.tup (M.argD (M.op2 addD (M.op2 subD (M.var 4) (M.var 7)) (M.ret (PyData.int 1))) (M.argD (M.var 4) (M.argN)))) (M.argN))))))) (S.ite (M.test (M.op2 gtD (M.var 7) (M.ret (PyData.int 0)))) (S.asg 2 (M.known (M.catL (M.known (M.sliceL (M.var 2) (M.ret none) (M.part (M.op1 negD (M.ret (PyData.int 1)))))) (M.known (M.lst (M.argD (M.tup (M.argD (M.op2 ixD (M.op2 ixD (M.var 2) (M.op1 negD (M.ret (PyData.int 1)))) (M.ret (PyData.int 0))) (M.argD (M.var 4) (M.argN)))) (M.argN))))))) (S.nil))))
def g_recordings_of : MS := S.seq (S.asg 2 (M.known (M.lst (M.argN))))
    (S.seq (S.asg 3 (M.ret cst_FRESH))
    (S.seq (S.for_ (M.callL enumD (M.argD (M.var 1) (M.argN))) (G.tup 2 (G.cons (G.nm 4) (G.cons (G.nm 5) (G.nil)))) (B_recordings_of_1))
    (S.seq (S.ite (M.test (M.op2 eqDD (M.op2 ixD (M.var 3) (M.ret (PyData.int 0))) (M.ret cst_RECORDS))) (S.asg 2 (M.known (M.catL (M.known (M.sliceL (M.var 2) (M.ret none) (M.part (M.op1 negD (M.ret (PyData.int 1)))))) (M.known (M.lst (M.argD (M.tup (M.argD (M.op2 ixD (M.op2 ixD (M.var 2) (M.op1 negD (M.ret (PyData.int 1)))) (M.ret (PyData.int 0))) (M.argD (M.op2 addD (M.op2 subD (M.call lenD (M.argD (M.var 1) (M.argN))) (M.ret (PyData.int 1))) (M.fn none (F_left_of) (M.argD (M.var 0) (M.argD (M.var 3) (M.argN))))) (M.argN)))) (M.argN))))))) (S.nil))
    (S.ret (M.var 2)))))
def F_recordings_of (lvs : List LV) : FR := runF 2 8 none g_recordings_of lvs
theorem ok_recordings_of (T : Txt K mg fs fds us) : FnOk P w K mg base CX0 3 (fs 30) (fds 30) P_recordings_of (spF K none F_recordings_of) :=
  fn_pd (io := none) (k := 2) T.f_recordings_of sc_recordings_of (by decide) (fun cdv A outer s H E C hr hio hw => (have hu : A.units + 3 + 64 < cLine := hr.units
      (pds_cons (pd_set (i := 2) (io_ne hio) sc_recordings_of.nd (pd_l (pdl_lst (pda_nil))))
      (pds_cons (pd_set (i := 3) (io_ne hio) sc_recordings_of.nd (pd_const T.c_FRESH T.r_FRESH))
      (pds_cons (pd_for PassesOwn.never rfl (pdi_enum T.n_enumerate (pda_cons (pd_var 1) (pda_nil))) (pdg_tup rfl (pdgs_cons (pdg_nm (i := 4) (io_ne hio) sc_recordings_of.nd) (pdgs_cons (pdg_nm (i := 5) (io_ne hio) sc_recordings_of.nd) (pdgs_nil)))) (pds_cons (pd_set (i := 6) (io_ne hio) sc_recordings_of.nd (pd_var 3))
      (pds_cons (pd_asgT (pd_fn (ok_step T) (hr.mono (by omega)) T.m_step T.f_step.kp T.b_step (pda_cons (pd_var 0) (pda_cons (pd_var 6) (pda_cons (pd_var 5) (pda_nil))))) (pdg_tup rfl (pdgs_cons (pdg_nm (i := 3) (io_ne hio) sc_recordings_of.nd) (pdgs_cons (pdg_nm (i := 7) (io_ne hio) sc_recordings_of.nd) (pdgs_nil)))))
      (pds_one (pd_ifS (pdt_w (pdw_and (pdt_gt (pd_var 7) (pd_int)) (pdw_and1 (pdt_eq hu (pd_sub_ (pd_var 6) (pd_int) (fun _ _ => rfl)) (pd_const T.c_AWAKE T.r_AWAKE))))) (pds_one (pd_set (i := 2) (io_ne hio) sc_recordings_of.nd (pd_l (pdl_cat (pd_var 2) (pd_l (pdl_lst (pda_cons (pd_tup (pda_cons (pd_add (pd_sub (pd_var 4) (pd_var 7)) (pd_int)) (pda_cons (pd_var 4) (pda_nil)))) (pda_nil)))))))) (pds_one (pd_ifS (pdt_gt (pd_var 7) (pd_int)) (pds_one (pd_set (i := 2) (io_ne hio) sc_recordings_of.nd (pd_l (pdl_cat (pd_l (pdl_slice (pd_var 2) (pdo_none) (pdo_some (pd_neg (pd_int))))) (pd_l (pdl_lst (pda_cons (pd_tup (pda_cons (pd_sub_ (pd_sub_ (pd_var 2) (pd_neg (pd_int)) (fun _ _ => rfl)) (pd_int) (fun _ _ => rfl)) (pda_cons (pd_var 4) (pda_nil)))) (pda_nil)))))))) (pds_nil))))))))
      (pds_cons (pd_ifS (pdt_eq hu (pd_sub_ (pd_var 3) (pd_int) (fun _ _ => rfl)) (pd_const T.c_RECORDS T.r_RECORDS)) (pds_one (pd_set (i := 2) (io_ne hio) sc_recordings_of.nd (pd_l (pdl_cat (pd_l (pdl_slice (pd_var 2) (pdo_none) (pdo_some (pd_neg (pd_int))))) (pd_l (pdl_lst (pda_cons (pd_tup (pda_cons (pd_sub_ (pd_sub_ (pd_var 2) (pd_neg (pd_int)) (fun _ _ => rfl)) (pd_int) (fun _ _ => rfl)) (pda_cons (pd_add (pd_sub (pd_len T.n_len (pda_cons (pd_var 1) (pda_nil))) (pd_int)) (pd_fn (ok_left_of T) (hr.mono (by omega)) T.m_left_of T.f_left_of.kp T.b_left_of (pda_cons (pd_var 0) (pda_cons (pd_var 3) (pda_nil))))) (pda_nil)))) (pda_nil)))))))) (pds_nil))
      (pds_one (pd_ret (pd_var 2)))))))))
def B_sounds_of_1 : MS := S.ite (M.andT (M.test (M.var 3)) (M.andT (M.test (M.op2 gtD (M.var 2) (M.ret (PyData.int 0)))) (M.test (M.op2 ixD (M.var 0) (M.op2 subD (M.var 2) (M.ret (PyData.int 1))))))) (S.asg 1 (M.known (M.catL (M.known (M.sliceL (M.var 1) (M.ret none) (M.part (M.op1 negD (M.ret (PyData.int 1)))))) (M.known (M.lst (M.argD (M.tup (M.argD (M.op2 ixD (M.op2 ixD (M.var 1) (M.op1 negD (M.ret (PyData.int 1)))) (M.ret (PyData.int 0))) (M.argD (M.var 2) (M.argN)))) (M.argN))))))) (S.ite (M.test (M.var 3)) (S.asg 1 (M.known (M.catL (M.var 1) (M.known (M.lst (M.argD (M.tup (M.argD (M.var 2) (M.argD (M.var 2) (M.argN)))) (M.argN))))))) (S.nil))
def g_sounds_of : MS := S.seq (S.asg 1 (M.known (M.lst (M.argN))))
    (S.seq (S.for_ (M.callL enumD (M.argD (M.var 0) (M.argN))) (G.tup 2 (G.cons (G.nm 2) (G.cons (G.nm 3) (G.nil)))) (B_sounds_of_1))
    (S.ret (M.var 1)))
def F_sounds_of (lvs : List LV) : FR := runF 1 4 none g_sounds_of lvs
theorem ok_sounds_of (T : Txt K mg fs fds us) : FnOk P w K mg base CX0 1 (fs 31) (fds 31) P_sounds_of (spF K none F_sounds_of) :=
  fn_pd (io := none) (k := 0) T.f_sounds_of sc_sounds_of (by decide) (fun cdv A outer s H E C hr hio hw => (have hu : A.units + 3 + 64 < cLine := hr.units
      (pds_cons (pd_set (i := 1) (io_ne hio) sc_sounds_of.nd (pd_l (pdl_lst (pda_nil))))
      (pds_cons (pd_for PassesOwn.never rfl (pdi_enum T.n_enumerate (pda_cons (pd_var 0) (pda_nil))) (pdg_tup rfl (pdgs_cons (pdg_nm (i := 2) (io_ne hio) sc_sounds_of.nd) (pdgs_cons (pdg_nm (i := 3) (io_ne hio) sc_sounds_of.nd) (pdgs_nil)))) (pds_one (pd_ifS (pdt_w (pdw_and (pdt_val (pd_var 3)) (pdw_and (pdt_gt (pd_var 2) (pd_int)) (pdw_and1 (pdt_val (pd_sub_ (pd_var 0) (pd_sub (pd_var 2) (pd_int)) (fun _ _ => rfl))))))) (pds_one (pd_set (i := 1) (io_ne hio) sc_sounds_of.nd (pd_l (pdl_cat (pd_l (pdl_slice (pd_var 1) (pdo_none) (pdo_some (pd_neg (pd_int))))) (pd_l (pdl_lst (pda_cons (pd_tup (pda_cons (pd_sub_ (pd_sub_ (pd_var 1) (pd_neg (pd_int)) (fun _ _ => rfl)) (pd_int) (fun _ _ => rfl)) (pda_cons (pd_var 2) (pda_nil)))) (pda_nil)))))))) (pds_one (pd_ifS (pdt_val (pd_var 3)) (pds_one (pd_set (i := 1) (io_ne hio) sc_sounds_of.nd (pd_l (pdl_cat (pd_var 1) (pd_l (pdl_lst (pda_cons (pd_tup (pda_cons (pd_var 2) (pda_cons (pd_var 2) (pda_nil)))) (pda_nil)))))))) (pds_nil))))))
      (pds_one (pd_ret (pd_var 1)))))))
def g_meet : MS := S.ret (M.andV (M.op2 leD (M.op2 ixD (M.var 0) (M.ret (PyData.int 0))) (M.op2 ixD (M.var 1) (M.ret (PyData.int 1)))) (M.op2 leD (M.op2 ixD (M.var 1) (M.ret (PyData.int 0))) (M.op2 ixD (M.var 0) (M.ret (PyData.int 1)))))
def F_meet (lvs : List LV) : FR := runF 2 2 none g_meet lvs
theorem ok_meet (T : Txt K mg fs fds us) : FnOk P w K mg base CX0 1 (fs 32) (fds 32) P_meet (spF K none F_meet) :=
  fn_pd (io := none) (k := 0) T.f_meet sc_meet (by decide) (fun cdv A outer s H E C hr hio hw => (have hu : A.units + 3 + 64 < cLine := hr.units
      (pds_one (pd_ret (pd_and (pd_le (pd_sub_ (pd_var 0) (pd_int) (fun _ _ => rfl)) (pd_sub_ (pd_var 1) (pd_int) (fun _ _ => rfl))) (pd_one (pd_le (pd_sub_ (pd_var 1) (pd_int) (fun _ _ => rfl)) (pd_sub_ (pd_var 0) (pd_int) (fun _ _ => rfl)))))))))
def E_is_in_1 : M D := M.chain leD leD (M.var 2) (M.var 0) (M.var 3)
def g_is_in : MS := S.ret (M.call anyD (M.argD (M.known (M.lc (M.items (M.var 1)) [2, 3] (G.tup 2 (G.cons (G.nm 2) (G.cons (G.nm 3) (G.nil)))) (M.ret true) (E_is_in_1))) (M.argN)))
def F_is_in (lvs : List LV) : FR := runF 2 4 none g_is_in lvs
theorem ok_is_in (T : Txt K mg fs fds us) : FnOk P w K mg base CX0 1 (fs 33) (fds 33) P_is_in (spF K none F_is_in) :=
  fn_pd (io := none) (k := 0) T.f_is_in sc_is_in (by decide) (fun cdv A outer s H E C hr hio hw => (have hu : A.units + 3 + 64 < cLine := hr.units
      (pds_one (pd_ret (pd_any rfl T.n_any (pda_cons (pd_l (pdl_lc (own := [(("first" : Str), 2), (("last" : Str), 3)]) (io_nin hio) (by decide) rfl sc_is_in.nd (blkOk_by (N := N_is_in) (sc := defScope s_is_in) (by decide +kernel)) (pdi_seq (pd_var 1)) (fun _ hc1 _ _ _ _ _ => pdg_tup rfl (pdgs_cons (pdg_nm (i := 2) (io_ne (io_eq hio hc1)) sc_is_in.nd) (pdgs_cons (pdg_nm (i := 3) (io_ne (io_eq hio hc1)) sc_is_in.nd) (pdgs_nil)))) (fun _ hc1 _ _ _ _ _ => pdts_nil) (fun _ hc1 _ _ _ _ _ => pd_lele (pd_var 2) (pd_var 0) (pd_var 3)))) (pda_nil)))))))
def E_harms_of_2 : M D := M.var 5
def T_harms_of_2 : M Bool := M.test (M.fn none (F_meet) (M.argD (M.var 7) (M.argD (M.var 5) (M.argN))))
def B_harms_of_1 : MS := S.ite (M.test (M.op2 gtD (M.call lenD (M.argD (M.known (M.lc (M.items (M.var 3)) [5] (G.nm 5) (T_harms_of_2) (E_harms_of_2))) (M.argN))) (M.ret (PyData.int 1)))) (S.asg 4 (M.known (M.catL (M.var 4) (M.known (M.lst (M.argD (M.ret (PyData.str ("joined" : Str))) (M.argN))))))) (S.nil)
def E_harms_of_4 : M D := M.var 7
def T_harms_of_4 : M Bool := M.test (M.fn none (F_meet) (M.argD (M.var 7) (M.argD (M.var 5) (M.argN))))
def B_harms_of_3 : MS := S.seq (S.asg 6 (M.known (M.lc (M.items (M.var 2)) [7] (G.nm 7) (T_harms_of_4) (E_harms_of_4))))
    (S.ite (M.test (M.op2 eqDD (M.var 6) (M.known (M.lst (M.argN))))) (S.asg 4 (M.known (M.catL (M.var 4) (M.known (M.lst (M.argD (M.ret (PyData.str ("lost" : Str))) (M.argN))))))) (S.seq (S.asg 4 (M.known (M.catL (M.known (M.catL (M.var 4) (M.known (M.repL (M.lst (M.argD (M.ret (PyData.str ("late" : Str))) (M.argN))) (M.call intD (M.argD (M.op1 notD (M.fn none (F_is_in) (M.argD (M.op2 ixD (M.var 5) (M.ret (PyData.int 0))) (M.argD (M.var 6) (M.argN))))) (M.argN))))))) (M.known (M.repL (M.lst (M.argD (M.ret (PyData.str ("early" : Str))) (M.argN))) (M.call intD (M.argD (M.op1 notD (M.fn none (F_is_in) (M.argD (M.op2 ixD (M.var 5) (M.ret (PyData.int 1))) (M.argD (M.var 6) (M.argN))))) (M.argN))))))))
    (S.asg 4 (M.known (M.catL (M.var 4) (M.known (M.repL (M.lst (M.argD (M.ret (PyData.str ("parted" : Str))) (M.argN))) (M.call intD (M.argD (M.op2 gtD (M.call lenD (M.argD (M.var 6) (M.argN))) (M.ret (PyData.int 1))) (M.argN))))))))))
def g_harms_of : MS := S.seq (S.par2 2 3 (M.argD (M.fn none (F_recordings_of) (M.argD (M.var 0) (M.argD (M.var 1) (M.argN)))) (M.argD (M.fn none (F_sounds_of) (M.argD (M.var 1) (M.argN))) (M.argN))))
    (S.seq (S.asg 4 (M.known (M.lst (M.argN))))
    (S.seq (S.for_ (M.items (M.var 3)) (G.nm 5) (B_harms_of_3))
    (S.seq (S.for_ (M.items (M.var 2)) (G.nm 7) (B_harms_of_1))
    (S.ret (M.known (M.sortset (M.var 4)))))))
def F_harms_of (lvs : List LV) : FR := runF 2 8 none g_harms_of lvs
theorem ok_harms_of (T : Txt K mg fs fds us) : FnOk P w K mg base CX0 4 (fs 34) (fds 34) P_harms_of (spF K none F_harms_of) :=
  fn_pd (io := none) (k := 3) T.f_harms_of sc_harms_of (by decide) (fun cdv A outer s H E C hr hio hw => (have hu : A.units + 3 + 64 < cLine := hr.units
      (pds_cons (pd_par2 (i := 2) (j := 3) (io_ne hio) (io_ne hio) rfl sc_harms_of.nd (pda_cons (pd_fn (ok_recordings_of T) (hr.mono (by omega)) T.m_recordings_of T.f_recordings_of.kp T.b_recordings_of (pda_cons (pd_var 0) (pda_cons (pd_var 1) (pda_nil)))) (pda_cons (pd_fn (ok_sounds_of T) (hr.mono (by omega)) T.m_sounds_of T.f_sounds_of.kp T.b_sounds_of (pda_cons (pd_var 1) (pda_nil))) (pda_nil))))
      (pds_cons (pd_set (i := 4) (io_ne hio) sc_harms_of.nd (pd_l (pdl_lst (pda_nil))))
      (pds_cons (pd_for PassesOwn.never rfl (pdi_seq (pd_var 3)) (pdg_nm (i := 5) (io_ne hio) sc_harms_of.nd) (pds_cons (pd_setLcF (i := 6) (io_ne hio) (own := [(("one" : Str), 7)]) (io_nin hio) (by decide) rfl sc_harms_of.nd (blkOk_by (N := N_harms_of) (sc := defScope s_harms_of) (by decide +kernel)) (pdi_seq (pd_var 2)) (fun _ hc5 _ _ _ _ _ => pdg_nm (i := 7) (io_ne (io_eq hio hc5)) sc_harms_of.nd) (fun _ hc5 _ _ _ _ _ => pdts_one (pdt_val (pd_fn (ok_meet T) (hr.mono (by omega)) T.m_meet T.f_meet.kp T.b_meet (pda_cons (pd_var 7) (pda_cons (pd_var 5) (pda_nil)))))) (fun _ hc5 _ _ _ _ _ => pd_var 7) (sw_true rfl rfl rfl (by decide +kernel)))
      (pds_one (pd_ifS (pdt_eq hu (pd_var 6) (pd_l (pdl_lst (pda_nil)))) (pds_one (pd_set (i := 4) (io_ne hio) sc_harms_of.nd (pd_l (pdl_cat (pd_var 4) (pd_l (pdl_lst (pda_cons (pd_str) (pda_nil)))))))) (pds_cons (pd_set (i := 4) (io_ne hio) sc_harms_of.nd (pd_l (pdl_cat (pd_l (pdl_cat (pd_var 4) (pd_l (pdl_rep (pdl_lst (pda_cons (pd_str) (pda_nil))) (fun _ hr3 => pd_int1 T.n_int (pda_cons (pd_not (pd_fn (ok_is_in T) (hr.mono (by omega)) T.m_is_in T.f_is_in.kp T.b_is_in (pda_cons (pd_sub_ (pd_var 5) (pd_int) (fun _ _ => rfl)) (pda_cons (pd_var 6) (pda_nil))))) (pda_nil))))))) (pd_l (pdl_rep (pdl_lst (pda_cons (pd_str) (pda_nil))) (fun _ hr4 => pd_int1 T.n_int (pda_cons (pd_not (pd_fn (ok_is_in T) (hr.mono (by omega)) T.m_is_in T.f_is_in.kp T.b_is_in (pda_cons (pd_sub_ (pd_var 5) (pd_int) (fun _ _ => rfl)) (pda_cons (pd_var 6) (pda_nil))))) (pda_nil))))))))
      (pds_one (pd_set (i := 4) (io_ne hio) sc_harms_of.nd (pd_l (pdl_cat (pd_var 4) (pd_l (pdl_rep (pdl_lst (pda_cons (pd_str) (pda_nil))) (fun _ hr2 => pd_int1 T.n_int (pda_cons (pd_gt (pd_len T.n_len (pda_cons (pd_var 6) (pda_nil))) (pd_int)) (pda_nil))))))))))))))
      (pds_cons (pd_for PassesOwn.never rfl (pdi_seq (pd_var 2)) (pdg_nm (i := 7) (io_ne hio) sc_harms_of.nd) (pds_one (pd_ifS (pdt_gt (pd_len T.n_len (pda_cons (pd_l (pdl_lc (own := [(("sound" : Str), 5)]) (io_nin hio) (by decide) rfl sc_harms_of.nd (blkOk_by (N := N_harms_of) (sc := defScope s_harms_of) (by decide +kernel)) (pdi_seq (pd_var 3)) (fun _ hc1 _ _ _ _ _ => pdg_nm (i := 5) (io_ne (io_eq hio hc1)) sc_harms_of.nd) (fun _ hc1 _ _ _ _ _ => pdts_one (pdt_val (pd_fn (ok_meet T) (hr.mono (by omega)) T.m_meet T.f_meet.kp T.b_meet (pda_cons (pd_var 7) (pda_cons (pd_var 5) (pda_nil)))))) (fun _ hc1 _ _ _ _ _ => pd_var 5))) (pda_nil))) (pd_int)) (pds_one (pd_set (i := 4) (io_ne hio) sc_harms_of.nd (pd_l (pdl_cat (pd_var 4) (pd_l (pdl_lst (pda_cons (pd_str) (pda_nil)))))))) (pds_nil))))
      (pds_one (pd_ret (pd_l (pdl_sortset rfl T.n_sorted T.n_set (pd_var 4)))))))))))
def g_after : MS := S.seq (S.drop (M.fn none (F_look_at_recorder) (M.argD (M.var 0) (M.argN))))
    (S.seq (S.drop (M.fn none (F_look_at_stand) (M.argD (M.var 0) (M.argD (M.var 1) (M.argN)))))
    (S.seq (S.drop (M.fn none (F_look_at_sound) (M.argD (M.var 2) (M.argN))))
    (S.ret (M.op2 ixD (M.fn none (F_step) (M.argD (M.var 0) (M.argD (M.var 1) (M.argD (M.var 2) (M.argN))))) (M.ret (PyData.int 0))))))
def F_after (lvs : List LV) : FR := runF 3 3 none g_after lvs
theorem ok_after (T : Txt K mg fs fds us) : FnOk P w K mg base CX0 4 (fs 35) (fds 35) P_after (spF K none F_after) :=
  fn_pd (io := none) (k := 3) T.f_after sc_after (by decide) (fun cdv A outer s H E C hr hio hw => (have hu : A.units + 3 + 64 < cLine := hr.units
      (pds_cons (pd_expr (pd_fn (ok_look_at_recorder T) (hr.mono (by omega)) T.m_look_at_recorder T.f_look_at_recorder.kp T.b_look_at_recorder (pda_cons (pd_var 0) (pda_nil))))
      (pds_cons (pd_expr (pd_fn (ok_look_at_stand T) (hr.mono (by omega)) T.m_look_at_stand T.f_look_at_stand.kp T.b_look_at_stand (pda_cons (pd_var 0) (pda_cons (pd_var 1) (pda_nil)))))
      (pds_cons (pd_expr (pd_fn (ok_look_at_sound T) (hr.mono (by omega)) T.m_look_at_sound T.f_look_at_sound.kp T.b_look_at_sound (pda_cons (pd_var 2) (pda_nil))))
      (pds_one (pd_ret (pd_sub_ (pd_fn (ok_step T) (hr.mono (by omega)) T.m_step T.f_step.kp T.b_step (pda_cons (pd_var 0) (pda_cons (pd_var 1) (pda_cons (pd_var 2) (pda_nil))))) (pd_int) (fun _ _ => rfl)))))))))
def g_stand_behind : MS := S.seq (S.drop (M.fn none (F_look_at_recorder) (M.argD (M.var 0) (M.argN))))
    (S.seq (S.drop (M.fn none (F_look_at_row) (M.argD (M.var 1) (M.argN))))
    (S.ret (M.op2 ixD (M.fn none (F_led) (M.argD (M.var 0) (M.argD (M.var 1) (M.argN)))) (M.op1 negD (M.ret (PyData.int 1))))))
def F_stand_behind (lvs : List LV) : FR := runF 2 2 none g_stand_behind lvs
theorem ok_stand_behind (T : Txt K mg fs fds us) : FnOk P w K mg base CX0 4 (fs 36) (fds 36) P_stand_behind (spF K none F_stand_behind) :=
  fn_pd (io := none) (k := 3) T.f_stand_behind sc_stand_behind (by decide) (fun cdv A outer s H E C hr hio hw => (have hu : A.units + 3 + 64 < cLine := hr.units
      (pds_cons (pd_expr (pd_fn (ok_look_at_recorder T) (hr.mono (by omega)) T.m_look_at_recorder T.f_look_at_recorder.kp T.b_look_at_recorder (pda_cons (pd_var 0) (pda_nil))))
      (pds_cons (pd_expr (pd_fn (ok_look_at_row T) (hr.mono (by omega)) T.m_look_at_row T.f_look_at_row.kp T.b_look_at_row (pda_cons (pd_var 1) (pda_nil))))
      (pds_one (pd_ret (pd_sub_ (pd_fn (ok_led T) (hr.mono (by omega)) T.m_led T.f_led.kp T.b_led (pda_cons (pd_var 0) (pda_cons (pd_var 1) (pda_nil)))) (pd_neg (pd_int)) (fun _ _ => rfl))))))))
def g_recordings : MS := S.seq (S.drop (M.fn none (F_look_at_recorder) (M.argD (M.var 0) (M.argN))))
    (S.seq (S.drop (M.fn none (F_look_at_row) (M.argD (M.var 1) (M.argN))))
    (S.ret (M.fn none (F_recordings_of) (M.argD (M.var 0) (M.argD (M.var 1) (M.argN))))))
def F_recordings (lvs : List LV) : FR := runF 2 2 none g_recordings lvs
theorem ok_recordings (T : Txt K mg fs fds us) : FnOk P w K mg base CX0 4 (fs 37) (fds 37) P_recordings (spF K none F_recordings) :=
  fn_pd (io := none) (k := 3) T.f_recordings sc_recordings (by decide) (fun cdv A outer s H E C hr hio hw => (have hu : A.units + 3 + 64 < cLine := hr.units
      (pds_cons (pd_expr (pd_fn (ok_look_at_recorder T) (hr.mono (by omega)) T.m_look_at_recorder T.f_look_at_recorder.kp T.b_look_at_recorder (pda_cons (pd_var 0) (pda_nil))))
      (pds_cons (pd_expr (pd_fn (ok_look_at_row T) (hr.mono (by omega)) T.m_look_at_row T.f_look_at_row.kp T.b_look_at_row (pda_cons (pd_var 1) (pda_nil))))
      (pds_one (pd_ret (pd_fn (ok_recordings_of T) (hr.mono (by omega)) T.m_recordings_of T.f_recordings_of.kp T.b_recordings_of (pda_cons (pd_var 0) (pda_cons (pd_var 1) (pda_nil))))))))))
def g_sounds : MS := S.seq (S.drop (M.fn none (F_look_at_row) (M.argD (M.var 0) (M.argN))))
    (S.ret (M.fn none (F_sounds_of) (M.argD (M.var 0) (M.argN))))
def F_sounds (lvs : List LV) : FR := runF 1 1 none g_sounds lvs
theorem ok_sounds (T : Txt K mg fs fds us) : FnOk P w K mg base CX0 3 (fs 38) (fds 38) P_sounds (spF K none F_sounds) :=
  fn_pd (io := none) (k := 2) T.f_sounds sc_sounds (by decide) (fun cdv A outer s H E C hr hio hw => (have hu : A.units + 3 + 64 < cLine := hr.units
      (pds_cons (pd_expr (pd_fn (ok_look_at_row T) (hr.mono (by omega)) T.m_look_at_row T.f_look_at_row.kp T.b_look_at_row (pda_cons (pd_var 0) (pda_nil))))
      (pds_one (pd_ret (pd_fn (ok_sounds_of T) (hr.mono (by omega)) T.m_sounds_of T.f_sounds_of.kp T.b_sounds_of (pda_cons (pd_var 0) (pda_nil))))))))
def g_row_harms : MS := S.seq (S.drop (M.fn none (F_look_at_recorder) (M.argD (M.var 0) (M.argN))))
    (S.seq (S.drop (M.fn none (F_look_at_row) (M.argD (M.var 1) (M.argN))))
    (S.ret (M.fn none (F_harms_of) (M.argD (M.var 0) (M.argD (M.var 1) (M.argN))))))
def F_row_harms (lvs : List LV) : FR := runF 2 2 none g_row_harms lvs
theorem ok_row_harms (T : Txt K mg fs fds us) : FnOk P w K mg base CX0 5 (fs 39) (fds 39) P_row_harms (spF K none F_row_harms) :=
  fn_pd (io := none) (k := 4) T.f_row_harms sc_row_harms (by decide) (fun cdv A outer s H E C hr hio hw => (have hu : A.units + 3 + 64 < cLine := hr.units
      (pds_cons (pd_expr (pd_fn (ok_look_at_recorder T) (hr.mono (by omega)) T.m_look_at_recorder T.f_look_at_recorder.kp T.b_look_at_recorder (pda_cons (pd_var 0) (pda_nil))))
      (pds_cons (pd_expr (pd_fn (ok_look_at_row T) (hr.mono (by omega)) T.m_look_at_row T.f_look_at_row.kp T.b_look_at_row (pda_cons (pd_var 1) (pda_nil))))
      (pds_one (pd_ret (pd_fn (ok_harms_of T) (hr.mono (by omega)) T.m_harms_of T.f_harms_of.kp T.b_harms_of (pda_cons (pd_var 0) (pda_cons (pd_var 1) (pda_nil))))))))))
def E_is_of_1 : M D := M.op2 geD (M.op2 subD (M.op2 subD (M.op2 ixD (M.var 6) (M.ret (PyData.int 0))) (M.op2 ixD (M.var 5) (M.ret (PyData.int 1)))) (M.ret (PyData.int 1))) (M.op2 ixD (M.var 0) (M.ret (PyData.int 2)))
def E_is_of_2 : M D := M.chain leD leD (M.op2 ixD (M.var 0) (M.ret (PyData.int 0))) (M.op2 addD (M.op2 subD (M.var 4) (M.var 3)) (M.ret (PyData.int 1))) (M.op2 ixD (M.var 0) (M.ret (PyData.int 1)))
def g_is_of : MS := S.seq (S.drop (M.fn none (F_look_at_world) (M.argD (M.var 0) (M.argN))))
    (S.seq (S.drop (M.fn none (F_look_at_row) (M.argD (M.var 1) (M.argN))))
    (S.seq (S.asg 2 (M.fn none (F_sounds_of) (M.argD (M.var 1) (M.argN))))
    (S.seq (S.ite (M.notT (M.test (M.call allD (M.argD (M.known (M.lc (M.items (M.var 2)) [3, 4] (G.tup 2 (G.cons (G.nm 3) (G.cons (G.nm 4) (G.nil)))) (M.ret true) (E_is_of_2))) (M.argN))))) (S.ret (M.ret (PyData.bool false))) (S.nil))
    (S.ret (M.call allD (M.argD (M.known (M.lc (M.callL zipD (M.argD (M.var 2) (M.argD (M.known (M.sliceL (M.var 2) (M.part (M.ret (PyData.int 1))) (M.ret none))) (M.argN)))) [5, 6] (G.tup 2 (G.cons (G.nm 5) (G.cons (G.nm 6) (G.nil)))) (M.ret true) (E_is_of_1))) (M.argN)))))))
def F_is_of (lvs : List LV) : FR := runF 2 7 none g_is_of lvs
theorem ok_is_of (T : Txt K mg fs fds us) : FnOk P w K mg base CX0 4 (fs 40) (fds 40) P_is_of (spF K none F_is_of) :=
  fn_pd (io := none) (k := 3) T.f_is_of sc_is_of (by decide) (fun cdv A outer s H E C hr hio hw => (have hu : A.units + 3 + 64 < cLine := hr.units
      (pds_cons (pd_expr (pd_fn (ok_look_at_world T) (hr.mono (by omega)) T.m_look_at_world T.f_look_at_world.kp T.b_look_at_world (pda_cons (pd_var 0) (pda_nil))))
      (pds_cons (pd_expr (pd_fn (ok_look_at_row T) (hr.mono (by omega)) T.m_look_at_row T.f_look_at_row.kp T.b_look_at_row (pda_cons (pd_var 1) (pda_nil))))
      (pds_cons (pd_set (i := 2) (io_ne hio) sc_is_of.nd (pd_fn (ok_sounds_of T) (hr.mono (by omega)) T.m_sounds_of T.f_sounds_of.kp T.b_sounds_of (pda_cons (pd_var 1) (pda_nil))))
      (pds_cons (pd_ifS (pdt_not (pdt_val (pd_all rfl T.n_all (pda_cons (pd_l (pdl_lc (own := [(("first" : Str), 3), (("last" : Str), 4)]) (io_nin hio) (by decide) rfl sc_is_of.nd (blkOk_by (N := N_is_of) (sc := defScope s_is_of) (by decide +kernel)) (pdi_seq (pd_var 2)) (fun _ hc2 _ _ _ _ _ => pdg_tup rfl (pdgs_cons (pdg_nm (i := 3) (io_ne (io_eq hio hc2)) sc_is_of.nd) (pdgs_cons (pdg_nm (i := 4) (io_ne (io_eq hio hc2)) sc_is_of.nd) (pdgs_nil)))) (fun _ hc2 _ _ _ _ _ => pdts_nil) (fun _ hc2 _ _ _ _ _ => pd_lele (pd_sub_ (pd_var 0) (pd_int) (fun _ _ => rfl)) (pd_add (pd_sub (pd_var 4) (pd_var 3)) (pd_int)) (pd_sub_ (pd_var 0) (pd_int) (fun _ _ => rfl))))) (pda_nil))))) (pds_one (pd_ret (pd_bl))) (pds_nil))
      (pds_one (pd_ret (pd_all rfl T.n_all (pda_cons (pd_l (pdl_lc (own := [(("sooner" : Str), 5), (("later" : Str), 6)]) (io_nin hio) (by decide) rfl sc_is_of.nd (blkOk_by (N := N_is_of) (sc := defScope s_is_of) (by decide +kernel)) (pdi_zip T.n_zip (pda_cons (pd_var 2) (pda_cons (pd_l (pdl_slice (pd_var 2) (pdo_some (pd_int)) (pdo_none))) (pda_nil)))) (fun _ hc1 _ _ _ _ _ => pdg_tup rfl (pdgs_cons (pdg_nm (i := 5) (io_ne (io_eq hio hc1)) sc_is_of.nd) (pdgs_cons (pdg_nm (i := 6) (io_ne (io_eq hio hc1)) sc_is_of.nd) (pdgs_nil)))) (fun _ hc1 _ _ _ _ _ => pdts_nil) (fun _ hc1 _ _ _ _ _ => pd_ge (pd_sub (pd_sub (pd_sub_ (pd_var 6) (pd_int) (fun _ _ => rfl)) (pd_sub_ (pd_var 5) (pd_int) (fun _ _ => rfl))) (pd_int)) (pd_sub_ (pd_var 0) (pd_int) (fun _ _ => rfl))))) (pda_nil)))))))))))
def g_f_law_spring : MS := S.seq (S.asg 2 (M.ret (PyData.int 7)))
    (S.seq (S.ite (M.test (M.op2 ltD (M.var 1) (M.call lenD (M.argD (M.var 0) (M.argN))))) (S.asg 2 (M.call absD (M.argD (M.op2 ixD (M.var 0) (M.var 1)) (M.argN)))) (S.nil))
    (S.seq (S.asg 3 (M.op2 modD (M.call intD (M.argD (M.op2 addD (M.op2 addD (M.op2 mulD (M.var 2) (M.ret (PyData.int 863))) (M.op2 mulD (M.ret (PyData.int 524287)) (M.var 1))) (M.ret (PyData.int 1))) (M.argN))) (M.ret (PyData.int 999999999989))))
    (S.retL (M.lst (M.argD (M.ite (M.test (M.op2 geD (M.var 2) (M.op2 powD (M.ret (PyData.int 10)) (M.ret (PyData.int 18))))) (M.var 2) (M.ret (PyData.int 0))) (M.argD (M.var 3) (M.argN)))))))
def F_f_law_spring (lvs : List LV) : FR := runF 2 4 none g_f_law_spring lvs
theorem ok_f_law_spring (T : Txt K mg fs fds us) : FnOk P w K mg base CX0 1 (fs 42) (fds 42) P_f_law_spring (spF K none F_f_law_spring) :=
  fn_pd (io := none) (k := 0) T.f_f_law_spring sc_f_law_spring (by decide) (fun cdv A outer s H E C hr hio hw => (have hu : A.units + 3 + 64 < cLine := hr.units
      (pds_cons (pd_set (i := 2) (io_ne hio) sc_f_law_spring.nd (pd_int))
      (pds_cons (pd_ifS (pdt_lt (pd_var 1) (pd_len T.n_len (pda_cons (pd_var 0) (pda_nil)))) (pds_one (pd_set (i := 2) (io_ne hio) sc_f_law_spring.nd (pd_abs T.n_abs (pda_cons (pd_sub_ (pd_var 0) (pd_var 1) (fun _ _ => rfl)) (pda_nil))))) (pds_nil))
      (pds_cons (pd_set (i := 3) (io_ne hio) sc_f_law_spring.nd (pd_mod (pd_int1 T.n_int (pda_cons (pd_add (pd_add (pd_mul (pd_var 2) (pd_int)) (pd_mul (pd_int) (pd_var 1))) (pd_int)) (pda_nil))) (pd_int)))
      (pds_one (pd_retL (pdl_lst (pda_cons (pd_if (pdt_ge (pd_var 2) (pd_pow (pd_int) (pd_int))) (pd_var 2) (pd_int)) (pda_cons (pd_var 3) (pda_nil)))))))))))
def g_f_law_pick : MS := S.seq (S.ite (M.test (M.op2 gtD (M.subO 0 (M.ret (PyData.int 0))) (M.ret (PyData.int 0)))) (S.seq (S.asg 2 (M.op2 modD (M.call intD (M.argD (M.subO 0 (M.ret (PyData.int 0))) (M.argN))) (M.var 1)))
    (S.seq (S.setIx 0 (M.op2 fdivD (M.subO 0 (M.ret (PyData.int 0))) (M.var 1)) (M.ret (PyData.int 0)))
    (S.ret (M.var 2)))) (S.nil))
    (S.seq (S.setIx 0 (M.op2 modD (M.call intD (M.argD (M.op2 addD (M.op2 mulD (M.subO 0 (M.ret (PyData.int 1))) (M.ret (PyData.int 393555900739))) (M.ret (PyData.int 8191))) (M.argN))) (M.ret (PyData.int 999999999989))) (M.ret (PyData.int 1)))
    (S.ret (M.op2 modD (M.call intD (M.argD (M.op2 fdivD (M.subO 0 (M.ret (PyData.int 1))) (M.ret (PyData.int 4093))) (M.argN))) (M.var 1))))
def F_f_law_pick (lvs : List LV) : FR := runF 2 3 (some 0) g_f_law_pick lvs
theorem ok_f_law_pick (T : Txt K mg fs fds us) : FnOk P w K mg base CX0 1 (fs 43) (fds 43) P_f_law_pick (spF K (some 0) F_f_law_pick) :=
  fn_pd (io := (some 0)) (k := 0) T.f_f_law_pick sc_f_law_pick (by decide) (fun cdv A outer s H E C hr hio hw => (have hu : A.units + 3 + 64 < cLine := hr.units
      (pds_cons (pd_ifS (pdt_gt (pd_subO 0 (pd_int) (fun _ _ => rfl)) (pd_int)) (pds_cons (pd_set (i := 2) (io_ne hio) sc_f_law_pick.nd (pd_mod (pd_int1 T.n_int (pda_cons (pd_subO 0 (pd_int) (fun _ _ => rfl)) (pda_nil))) (pd_var 1)))
      (pds_cons (pd_setIx 0 (pd_fdiv (pd_subO 0 (pd_int) (fun _ _ => rfl)) (pd_var 1)) (pd_int))
      (pds_one (pd_ret (pd_var 2))))) (pds_nil))
      (pds_cons (pd_setIx 0 (pd_mod (pd_int1 T.n_int (pda_cons (pd_add (pd_mul (pd_subO 0 (pd_int) (fun _ _ => rfl)) (pd_int)) (pd_int)) (pda_nil))) (pd_int)) (pd_int))
      (pds_one (pd_ret (pd_mod (pd_int1 T.n_int (pda_cons (pd_fdiv (pd_subO 0 (pd_int) (fun _ _ => rfl)) (pd_int)) (pda_nil))) (pd_var 1))))))))
def g_f_law_kind : MS := S.seq (S.ite (M.orT (M.test (M.op2 isND (M.var 0) (M.ret PyData.none))) (M.test (M.op1 (isD tBool) (M.var 0)))) (S.ret (M.ite (M.test (M.op2 isND (M.var 0) (M.ret PyData.none))) (M.ret (PyData.int 0)) (M.ret (PyData.int 1)))) (S.nil))
    (S.seq (S.ite (M.test (M.op1 (isD tSeq) (M.var 0))) (S.ret (M.ite (M.test (M.op1 (isD tList) (M.var 0))) (M.ret (PyData.int 2)) (M.ret (PyData.int 3)))) (S.nil))
    (S.ret (M.ite (M.test (M.op1 (isD tInt) (M.var 0))) (M.ret (PyData.int 4)) (M.ite (M.test (M.op1 (isD tStr) (M.var 0))) (M.ret (PyData.int 5)) (M.ret (PyData.int 6))))))
def F_f_law_kind (lvs : List LV) : FR := runF 1 1 none g_f_law_kind lvs
theorem ok_f_law_kind (T : Txt K mg fs fds us) : FnOk P w K mg base CX0 1 (fs 44) (fds 44) P_f_law_kind (spF K none F_f_law_kind) :=
  fn_pd (io := none) (k := 0) T.f_f_law_kind sc_f_law_kind (by decide) (fun cdv A outer s H E C hr hio hw => (have hu : A.units + 3 + 64 < cLine := hr.units
      (pds_cons (pd_ifS (pdt_w (pdw_or (pdt_is (pd_var 0) (pd_non)) (pdw_or1 (pdt_val (pd_isi k_bool T.n_isinstance T.n_bool (by decide +kernel) (pd_var 0)))))) (pds_one (pd_ret (pd_if (pdt_is (pd_var 0) (pd_non)) (pd_int) (pd_int)))) (pds_nil))
      (pds_cons (pd_ifS (pdt_val (pd_isiLT T.n_isinstance T.n_list T.n_tuple (pd_var 0))) (pds_one (pd_ret (pd_if (pdt_val (pd_isi k_list T.n_isinstance T.n_list (by decide +kernel) (pd_var 0))) (pd_int) (pd_int)))) (pds_nil))
      (pds_one (pd_ret (pd_if (pdt_val (pd_isi k_int T.n_isinstance T.n_int (by decide +kernel) (pd_var 0))) (pd_int) (pd_if (pdt_val (pd_isi k_str T.n_isinstance T.n_str (by decide +kernel) (pd_var 0))) (pd_int) (pd_int)))))))))
def E_f_law_twins_1 (self_ : List LV → FR) : M D := M.ret (PyData.int 1)
def T_f_law_twins_1 (self_ : List LV → FR) : M Bool := M.notT (M.test (M.fn none self_ (M.argD (M.var 2) (M.argD (M.var 3) (M.argN)))))
def g_f_law_twins (self_ : List LV → FR) : MS := S.seq (S.ite (M.test (M.op2 neDD (M.fn none (F_f_law_kind) (M.argD (M.var 0) (M.argN))) (M.fn none (F_f_law_kind) (M.argD (M.var 1) (M.argN))))) (S.ret (M.ret (PyData.bool false))) (S.nil))
    (S.seq (S.ite (M.test (M.op2 inDD (M.fn none (F_f_law_kind) (M.argD (M.var 0) (M.argN))) (M.known (M.lst (M.argD (M.ret (PyData.int 2)) (M.argD (M.ret (PyData.int 3)) (M.argN))))))) (S.ret (M.andV (M.op2 eqDD (M.call lenD (M.argD (M.var 0) (M.argN))) (M.call lenD (M.argD (M.var 1) (M.argN)))) (M.op2 eqDD (M.known (M.lc (M.callL zipD (M.argD (M.var 0) (M.argD (M.var 1) (M.argN)))) [2, 3] (G.tup 2 (G.cons (G.nm 2) (G.cons (G.nm 3) (G.nil)))) ((T_f_law_twins_1 self_)) ((E_f_law_twins_1 self_)))) (M.known (M.lst (M.argN)))))) (S.nil))
    (S.ret (M.op2 eqDD (M.var 0) (M.var 1))))
def F_f_law_twins : Nat → List LV → FR
  | 0, _ => .bad
  | n + 1, lvs => runF 2 4 none (g_f_law_twins (F_f_law_twins n)) lvs
theorem ok_f_law_twins (T : Txt K mg fs fds us) : ∀ (n : Nat), FnOk P w K mg base CX0 (1 + n) (fs 45) (fds 45) P_f_law_twins (spF K none (F_f_law_twins n))
  | 0 => ⟨fun vs H Q E h => by obtain ⟨_, _, _, _, h⟩ := h; exact h.elim, fun _ _ _ _ _ _ _ _ _ _ _ _ _ h => by obtain ⟨_, _, _, _, h⟩ := h; exact h.elim⟩
  | n + 1 => by
    have Gself := ok_f_law_twins T n
    have hself : 1 + n ≤ 1 + n := Nat.le_refl _
    exact fn_pd (io := none) (k := 1 + n) T.f_f_law_twins sc_f_law_twins (by decide) (fun cdv A outer s H E C hr hio hw => (have hu : A.units + 3 + 64 < cLine := hr.units
      (pds_cons (pd_ifS (pdt_ne hu (pd_fn (ok_f_law_kind T) (hr.mono (by omega)) T.m_f_law_kind T.f_f_law_kind.kp T.b_f_law_kind (pda_cons (pd_var 0) (pda_nil))) (pd_fn (ok_f_law_kind T) (hr.mono (by omega)) T.m_f_law_kind T.f_f_law_kind.kp T.b_f_law_kind (pda_cons (pd_var 1) (pda_nil)))) (pds_one (pd_ret (pd_bl))) (pds_nil))
      (pds_cons (pd_ifS (pdt_in (by rfl) (pd_fn (ok_f_law_kind T) (hr.mono (by omega)) T.m_f_law_kind T.f_f_law_kind.kp T.b_f_law_kind (pda_cons (pd_var 0) (pda_nil))) (pd_l (pdl_lst (pda_cons (pd_int) (pda_cons (pd_int) (pda_nil)))))) (pds_one (pd_ret (pd_and (pd_eq hu (pd_len T.n_len (pda_cons (pd_var 0) (pda_nil))) (pd_len T.n_len (pda_cons (pd_var 1) (pda_nil)))) (pd_one (pd_eq hu (pd_l (pdl_lc (own := [(("a" : Str), 2), (("b" : Str), 3)]) (io_nin hio) (by decide) rfl sc_f_law_twins.nd (blkOk_by (N := N_f_law_twins) (sc := defScope s_f_law_twins) (by decide +kernel)) (pdi_zip T.n_zip (pda_cons (pd_var 0) (pda_cons (pd_var 1) (pda_nil)))) (fun _ hc1 _ _ _ _ _ => pdg_tup rfl (pdgs_cons (pdg_nm (i := 2) (io_ne (io_eq hio hc1)) sc_f_law_twins.nd) (pdgs_cons (pdg_nm (i := 3) (io_ne (io_eq hio hc1)) sc_f_law_twins.nd) (pdgs_nil)))) (fun _ hc1 _ _ _ _ _ => pdts_one (pdt_not (pdt_val (pd_fn Gself (hr.mono hself) T.m_f_law_twins T.f_f_law_twins.kp T.b_f_law_twins (pda_cons (pd_var 2) (pda_cons (pd_var 3) (pda_nil))))))) (fun _ hc1 _ _ _ _ _ => pd_int))) (pd_l (pdl_lst (pda_nil)))))))) (pds_nil))
      (pds_one (pd_ret (pd_eq hu (pd_var 0) (pd_var 1))))))))
def g_f_law_recorder : MS := S.seq (S.par2 1 2 (M.argD (M.op2 addD (M.ret (PyData.int 1)) (M.fn (some 0) (F_f_law_pick) (M.argS 0 (M.argD (M.ret (PyData.int 3)) (M.argN))))) (M.argD (M.fn (some 0) (F_f_law_pick) (M.argS 0 (M.argD (M.ret (PyData.int 4)) (M.argN)))) (M.argN))))
    (S.seq (S.asg 3 (M.op2 addD (M.op2 addD (M.var 1) (M.var 2)) (M.fn (some 0) (F_f_law_pick) (M.argS 0 (M.argD (M.op2 subD (M.op2 subD (M.ret (PyData.int 11)) (M.var 1)) (M.var 2)) (M.argN))))))
    (S.ret (M.tup (M.argD (M.var 1) (M.argD (M.var 2) (M.argD (M.op2 addD (M.ret (PyData.int 1)) (M.fn (some 0) (F_f_law_pick) (M.argS 0 (M.argD (M.ret (PyData.int 3)) (M.argN))))) (M.argD (M.var 3) (M.argD (M.op2 ixD (M.known (M.lst (M.argD (M.ret (PyData.int 0)) (M.argD (M.ret (PyData.int 1)) (M.argD (M.ret (PyData.int 1)) (M.argD (M.ret (PyData.int 2)) (M.argD (M.ret (PyData.int 3)) (M.argN)))))))) (M.fn (some 0) (F_f_law_pick) (M.argS 0 (M.argD (M.ret (PyData.int 5)) (M.argN))))) (M.argN)))))))))
def F_f_law_recorder (lvs : List LV) : FR := runF 1 4 (some 0) g_f_law_recorder lvs
theorem ok_f_law_recorder (T : Txt K mg fs fds us) : FnOk P w K mg base CX0 2 (fs 46) (fds 46) P_f_law_recorder (spF K (some 0) F_f_law_recorder) :=
  fn_pd (io := (some 0)) (k := 1) T.f_f_law_recorder sc_f_law_recorder (by decide) (fun cdv A outer s H E C hr hio hw => (have hu : A.units + 3 + 64 < cLine := hr.units
      (pds_cons (pd_par2 (i := 1) (j := 2) (io_ne hio) (io_ne hio) rfl sc_f_law_recorder.nd (pda_cons (pd_add (pd_int) (pd_fn (ok_f_law_pick T) (hr.mono (by omega)) T.m_f_law_pick T.f_f_law_pick.kp T.b_f_law_pick (pda_slot 0 (pda_cons (pd_int) (pda_nil))))) (pda_cons (pd_fn (ok_f_law_pick T) (hr.mono (by omega)) T.m_f_law_pick T.f_f_law_pick.kp T.b_f_law_pick (pda_slot 0 (pda_cons (pd_int) (pda_nil)))) (pda_nil))))
      (pds_cons (pd_set (i := 3) (io_ne hio) sc_f_law_recorder.nd (pd_add (pd_add (pd_var 1) (pd_var 2)) (pd_fn (ok_f_law_pick T) (hr.mono (by omega)) T.m_f_law_pick T.f_f_law_pick.kp T.b_f_law_pick (pda_slot 0 (pda_cons (pd_sub (pd_sub (pd_int) (pd_var 1)) (pd_var 2)) (pda_nil))))))
      (pds_one (pd_ret (pd_tup (pda_cons (pd_var 1) (pda_cons (pd_var 2) (pda_cons (pd_add (pd_int) (pd_fn (ok_f_law_pick T) (hr.mono (by omega)) T.m_f_law_pick T.f_f_law_pick.kp T.b_f_law_pick (pda_slot 0 (pda_cons (pd_int) (pda_nil))))) (pda_cons (pd_var 3) (pda_cons (pd_sub_ (pd_l (pdl_lst (pda_cons (pd_int) (pda_cons (pd_int) (pda_cons (pd_int) (pda_cons (pd_int) (pda_cons (pd_int) (pda_nil)))))))) (pd_fn (ok_f_law_pick T) (hr.mono (by omega)) T.m_f_law_pick T.f_f_law_pick.kp T.b_f_law_pick (pda_slot 0 (pda_cons (pd_int) (pda_nil)))) (fun _ _ => rfl)) (pda_nil)))))))))))))
def g_f_law_world : MS := S.seq (S.asg 1 (M.op2 addD (M.ret (PyData.int 1)) (M.op2 ixD (M.known (M.lst (M.argD (M.ret (PyData.int 0)) (M.argD (M.ret (PyData.int 0)) (M.argD (M.ret (PyData.int 1)) (M.argD (M.ret (PyData.int 2)) (M.argD (M.fn (some 0) (F_f_law_pick) (M.argS 0 (M.argD (M.ret (PyData.int 5)) (M.argN)))) (M.argN)))))))) (M.fn (some 0) (F_f_law_pick) (M.argS 0 (M.argD (M.ret (PyData.int 5)) (M.argN)))))))
    (S.seq (S.asg 2 (M.call minD (M.argD (M.ret (PyData.int 12)) (M.argD (M.op2 addD (M.var 1) (M.op2 ixD (M.known (M.lst (M.argD (M.ret (PyData.int 0)) (M.argD (M.ret (PyData.int 1)) (M.argD (M.ret (PyData.int 2)) (M.argD (M.ret (PyData.int 4)) (M.argD (M.ret (PyData.int 7)) (M.argD (M.ret (PyData.int 11)) (M.argN))))))))) (M.fn (some 0) (F_f_law_pick) (M.argS 0 (M.argD (M.ret (PyData.int 6)) (M.argN)))))) (M.argN)))))
    (S.ret (M.tup (M.argD (M.var 1) (M.argD (M.var 2) (M.argD (M.op2 addD (M.ret (PyData.int 1)) (M.op2 ixD (M.known (M.lst (M.argD (M.ret (PyData.int 0)) (M.argD (M.ret (PyData.int 0)) (M.argD (M.ret (PyData.int 1)) (M.argD (M.fn (some 0) (F_f_law_pick) (M.argS 0 (M.argD (M.ret (PyData.int 4)) (M.argN)))) (M.argN))))))) (M.fn (some 0) (F_f_law_pick) (M.argS 0 (M.argD (M.ret (PyData.int 4)) (M.argN)))))) (M.argN)))))))
def F_f_law_world (lvs : List LV) : FR := runF 1 3 (some 0) g_f_law_world lvs
theorem ok_f_law_world (T : Txt K mg fs fds us) : FnOk P w K mg base CX0 2 (fs 47) (fds 47) P_f_law_world (spF K (some 0) F_f_law_world) :=
  fn_pd (io := (some 0)) (k := 1) T.f_f_law_world sc_f_law_world (by decide) (fun cdv A outer s H E C hr hio hw => (have hu : A.units + 3 + 64 < cLine := hr.units
      (pds_cons (pd_set (i := 1) (io_ne hio) sc_f_law_world.nd (pd_add (pd_int) (pd_sub_ (pd_l (pdl_lst (pda_cons (pd_int) (pda_cons (pd_int) (pda_cons (pd_int) (pda_cons (pd_int) (pda_cons (pd_fn (ok_f_law_pick T) (hr.mono (by omega)) T.m_f_law_pick T.f_f_law_pick.kp T.b_f_law_pick (pda_slot 0 (pda_cons (pd_int) (pda_nil)))) (pda_nil)))))))) (pd_fn (ok_f_law_pick T) (hr.mono (by omega)) T.m_f_law_pick T.f_f_law_pick.kp T.b_f_law_pick (pda_slot 0 (pda_cons (pd_int) (pda_nil)))) (fun _ _ => rfl))))
      (pds_cons (pd_set (i := 2) (io_ne hio) sc_f_law_world.nd (pd_min rfl T.n_min (pda_cons (pd_int) (pda_cons (pd_add (pd_var 1) (pd_sub_ (pd_l (pdl_lst (pda_cons (pd_int) (pda_cons (pd_int) (pda_cons (pd_int) (pda_cons (pd_int) (pda_cons (pd_int) (pda_cons (pd_int) (pda_nil))))))))) (pd_fn (ok_f_law_pick T) (hr.mono (by omega)) T.m_f_law_pick T.f_f_law_pick.kp T.b_f_law_pick (pda_slot 0 (pda_cons (pd_int) (pda_nil)))) (fun _ _ => rfl))) (pda_nil)))))
      (pds_one (pd_ret (pd_tup (pda_cons (pd_var 1) (pda_cons (pd_var 2) (pda_cons (pd_add (pd_int) (pd_sub_ (pd_l (pdl_lst (pda_cons (pd_int) (pda_cons (pd_int) (pda_cons (pd_int) (pda_cons (pd_fn (ok_f_law_pick T) (hr.mono (by omega)) T.m_f_law_pick T.f_f_law_pick.kp T.b_f_law_pick (pda_slot 0 (pda_cons (pd_int) (pda_nil)))) (pda_nil))))))) (pd_fn (ok_f_law_pick T) (hr.mono (by omega)) T.m_f_law_pick T.f_f_law_pick.kp T.b_f_law_pick (pda_slot 0 (pda_cons (pd_int) (pda_nil)))) (fun _ _ => rfl))) (pda_nil)))))))))))
def W_f_law_tapes_2 : M Bool := M.andT (M.test (M.op2 ltD (M.var 13) (M.var 4))) (M.test (M.op2 ltD (M.op2 subD (M.op2 addD (M.var 12) (M.ret (PyData.int 1))) (M.var 11)) (M.var 5)))
def B_f_law_tapes_2 : MS := S.seq (S.asg 12 (M.op2 addD (M.var 12) (M.ret (PyData.int 1))))
    (S.asg 13 (M.ite (M.andT (M.test (M.op2 ltD (M.var 12) (M.call lenD (M.argD (M.var 1) (M.argN))))) (M.test (M.op2 ixD (M.var 1) (M.var 12)))) (M.ret (PyData.int 0)) (M.op2 addD (M.var 13) (M.ret (PyData.int 1)))))
def W_f_law_tapes_1 : M Bool := M.test (M.op2 ltD (M.var 9) (M.call lenD (M.argD (M.var 1) (M.argN))))
def B_f_law_tapes_1 : MS := S.seq (S.asg 10 (M.andV (M.op2 geD (M.op2 subD (M.op2 addD (M.var 9) (M.ret (PyData.int 1))) (M.var 8)) (M.var 2)) (M.op2 eqDD (M.slice (M.var 1) (M.part (M.op2 subD (M.op2 addD (M.var 9) (M.ret (PyData.int 1))) (M.var 2))) (M.part (M.op2 addD (M.var 9) (M.ret (PyData.int 1))))) (M.op2 repTD (M.tup (M.argD (M.ret (PyData.bool true)) (M.argN))) (M.var 2)))))
    (S.seq (S.ite (M.test (M.var 10)) (S.seq (S.par3 11 12 13 (M.argD (M.call maxD (M.argD (M.var 8) (M.argD (M.op2 subD (M.op2 subD (M.op2 addD (M.var 9) (M.ret (PyData.int 1))) (M.var 2)) (M.var 3)) (M.argN)))) (M.argD (M.var 9) (M.argD (M.ret (PyData.int 0)) (M.argN)))))
    (S.seq (S.while_ (W_f_law_tapes_2) (B_f_law_tapes_2))
    (S.seq (S.app 7 (M.tup (M.argD (M.var 11) (M.argD (M.var 12) (M.argN)))))
    (S.seq (S.asg 8 (M.op2 addD (M.op2 addD (M.var 12) (M.ret (PyData.int 1))) (M.var 6)))
    (S.asg 9 (M.var 12)))))) (S.nil))
    (S.seq (S.asg 9 (M.op2 addD (M.var 9) (M.ret (PyData.int 1))))
    (S.ite (M.borrowT (M.test (M.op2 neDD (M.var 7) (M.known (M.lst (M.argN)))))) (S.asg 9 (M.call maxD (M.argD (M.var 9) (M.argD (M.var 8) (M.argN))))) (S.nil))))
def g_f_law_tapes : MS := S.seq (S.asgT (G.tup 5 (G.cons (G.nm 2) (G.cons (G.nm 3) (G.cons (G.nm 4) (G.cons (G.nm 5) (G.cons (G.nm 6) (G.nil))))))) (M.var 0))
    (S.seq (S.parN [7, 8, 9] (M.nC (M.nL (M.lst (M.argN))) (M.nC (M.nD (M.ret (PyData.int 0))) (M.nC (M.nD (M.ret (PyData.int 0))) (M.ret [])))))
    (S.seq (S.while_ (W_f_law_tapes_1) (B_f_law_tapes_1))
    (S.retO 7)))
def F_f_law_tapes (lvs : List LV) : FR := runF 2 14 none g_f_law_tapes lvs
theorem ok_f_law_tapes (T : Txt K mg fs fds us) : FnOk P w K mg base CX0 1 (fs 48) (fds 48) P_f_law_tapes (spF K none F_f_law_tapes) :=
  fn_pd (io := none) (k := 0) T.f_f_law_tapes sc_f_law_tapes (by decide) (fun cdv A outer s H E C hr hio hw => (have hu : A.units + 3 + 64 < cLine := hr.units
      (pds_cons (pd_asgT (pd_var 0) (pdg_tup rfl (pdgs_cons (pdg_nm (i := 2) (io_ne hio) sc_f_law_tapes.nd) (pdgs_cons (pdg_nm (i := 3) (io_ne hio) sc_f_law_tapes.nd) (pdgs_cons (pdg_nm (i := 4) (io_ne hio) sc_f_law_tapes.nd) (pdgs_cons (pdg_nm (i := 5) (io_ne hio) sc_f_law_tapes.nd) (pdgs_cons (pdg_nm (i := 6) (io_ne hio) sc_f_law_tapes.nd) (pdgs_nil))))))))
      (pds_cons (pd_parN3 (i := 7) (j := 8) (l := 9) (io_ne hio) (io_ne hio) (io_ne hio) rfl sc_f_law_tapes.nd (pdns_cons (pdn_l (pdl_lst (pda_nil))) (fun _ hn2 => pdns_cons (pdn_d (pd_int)) (fun _ hn3 => pdns_cons (pdn_d (pd_int)) (fun _ hn4 => pdns_nil)))))
      (pds_cons (pd_while PassesOwn.never (pdt_lt (pd_var 9) (pd_len T.n_len (pda_cons (pd_var 1) (pda_nil)))) (pds_cons (pd_set (i := 10) (io_ne hio) sc_f_law_tapes.nd (pd_and (pd_ge (pd_sub (pd_add (pd_var 9) (pd_int)) (pd_var 8)) (pd_var 2)) (pd_one (pd_eq hu (pd_slice (pd_var 1) (pdo_some (pd_sub (pd_add (pd_var 9) (pd_int)) (pd_var 2))) (pdo_some (pd_add (pd_var 9) (pd_int)))) (pd_mulT (pd_tup (pda_cons (pd_bl) (pda_nil))) (pd_var 2))))))
      (pds_cons (pd_ifS (pdt_val (pd_var 10)) (pds_cons (pd_par3 (i := 11) (j := 12) (l := 13) (io_ne hio) (io_ne hio) (io_ne hio) rfl sc_f_law_tapes.nd (pda_cons (pd_max rfl T.n_max (pda_cons (pd_var 8) (pda_cons (pd_sub (pd_sub (pd_add (pd_var 9) (pd_int)) (pd_var 2)) (pd_var 3)) (pda_nil)))) (pda_cons (pd_var 9) (pda_cons (pd_int) (pda_nil)))))
      (pds_cons (pd_while PassesOwn.never (pdt_w (pdw_and (pdt_lt (pd_var 13) (pd_var 4)) (pdw_and1 (pdt_lt (pd_sub (pd_add (pd_var 12) (pd_int)) (pd_var 11)) (pd_var 5))))) (pds_cons (pd_set (i := 12) (io_ne hio) sc_f_law_tapes.nd (pd_add (pd_var 12) (pd_int)))
      (pds_one (pd_set (i := 13) (io_ne hio) sc_f_law_tapes.nd (pd_if (pdt_w (pdw_and (pdt_lt (pd_var 12) (pd_len T.n_len (pda_cons (pd_var 1) (pda_nil)))) (pdw_and1 (pdt_val (pd_sub_ (pd_var 1) (pd_var 12) (fun _ _ => rfl)))))) (pd_int) (pd_add (pd_var 13) (pd_int)))))))
      (pds_cons (pd_app 7 (pd_tup (pda_cons (pd_var 11) (pda_cons (pd_var 12) (pda_nil)))))
      (pds_cons (pd_set (i := 8) (io_ne hio) sc_f_law_tapes.nd (pd_add (pd_add (pd_var 12) (pd_int)) (pd_var 6)))
      (pds_one (pd_set (i := 9) (io_ne hio) sc_f_law_tapes.nd (pd_var 12))))))) (pds_nil))
      (pds_cons (pd_set (i := 9) (io_ne hio) sc_f_law_tapes.nd (pd_add (pd_var 9) (pd_int)))
      (pds_one (pd_ifS (pdt_borrow (fun _ hb1 => pdt_ne hu (pd_var 7) (pd_l (pdl_lst (pda_nil))))) (pds_one (pd_set (i := 9) (io_ne hio) sc_f_law_tapes.nd (pd_max rfl T.n_max (pda_cons (pd_var 9) (pda_cons (pd_var 8) (pda_nil)))))) (pds_nil)))))))
      (pds_one (pd_retO 7 (io_ne hio))))))))
def E_f_law_sounds_1 : M D := M.var 3
def T_f_law_sounds_1 : M Bool := M.andT (M.test (M.op2 ixD (M.var 0) (M.var 3))) (M.orT (M.test (M.op2 eqDD (M.var 3) (M.ret (PyData.int 0)))) (M.notT (M.test (M.op2 ixD (M.var 0) (M.op2 subD (M.var 3) (M.ret (PyData.int 1)))))))
def E_f_law_sounds_2 : M D := M.var 3
def T_f_law_sounds_2 : M Bool := M.andT (M.test (M.op2 ixD (M.var 0) (M.var 3))) (M.notT (M.test (M.op2 eqDD (M.slice (M.var 0) (M.part (M.op2 addD (M.var 3) (M.ret (PyData.int 1)))) (M.part (M.op2 addD (M.var 3) (M.ret (PyData.int 2))))) (M.tup (M.argD (M.ret (PyData.bool true)) (M.argN))))))
def g_f_law_sounds : MS := S.seq (S.asg 1 (M.known (M.lc (M.callL range1D (M.argD (M.call lenD (M.argD (M.var 0) (M.argN))) (M.argN))) [3] (G.nm 3) (T_f_law_sounds_2) (E_f_law_sounds_2))))
    (S.seq (S.asg 2 (M.known (M.lc (M.callL range1D (M.argD (M.call lenD (M.argD (M.var 0) (M.argN))) (M.argN))) [3] (G.nm 3) (T_f_law_sounds_1) (E_f_law_sounds_1))))
    (S.ret (M.known (M.callL zipLD (M.argD (M.var 2) (M.argD (M.var 1) (M.argN)))))))
def F_f_law_sounds (lvs : List LV) : FR := runF 1 4 none g_f_law_sounds lvs
theorem ok_f_law_sounds (T : Txt K mg fs fds us) : FnOk P w K mg base CX0 1 (fs 49) (fds 49) P_f_law_sounds (spF K none F_f_law_sounds) :=
  fn_pd (io := none) (k := 0) T.f_f_law_sounds sc_f_law_sounds (by decide) (fun cdv A outer s H E C hr hio hw => (have hu : A.units + 3 + 64 < cLine := hr.units
      (pds_cons (pd_setLcF (i := 1) (io_ne hio) (own := [(("at" : Str), 3)]) (io_nin hio) (by decide) rfl sc_f_law_sounds.nd (blkOk_by (N := N_f_law_sounds) (sc := defScope s_f_law_sounds) (by decide +kernel)) (pdi_range1 T.n_range (pda_cons (pd_len T.n_len (pda_cons (pd_var 0) (pda_nil))) (pda_nil))) (fun _ hc2 _ _ _ _ _ => pdg_nm (i := 3) (io_ne (io_eq hio hc2)) sc_f_law_sounds.nd) (fun _ hc2 _ _ _ _ _ => pdts_one (pdt_w (pdw_and (pdt_val (pd_sub_ (pd_var 0) (pd_var 3) (fun _ _ => rfl))) (pdw_and1 (pdt_not (pdt_eq hu (pd_slice (pd_var 0) (pdo_some (pd_add (pd_var 3) (pd_int))) (pdo_some (pd_add (pd_var 3) (pd_int)))) (pd_tup (pda_cons (pd_bl) (pda_nil))))))))) (fun _ hc2 _ _ _ _ _ => pd_var 3) (sw_true rfl rfl rfl (by decide +kernel)))
      (pds_cons (pd_setLcF (i := 2) (io_ne hio) (own := [(("at" : Str), 3)]) (io_nin hio) (by decide) rfl sc_f_law_sounds.nd (blkOk_by (N := N_f_law_sounds) (sc := defScope s_f_law_sounds) (by decide +kernel)) (pdi_range1 T.n_range (pda_cons (pd_len T.n_len (pda_cons (pd_var 0) (pda_nil))) (pda_nil))) (fun _ hc1 _ _ _ _ _ => pdg_nm (i := 3) (io_ne (io_eq hio hc1)) sc_f_law_sounds.nd) (fun _ hc1 _ _ _ _ _ => pdts_one (pdt_w (pdw_and (pdt_val (pd_sub_ (pd_var 0) (pd_var 3) (fun _ _ => rfl))) (pdw_and1 (pdt_w (pdw_or (pdt_eq hu (pd_var 3) (pd_int)) (pdw_or1 (pdt_not (pdt_val (pd_sub_ (pd_var 0) (pd_sub (pd_var 3) (pd_int)) (fun _ _ => rfl))))))))))) (fun _ hc1 _ _ _ _ _ => pd_var 3) (sw_true rfl rfl rfl (by decide +kernel)))
      (pds_one (pd_ret (pd_l (pdl_listzip rfl T.n_list T.n_zip (pda_cons (pd_var 2) (pda_cons (pd_var 1) (pda_nil)))))))))))
def B_f_law_kept_2 : MS := S.setIx 2 (M.var 3) (M.var 6)
def B_f_law_kept_1 : MS := S.for_ (M.callL range2D (M.argD (M.var 4) (M.argD (M.call minD (M.argD (M.op2 addD (M.var 5) (M.ret (PyData.int 1))) (M.argD (M.call lenD (M.argD (M.var 1) (M.argN))) (M.argN)))) (M.argN)))) (G.nm 6) (B_f_law_kept_2)
def g_f_law_kept : MS := S.seq (S.own 2 (M.repL (M.lst (M.argD (M.ret PyData.none) (M.argN))) (M.call lenD (M.argD (M.var 1) (M.argN)))))
    (S.seq (S.for_ (M.callL enumD (M.argD (M.fn none (F_f_law_tapes) (M.argD (M.var 0) (M.argD (M.var 1) (M.argN)))) (M.argN))) (G.tup 2 (G.cons (G.nm 3) (G.cons (G.tup 2 (G.cons (G.nm 4) (G.cons (G.nm 5) (G.nil)))) (G.nil)))) (B_f_law_kept_1))
    (S.retO 2))
def F_f_law_kept (lvs : List LV) : FR := runF 2 7 none g_f_law_kept lvs
theorem ok_f_law_kept (T : Txt K mg fs fds us) : FnOk P w K mg base CX0 2 (fs 50) (fds 50) P_f_law_kept (spF K none F_f_law_kept) :=
  fn_pd (io := none) (k := 1) T.f_f_law_kept sc_f_law_kept (by decide) (fun cdv A outer s H E C hr hio hw => (have hu : A.units + 3 + 64 < cLine := hr.units
      (pds_cons (pd_own (i := 2) (io_ne hio) sc_f_law_kept.nd (pdl_rep (pdl_lst (pda_cons (pd_non) (pda_nil))) (fun _ hr1 => pd_len T.n_len (pda_cons (pd_var 1) (pda_nil)))))
      (pds_cons (pd_for PassesOwn.never rfl (pdi_enum T.n_enumerate (pda_cons (pd_fn (ok_f_law_tapes T) (hr.mono (by omega)) T.m_f_law_tapes T.f_f_law_tapes.kp T.b_f_law_tapes (pda_cons (pd_var 0) (pda_cons (pd_var 1) (pda_nil)))) (pda_nil))) (pdg_tup rfl (pdgs_cons (pdg_nm (i := 3) (io_ne hio) sc_f_law_kept.nd) (pdgs_cons (pdg_tup rfl (pdgs_cons (pdg_nm (i := 4) (io_ne hio) sc_f_law_kept.nd) (pdgs_cons (pdg_nm (i := 5) (io_ne hio) sc_f_law_kept.nd) (pdgs_nil)))) (pdgs_nil)))) (pds_one (pd_for PassesOwn.never rfl (pdi_range2 T.n_range (pda_cons (pd_var 4) (pda_cons (pd_min rfl T.n_min (pda_cons (pd_add (pd_var 5) (pd_int)) (pda_cons (pd_len T.n_len (pda_cons (pd_var 1) (pda_nil))) (pda_nil)))) (pda_nil)))) (pdg_nm (i := 6) (io_ne hio) sc_f_law_kept.nd) (pds_one (pd_setIx 2 (pd_var 3) (pd_var 6))))))
      (pds_one (pd_retO 2 (io_ne hio)))))))
def B_f_law_harms_2 : MS := S.setK 4 (M.known (M.catL (M.getK 4 (M.var 10) (M.known (M.lst (M.argN)))) (M.known (M.lst (M.argD (M.var 5) (M.argN)))))) (M.var 10)
def E_f_law_harms_3 : M D := M.var 10
def T_f_law_harms_3 : M Bool := M.test (M.op2 notND (M.var 10) (M.ret PyData.none))
def B_f_law_harms_1 : MS := S.seq (S.asg 8 (M.known (M.sliceL (M.var 2) (M.part (M.var 6)) (M.part (M.op2 addD (M.var 7) (M.ret (PyData.int 1)))))))
    (S.seq (S.asg 9 (M.known (M.sortset (M.known (M.lc (M.items (M.var 8)) [10] (G.nm 10) (T_f_law_harms_3) (E_f_law_harms_3))))))
    (S.seq (S.for_ (M.items (M.var 9)) (G.nm 10) (B_f_law_harms_2))
    (S.seq (S.asg 3 (M.known (M.catL (M.known (M.catL (M.var 3) (M.known (M.repL (M.lst (M.argD (M.ret (PyData.str ("lost" : Str))) (M.argN))) (M.call intD (M.argD (M.op2 eqDD (M.var 9) (M.known (M.lst (M.argN)))) (M.argN))))))) (M.known (M.repL (M.lst (M.argD (M.ret (PyData.str ("parted" : Str))) (M.argN))) (M.call intD (M.argD (M.op2 gtD (M.call lenD (M.argD (M.var 9) (M.argN))) (M.ret (PyData.int 1))) (M.argN))))))))
    (S.seq (S.asg 3 (M.known (M.catL (M.var 3) (M.known (M.repL (M.lst (M.argD (M.ret (PyData.str ("late" : Str))) (M.argN))) (M.call intD (M.argD (M.andV (M.op2 neDD (M.var 9) (M.known (M.lst (M.argN)))) (M.op2 isND (M.op2 ixD (M.var 8) (M.ret (PyData.int 0))) (M.ret PyData.none))) (M.argN))))))))
    (S.asg 3 (M.known (M.catL (M.var 3) (M.known (M.repL (M.lst (M.argD (M.ret (PyData.str ("early" : Str))) (M.argN))) (M.call intD (M.argD (M.andV (M.op2 neDD (M.var 9) (M.known (M.lst (M.argN)))) (M.op2 isND (M.op2 ixD (M.var 8) (M.op1 negD (M.ret (PyData.int 1)))) (M.ret PyData.none))) (M.argN))))))))))))
def g_f_law_harms : MS := S.seq (S.parN [2, 3, 4] (M.nC (M.nD (M.fn none (F_f_law_kept) (M.argD (M.var 0) (M.argD (M.var 1) (M.argN))))) (M.nC (M.nD (M.known (M.lst (M.argN)))) (M.nC (M.ret (.dct [])) (M.ret [])))))
    (S.seq (S.for_ (M.callL enumD (M.argD (M.fn none (F_f_law_sounds) (M.argD (M.var 1) (M.argN))) (M.argN))) (G.tup 2 (G.cons (G.nm 5) (G.cons (G.tup 2 (G.cons (G.nm 6) (G.cons (G.nm 7) (G.nil)))) (G.nil)))) (B_f_law_harms_1))
    (S.ret (M.known (M.sortset (M.known (M.catL (M.var 3) (M.known (M.lckJ 4 10 ("joined" : Str) 1))))))))
def F_f_law_harms (lvs : List LV) : FR := runF 2 11 none g_f_law_harms lvs
theorem ok_f_law_harms (T : Txt K mg fs fds us) : FnOk P w K mg base CX0 3 (fs 51) (fds 51) P_f_law_harms (spF K none F_f_law_harms) :=
  fn_pd (io := none) (k := 2) T.f_f_law_harms sc_f_law_harms (by decide) (fun cdv A outer s H E C hr hio hw => (have hu : A.units + 3 + 64 < cLine := hr.units
      (pds_cons (pd_parT3 (i := 2) (j := 3) (l := 4) (io_ne hio) (io_ne hio) (io_ne hio) rfl sc_f_law_harms.nd (pdns_cons (pdn_d (pd_fn (ok_f_law_kept T) (hr.mono (by omega)) T.m_f_law_kept T.f_f_law_kept.kp T.b_f_law_kept (pda_cons (pd_var 0) (pda_cons (pd_var 1) (pda_nil))))) (fun _ hn6 => pdns_cons (pdn_d (pd_l (pdl_lst (pda_nil)))) (fun _ hn7 => pdns_cons (pdn_k0) (fun _ hn8 => pdns_nil)))))
      (pds_cons (pd_for PassesOwn.never rfl (pdi_enum T.n_enumerate (pda_cons (pd_fn (ok_f_law_sounds T) (hr.mono (by omega)) T.m_f_law_sounds T.f_f_law_sounds.kp T.b_f_law_sounds (pda_cons (pd_var 1) (pda_nil))) (pda_nil))) (pdg_tup rfl (pdgs_cons (pdg_nm (i := 5) (io_ne hio) sc_f_law_harms.nd) (pdgs_cons (pdg_tup rfl (pdgs_cons (pdg_nm (i := 6) (io_ne hio) sc_f_law_harms.nd) (pdgs_cons (pdg_nm (i := 7) (io_ne hio) sc_f_law_harms.nd) (pdgs_nil)))) (pdgs_nil)))) (pds_cons (pd_set (i := 8) (io_ne hio) sc_f_law_harms.nd (pd_l (pdl_slice (pd_var 2) (pdo_some (pd_var 6)) (pdo_some (pd_add (pd_var 7) (pd_int))))))
      (pds_cons (pd_set (i := 9) (io_ne hio) sc_f_law_harms.nd (pd_l (pdl_sortset rfl T.n_sorted T.n_set (pd_l (pdl_lc (own := [(("one" : Str), 10)]) (io_nin hio) (by decide) rfl sc_f_law_harms.nd (blkOk_by (N := N_f_law_harms) (sc := defScope s_f_law_harms) (by decide +kernel)) (pdi_seq (pd_var 8)) (fun _ hc5 _ _ _ _ _ => pdg_nm (i := 10) (io_ne (io_eq hio hc5)) sc_f_law_harms.nd) (fun _ hc5 _ _ _ _ _ => pdts_one (pdt_isnot (pd_var 10) (pd_non))) (fun _ hc5 _ _ _ _ _ => pd_var 10))))))
      (pds_cons (pd_for PassesOwn.never rfl (pdi_seq (pd_var 9)) (pdg_nm (i := 10) (io_ne hio) sc_f_law_harms.nd) (pds_one (pd_setK 4 (io_ne hio) hw (u9 hu) (pd_l (pdl_cat (pd_getK 4 hw (u9 hu) (pd_var 10) (pd_l (pdl_lst (pda_nil))) ⟨rfl, rfl, rfl, rfl⟩) (pd_l (pdl_lst (pda_cons (pd_var 5) (pda_nil)))))) (pd_var 10))))
      (pds_cons (pd_set (i := 3) (io_ne hio) sc_f_law_harms.nd (pd_l (pdl_cat (pd_l (pdl_cat (pd_var 3) (pd_l (pdl_rep (pdl_lst (pda_cons (pd_str) (pda_nil))) (fun _ hr3 => pd_int1 T.n_int (pda_cons (pd_eq hu (pd_var 9) (pd_l (pdl_lst (pda_nil)))) (pda_nil))))))) (pd_l (pdl_rep (pdl_lst (pda_cons (pd_str) (pda_nil))) (fun _ hr4 => pd_int1 T.n_int (pda_cons (pd_gt (pd_len T.n_len (pda_cons (pd_var 9) (pda_nil))) (pd_int)) (pda_nil))))))))
      (pds_cons (pd_set (i := 3) (io_ne hio) sc_f_law_harms.nd (pd_l (pdl_cat (pd_var 3) (pd_l (pdl_rep (pdl_lst (pda_cons (pd_str) (pda_nil))) (fun _ hr2 => pd_int1 T.n_int (pda_cons (pd_and (pd_ne hu (pd_var 9) (pd_l (pdl_lst (pda_nil)))) (pd_one (pd_is (pd_sub_ (pd_var 8) (pd_int) (fun _ _ => rfl)) (pd_non)))) (pda_nil))))))))
      (pds_one (pd_set (i := 3) (io_ne hio) sc_f_law_harms.nd (pd_l (pdl_cat (pd_var 3) (pd_l (pdl_rep (pdl_lst (pda_cons (pd_str) (pda_nil))) (fun _ hr1 => pd_int1 T.n_int (pda_cons (pd_and (pd_ne hu (pd_var 9) (pd_l (pdl_lst (pda_nil)))) (pd_one (pd_is (pd_sub_ (pd_var 8) (pd_neg (pd_int)) (fun _ _ => rfl)) (pd_non)))) (pda_nil)))))))))))))))
      (pds_one (pd_ret (pd_l (pdl_sortset rfl T.n_sorted T.n_set (pd_l (pdl_cat (pd_var 3) (pd_l (pdl_lck (own := [(("one" : Str), 10)]) 4 10 ("joined" : Str) 1 (by decide) hw rfl sc_f_law_harms.nd (blkOk_by (N := N_f_law_harms) (sc := defScope s_f_law_harms) (by decide +kernel)) rfl (pe_var rfl (by first | exact Or.inl rfl | exact Or.inr (Or.inl rfl) | exact Or.inr (Or.inr rfl))) (fun _ _ _ _ _ => pg_name sc_f_law_harms.nd rfl (by first | exact Or.inl rfl | exact Or.inr rfl)) (fun _ _ _ _ _ => tt_lck (u9 hu) T.n_len (fun _ _ => rfl)) (fun _ _ _ _ _ => pe_str)))))))))))))
def E_f_law_is_of_1 : M D := M.ret (PyData.int 1)
def T_f_law_is_of_1 : M Bool := M.test (M.op2 leD (M.op2 subD (M.op2 ixD (M.var 6) (M.ret (PyData.int 0))) (M.op2 ixD (M.var 5) (M.ret (PyData.int 1)))) (M.op2 ixD (M.var 0) (M.ret (PyData.int 2))))
def E_f_law_is_of_2 : M D := M.ret (PyData.int 1)
def T_f_law_is_of_2 : M Bool := M.notT (M.test (M.chain leD leD (M.op2 ixD (M.var 0) (M.ret (PyData.int 0))) (M.op2 subD (M.op2 addD (M.var 4) (M.ret (PyData.int 1))) (M.var 3)) (M.op2 ixD (M.var 0) (M.ret (PyData.int 1)))))
def g_f_law_is_of : MS := S.seq (S.asg 2 (M.fn none (F_f_law_sounds) (M.argD (M.var 1) (M.argN))))
    (S.seq (S.ite (M.test (M.op2 neDD (M.known (M.lc (M.items (M.var 2)) [3, 4] (G.tup 2 (G.cons (G.nm 3) (G.cons (G.nm 4) (G.nil)))) (T_f_law_is_of_2) (E_f_law_is_of_2))) (M.known (M.lst (M.argN))))) (S.ret (M.ret (PyData.bool false))) (S.nil))
    (S.ret (M.op2 eqDD (M.known (M.lc (M.callL zipD (M.argD (M.var 2) (M.argD (M.known (M.sliceL (M.var 2) (M.part (M.ret (PyData.int 1))) (M.ret none))) (M.argN)))) [5, 6] (G.tup 2 (G.cons (G.nm 5) (G.cons (G.nm 6) (G.nil)))) (T_f_law_is_of_1) (E_f_law_is_of_1))) (M.known (M.lst (M.argN))))))
def F_f_law_is_of (lvs : List LV) : FR := runF 2 7 none g_f_law_is_of lvs
theorem ok_f_law_is_of (T : Txt K mg fs fds us) : FnOk P w K mg base CX0 2 (fs 52) (fds 52) P_f_law_is_of (spF K none F_f_law_is_of) :=
  fn_pd (io := none) (k := 1) T.f_f_law_is_of sc_f_law_is_of (by decide) (fun cdv A outer s H E C hr hio hw => (have hu : A.units + 3 + 64 < cLine := hr.units
      (pds_cons (pd_set (i := 2) (io_ne hio) sc_f_law_is_of.nd (pd_fn (ok_f_law_sounds T) (hr.mono (by omega)) T.m_f_law_sounds T.f_f_law_sounds.kp T.b_f_law_sounds (pda_cons (pd_var 1) (pda_nil))))
      (pds_cons (pd_ifS (pdt_ne hu (pd_l (pdl_lc (own := [(("begin" : Str), 3), (("end" : Str), 4)]) (io_nin hio) (by decide) rfl sc_f_law_is_of.nd (blkOk_by (N := N_f_law_is_of) (sc := defScope s_f_law_is_of) (by decide +kernel)) (pdi_seq (pd_var 2)) (fun _ hc2 _ _ _ _ _ => pdg_tup rfl (pdgs_cons (pdg_nm (i := 3) (io_ne (io_eq hio hc2)) sc_f_law_is_of.nd) (pdgs_cons (pdg_nm (i := 4) (io_ne (io_eq hio hc2)) sc_f_law_is_of.nd) (pdgs_nil)))) (fun _ hc2 _ _ _ _ _ => pdts_one (pdt_not (pdt_lele (pd_sub_ (pd_var 0) (pd_int) (fun _ _ => rfl)) (pd_sub (pd_add (pd_var 4) (pd_int)) (pd_var 3)) (pd_sub_ (pd_var 0) (pd_int) (fun _ _ => rfl))))) (fun _ hc2 _ _ _ _ _ => pd_int))) (pd_l (pdl_lst (pda_nil)))) (pds_one (pd_ret (pd_bl))) (pds_nil))
      (pds_one (pd_ret (pd_eq hu (pd_l (pdl_lc (own := [(("one" : Str), 5), (("two" : Str), 6)]) (io_nin hio) (by decide) rfl sc_f_law_is_of.nd (blkOk_by (N := N_f_law_is_of) (sc := defScope s_f_law_is_of) (by decide +kernel)) (pdi_zip T.n_zip (pda_cons (pd_var 2) (pda_cons (pd_l (pdl_slice (pd_var 2) (pdo_some (pd_int)) (pdo_none))) (pda_nil)))) (fun _ hc1 _ _ _ _ _ => pdg_tup rfl (pdgs_cons (pdg_nm (i := 5) (io_ne (io_eq hio hc1)) sc_f_law_is_of.nd) (pdgs_cons (pdg_nm (i := 6) (io_ne (io_eq hio hc1)) sc_f_law_is_of.nd) (pdgs_nil)))) (fun _ hc1 _ _ _ _ _ => pdts_one (pdt_le (pd_sub (pd_sub_ (pd_var 6) (pd_int) (fun _ _ => rfl)) (pd_sub_ (pd_var 5) (pd_int) (fun _ _ => rfl))) (pd_sub_ (pd_var 0) (pd_int) (fun _ _ => rfl)))) (fun _ hc1 _ _ _ _ _ => pd_int))) (pd_l (pdl_lst (pda_nil))))))))))
def W_f_law_tick_1 : M Bool := M.test (M.op2 geD (M.call lenD (M.argD (M.var 11) (M.argN))) (M.op2 addD (M.var 3) (M.var 4)))
def B_f_law_tick_1 : MS := S.asg 11 (M.slice (M.var 11) (M.part (M.ret (PyData.int 1))) (M.ret none))
def g_f_law_tick : MS := S.seq (S.asgT (G.tup 5 (G.cons (G.nm 3) (G.cons (G.nm 4) (G.cons (G.nm 5) (G.cons (G.nm 6) (G.cons (G.nm 7) (G.nil))))))) (M.var 0))
    (S.seq (S.asgT (G.tup 4 (G.cons (G.nm 8) (G.cons (G.nm 9) (G.cons (G.nm 10) (G.cons (G.nm 11) (G.nil)))))) (M.var 1))
    (S.seq (S.asg 12 (M.ite (M.test (M.op2 gtD (M.var 7) (M.ret (PyData.int 0)))) (M.tup (M.argD (M.ret (PyData.str ("sleeps" : Str))) (M.argD (M.var 7) (M.argD (M.ret (PyData.int 0)) (M.argD (M.tup (M.argN)) (M.argN)))))) (M.tup (M.argD (M.ret (PyData.str ("awake" : Str))) (M.argD (M.ret (PyData.int 0)) (M.argD (M.ret (PyData.int 0)) (M.argD (M.tup (M.argN)) (M.argN))))))))
    (S.seq (S.ite (M.test (M.op2 eqDD (M.var 8) (M.ret (PyData.str ("sleeps" : Str))))) (S.ret (M.tup (M.argD (M.ite (M.test (M.op2 neDD (M.var 9) (M.ret (PyData.int 1)))) (M.tup (M.argD (M.ret (PyData.str ("sleeps" : Str))) (M.argD (M.op2 subD (M.var 9) (M.ret (PyData.int 1))) (M.argD (M.ret (PyData.int 0)) (M.argD (M.tup (M.argN)) (M.argN)))))) (M.tup (M.argD (M.ret (PyData.str ("awake" : Str))) (M.argD (M.ret (PyData.int 0)) (M.argD (M.ret (PyData.int 0)) (M.argD (M.tup (M.argN)) (M.argN))))))) (M.argD (M.ret (PyData.int 0)) (M.argN))))) (S.nil))
    (S.seq (S.asg 13 (M.ret (PyData.int 1)))
    (S.seq (S.ite (M.test (M.op2 eqDD (M.var 8) (M.ret (PyData.str ("awake" : Str))))) (S.seq (S.asg 11 (M.op2 addD (M.var 11) (M.tup (M.argD (M.var 2) (M.argN)))))
    (S.seq (S.ite (M.test (M.op2 neDD (M.slice (M.var 11) (M.part (M.op1 negD (M.var 3))) (M.ret none)) (M.op2 repTD (M.tup (M.argD (M.ret (PyData.bool true)) (M.argN))) (M.var 3)))) (S.seq (S.while_ (W_f_law_tick_1) (B_f_law_tick_1))
    (S.ret (M.tup (M.argD (M.tup (M.argD (M.ret (PyData.str ("awake" : Str))) (M.argD (M.ret (PyData.int 0)) (M.argD (M.ret (PyData.int 0)) (M.argD (M.var 11) (M.argN)))))) (M.argD (M.ret (PyData.int 0)) (M.argN)))))) (S.nil))
    (S.seq (S.asg 13 (M.call lenD (M.argD (M.var 11) (M.argN))))
    (S.par2 9 10 (M.argD (M.var 13) (M.argD (M.ret (PyData.int 0)) (M.argN))))))) (S.ite (M.test (M.var 2)) (S.par2 9 10 (M.argD (M.op2 addD (M.var 9) (M.ret (PyData.int 1))) (M.argD (M.ret (PyData.int 0)) (M.argN)))) (S.par2 9 10 (M.argD (M.op2 addD (M.var 9) (M.ret (PyData.int 1))) (M.argD (M.op2 addD (M.var 10) (M.ret (PyData.int 1))) (M.argN))))))
    (S.ret (M.tup (M.argD (M.ite (M.orT (M.test (M.op2 geD (M.var 9) (M.var 6))) (M.test (M.op2 geD (M.var 10) (M.var 5)))) (M.var 12) (M.tup (M.argD (M.ret (PyData.str ("records" : Str))) (M.argD (M.var 9) (M.argD (M.var 10) (M.argD (M.tup (M.argN)) (M.argN))))))) (M.argD (M.var 13) (M.argN))))))))))
def F_f_law_tick (lvs : List LV) : FR := runF 3 14 none g_f_law_tick lvs
theorem ok_f_law_tick (T : Txt K mg fs fds us) : FnOk P w K mg base CX0 1 (fs 53) (fds 53) P_f_law_tick (spF K none F_f_law_tick) :=
  fn_pd (io := none) (k := 0) T.f_f_law_tick sc_f_law_tick (by decide) (fun cdv A outer s H E C hr hio hw => (have hu : A.units + 3 + 64 < cLine := hr.units
      (pds_cons (pd_asgT (pd_var 0) (pdg_tup rfl (pdgs_cons (pdg_nm (i := 3) (io_ne hio) sc_f_law_tick.nd) (pdgs_cons (pdg_nm (i := 4) (io_ne hio) sc_f_law_tick.nd) (pdgs_cons (pdg_nm (i := 5) (io_ne hio) sc_f_law_tick.nd) (pdgs_cons (pdg_nm (i := 6) (io_ne hio) sc_f_law_tick.nd) (pdgs_cons (pdg_nm (i := 7) (io_ne hio) sc_f_law_tick.nd) (pdgs_nil))))))))
      (pds_cons (pd_asgT (pd_var 1) (pdg_tup rfl (pdgs_cons (pdg_nm (i := 8) (io_ne hio) sc_f_law_tick.nd) (pdgs_cons (pdg_nm (i := 9) (io_ne hio) sc_f_law_tick.nd) (pdgs_cons (pdg_nm (i := 10) (io_ne hio) sc_f_law_tick.nd) (pdgs_cons (pdg_nm (i := 11) (io_ne hio) sc_f_law_tick.nd) (pdgs_nil)))))))
      (pds_cons (pd_set (i := 12) (io_ne hio) sc_f_law_tick.nd (pd_if (pdt_gt (pd_var 7) (pd_int)) (pd_tup (pda_cons (pd_str) (pda_cons (pd_var 7) (pda_cons (pd_int) (pda_cons (pd_tup (pda_nil)) (pda_nil)))))) (pd_tup (pda_cons (pd_str) (pda_cons (pd_int) (pda_cons (pd_int) (pda_cons (pd_tup (pda_nil)) (pda_nil))))))))
      (pds_cons (pd_ifS (pdt_eq hu (pd_var 8) (pd_str)) (pds_one (pd_ret (pd_tup (pda_cons (pd_if (pdt_ne hu (pd_var 9) (pd_int)) (pd_tup (pda_cons (pd_str) (pda_cons (pd_sub (pd_var 9) (pd_int)) (pda_cons (pd_int) (pda_cons (pd_tup (pda_nil)) (pda_nil)))))) (pd_tup (pda_cons (pd_str) (pda_cons (pd_int) (pda_cons (pd_int) (pda_cons (pd_tup (pda_nil)) (pda_nil))))))) (pda_cons (pd_int) (pda_nil)))))) (pds_nil))
      (pds_cons (pd_set (i := 13) (io_ne hio) sc_f_law_tick.nd (pd_int))
      (pds_cons (pd_ifS (pdt_eq hu (pd_var 8) (pd_str)) (pds_cons (pd_set (i := 11) (io_ne hio) sc_f_law_tick.nd (pd_add (pd_var 11) (pd_tup (pda_cons (pd_var 2) (pda_nil)))))
      (pds_cons (pd_ifS (pdt_ne hu (pd_slice (pd_var 11) (pdo_some (pd_neg (pd_var 3))) (pdo_none)) (pd_mulT (pd_tup (pda_cons (pd_bl) (pda_nil))) (pd_var 3))) (pds_cons (pd_while PassesOwn.never (pdt_ge (pd_len T.n_len (pda_cons (pd_var 11) (pda_nil))) (pd_add (pd_var 3) (pd_var 4))) (pds_one (pd_set (i := 11) (io_ne hio) sc_f_law_tick.nd (pd_slice (pd_var 11) (pdo_some (pd_int)) (pdo_none)))))
      (pds_one (pd_ret (pd_tup (pda_cons (pd_tup (pda_cons (pd_str) (pda_cons (pd_int) (pda_cons (pd_int) (pda_cons (pd_var 11) (pda_nil)))))) (pda_cons (pd_int) (pda_nil))))))) (pds_nil))
      (pds_cons (pd_set (i := 13) (io_ne hio) sc_f_law_tick.nd (pd_len T.n_len (pda_cons (pd_var 11) (pda_nil))))
      (pds_one (pd_par2 (i := 9) (j := 10) (io_ne hio) (io_ne hio) rfl sc_f_law_tick.nd (pda_cons (pd_var 13) (pda_cons (pd_int) (pda_nil)))))))) (pds_one (pd_ifS (pdt_val (pd_var 2)) (pds_one (pd_par2 (i := 9) (j := 10) (io_ne hio) (io_ne hio) rfl sc_f_law_tick.nd (pda_cons (pd_add (pd_var 9) (pd_int)) (pda_cons (pd_int) (pda_nil))))) (pds_one (pd_par2 (i := 9) (j := 10) (io_ne hio) (io_ne hio) rfl sc_f_law_tick.nd (pda_cons (pd_add (pd_var 9) (pd_int)) (pda_cons (pd_add (pd_var 10) (pd_int)) (pda_nil))))))))
      (pds_one (pd_ret (pd_tup (pda_cons (pd_if (pdt_w (pdw_or (pdt_ge (pd_var 9) (pd_var 6)) (pdw_or1 (pdt_ge (pd_var 10) (pd_var 5))))) (pd_var 12) (pd_tup (pda_cons (pd_str) (pda_cons (pd_var 9) (pda_cons (pd_var 10) (pda_cons (pd_tup (pda_nil)) (pda_nil))))))) (pda_cons (pd_var 13) (pda_nil))))))))))))))
def B_law_3 : MS := S.seq (S.asg 13 (M.op2 ixD (M.fn none (F_f_law_tick) (M.argD (M.var 3) (M.argD (M.var 11) (M.argD (M.var 12) (M.argN))))) (M.ret (PyData.int 0))))
    (S.seq (S.ite (M.notT (M.test (M.fn none (F_f_law_twins 8) (M.argD (M.fn none (F_after) (M.argD (M.var 3) (M.argD (M.var 11) (M.argD (M.var 12) (M.argN))))) (M.argD (M.var 13) (M.argN)))))) (S.ret (M.ret (PyData.bool false))) (S.nil))
    (S.asg 11 (M.var 13)))
def B_law_4 : MS := S.seq (S.asg 8 (M.andV (M.op2 gtD (M.var 7) (M.ret (PyData.int 0))) (M.op2 gtD (M.fn (some 0) (F_f_law_pick) (M.argS 2 (M.argD (M.var 5) (M.argN)))) (M.ret (PyData.int 0)))))
    (S.asg 6 (M.op2 addD (M.var 6) (M.tup (M.argD (M.ite (M.test (M.var 8)) (M.op2 ixD (M.var 6) (M.op1 negD (M.ret (PyData.int 1)))) (M.op2 eqDD (M.fn (some 0) (F_f_law_pick) (M.argS 2 (M.argD (M.ret (PyData.int 2)) (M.argN)))) (M.ret (PyData.int 0)))) (M.argN)))))
def B_law_2 : MS := S.seq (S.par2 5 6 (M.argD (M.op2 addD (M.ret (PyData.int 1)) (M.fn (some 0) (F_f_law_pick) (M.argS 2 (M.argD (M.ret (PyData.int 6)) (M.argN))))) (M.argD (M.tup (M.argN)) (M.argN))))
    (S.seq (S.for_ (M.callL range1D (M.argD (M.fn (some 0) (F_f_law_pick) (M.argS 2 (M.argD (M.op2 ixD (M.known (M.lst (M.argD (M.ret (PyData.int 9)) (M.argD (M.ret (PyData.int 25)) (M.argD (M.ret (PyData.int 61)) (M.argN)))))) (M.fn (some 0) (F_f_law_pick) (M.argS 2 (M.argD (M.ret (PyData.int 3)) (M.argN))))) (M.argN)))) (M.argN))) (G.nm 7) (B_law_4))
    (S.seq (S.asg 9 (M.known (M.lst (M.argD (M.fn none (F_recordings) (M.argD (M.var 3) (M.argD (M.var 6) (M.argN)))) (M.argD (M.fn none (F_sounds) (M.argD (M.var 6) (M.argN))) (M.argD (M.fn none (F_row_harms) (M.argD (M.var 3) (M.argD (M.var 6) (M.argN)))) (M.argN)))))))
    (S.seq (S.ite (M.notT (M.test (M.fn none (F_f_law_twins 8) (M.argD (M.var 9) (M.argD (M.known (M.lst (M.argD (M.fn none (F_f_law_tapes) (M.argD (M.var 3) (M.argD (M.var 6) (M.argN)))) (M.argD (M.fn none (F_f_law_sounds) (M.argD (M.var 6) (M.argN))) (M.argD (M.fn none (F_f_law_harms) (M.argD (M.var 3) (M.argD (M.var 6) (M.argN)))) (M.argN)))))) (M.argN)))))) (S.ret (M.ret (PyData.bool false))) (S.nil))
    (S.seq (S.asg 10 (M.fn (some 0) (F_f_law_world) (M.argS 2 (M.argN))))
    (S.seq (S.ite (M.notT (M.test (M.fn none (F_f_law_twins 8) (M.argD (M.fn none (F_is_of) (M.argD (M.var 10) (M.argD (M.var 6) (M.argN)))) (M.argD (M.fn none (F_f_law_is_of) (M.argD (M.var 10) (M.argD (M.var 6) (M.argN)))) (M.argN)))))) (S.ret (M.ret (PyData.bool false))) (S.nil))
    (S.seq (S.asg 11 (M.tup (M.argD (M.ret (PyData.str ("awake" : Str))) (M.argD (M.ret (PyData.int 0)) (M.argD (M.ret (PyData.int 0)) (M.argD (M.tup (M.argN)) (M.argN)))))))
    (S.seq (S.for_ (M.items (M.var 6)) (G.nm 12) (B_law_3))
    (S.ite (M.notT (M.test (M.fn none (F_f_law_twins 8) (M.argD (M.fn none (F_stand_behind) (M.argD (M.var 3) (M.argD (M.var 6) (M.argN)))) (M.argD (M.var 11) (M.argN)))))) (S.ret (M.ret (PyData.bool false))) (S.nil)))))))))
def B_law_1 : MS := S.seq (S.own 2 (M.fnL none (F_f_law_spring) (M.argD (M.var 0) (M.argD (M.var 1) (M.argN)))))
    (S.seq (S.asg 3 (M.fn (some 0) (F_f_law_recorder) (M.argS 2 (M.argN))))
    (S.for_ (M.callL range1D (M.argD (M.ret (PyData.int 6)) (M.argN))) (G.nm 4) (B_law_2)))
def g_law : MS := S.seq (S.for_ (M.callL range1D (M.argD (M.op2 addD (M.call minD (M.argD (M.call lenD (M.argD (M.var 0) (M.argN))) (M.argD (M.ret (PyData.int 10)) (M.argN)))) (M.ret (PyData.int 1))) (M.argN))) (G.nm 1) (B_law_1))
    (S.ret (M.ret (PyData.bool true)))
def F_law (lvs : List LV) : FR := runF 1 14 none g_law lvs
theorem ok_law (T : Txt K mg fs fds us) : FnOk P w K mg base CX0 10 (fs 56) (fds 56) P_law (spF K none F_law) :=
  fn_pd (io := none) (k := 9) T.f_law sc_law (by decide) (fun cdv A outer s H E C hr hio hw => (have hu : A.units + 3 + 64 < cLine := hr.units
      (pds_cons (pd_for PassesOwn.never rfl (pdi_range1 T.n_range (pda_cons (pd_add (pd_min rfl T.n_min (pda_cons (pd_len T.n_len (pda_cons (pd_var 0) (pda_nil))) (pda_cons (pd_int) (pda_nil)))) (pd_int)) (pda_nil))) (pdg_nm (i := 1) (io_ne hio) sc_law.nd) (pds_cons (pd_own (i := 2) (io_ne hio) sc_law.nd (pdl_fn (ok_f_law_spring T) (hr.mono (by omega)) T.m_f_law_spring T.f_f_law_spring.kp T.b_f_law_spring (pda_cons (pd_var 0) (pda_cons (pd_var 1) (pda_nil)))))
      (pds_cons (pd_set (i := 3) (io_ne hio) sc_law.nd (pd_fn (ok_f_law_recorder T) (hr.mono (by omega)) T.m_f_law_recorder T.f_f_law_recorder.kp T.b_f_law_recorder (pda_slot 2 (pda_nil))))
      (pds_one (pd_for PassesOwn.never rfl (pdi_range1 T.n_range (pda_cons (pd_int) (pda_nil))) (pdg_nm (i := 4) (io_ne hio) sc_law.nd) (pds_cons (pd_par2 (i := 5) (j := 6) (io_ne hio) (io_ne hio) rfl sc_law.nd (pda_cons (pd_add (pd_int) (pd_fn (ok_f_law_pick T) (hr.mono (by omega)) T.m_f_law_pick T.f_f_law_pick.kp T.b_f_law_pick (pda_slot 2 (pda_cons (pd_int) (pda_nil))))) (pda_cons (pd_tup (pda_nil)) (pda_nil))))
      (pds_cons (pd_for PassesOwn.never rfl (pdi_range1 T.n_range (pda_cons (pd_fn (ok_f_law_pick T) (hr.mono (by omega)) T.m_f_law_pick T.f_f_law_pick.kp T.b_f_law_pick (pda_slot 2 (pda_cons (pd_sub_ (pd_l (pdl_lst (pda_cons (pd_int) (pda_cons (pd_int) (pda_cons (pd_int) (pda_nil)))))) (pd_fn (ok_f_law_pick T) (hr.mono (by omega)) T.m_f_law_pick T.f_f_law_pick.kp T.b_f_law_pick (pda_slot 2 (pda_cons (pd_int) (pda_nil)))) (fun _ _ => rfl)) (pda_nil)))) (pda_nil))) (pdg_nm (i := 7) (io_ne hio) sc_law.nd) (pds_cons (pd_set (i := 8) (io_ne hio) sc_law.nd (pd_and (pd_gt (pd_var 7) (pd_int)) (pd_one (pd_gt (pd_fn (ok_f_law_pick T) (hr.mono (by omega)) T.m_f_law_pick T.f_f_law_pick.kp T.b_f_law_pick (pda_slot 2 (pda_cons (pd_var 5) (pda_nil)))) (pd_int)))))
      (pds_one (pd_set (i := 6) (io_ne hio) sc_law.nd (pd_add (pd_var 6) (pd_tup (pda_cons (pd_if (pdt_val (pd_var 8)) (pd_sub_ (pd_var 6) (pd_neg (pd_int)) (fun _ _ => rfl)) (pd_eq hu (pd_fn (ok_f_law_pick T) (hr.mono (by omega)) T.m_f_law_pick T.f_f_law_pick.kp T.b_f_law_pick (pda_slot 2 (pda_cons (pd_int) (pda_nil)))) (pd_int))) (pda_nil))))))))
      (pds_cons (pd_set (i := 9) (io_ne hio) sc_law.nd (pd_l (pdl_lst (pda_cons (pd_fn (ok_recordings T) (hr.mono (by omega)) T.m_recordings T.f_recordings.kp T.b_recordings (pda_cons (pd_var 3) (pda_cons (pd_var 6) (pda_nil)))) (pda_cons (pd_fn (ok_sounds T) (hr.mono (by omega)) T.m_sounds T.f_sounds.kp T.b_sounds (pda_cons (pd_var 6) (pda_nil))) (pda_cons (pd_fn (ok_row_harms T) (hr.mono (by omega)) T.m_row_harms T.f_row_harms.kp T.b_row_harms (pda_cons (pd_var 3) (pda_cons (pd_var 6) (pda_nil)))) (pda_nil)))))))
      (pds_cons (pd_ifS (pdt_not (pdt_val (pd_fn (ok_f_law_twins T 8) (hr.mono (by omega)) T.m_f_law_twins T.f_f_law_twins.kp T.b_f_law_twins (pda_cons (pd_var 9) (pda_cons (pd_l (pdl_lst (pda_cons (pd_fn (ok_f_law_tapes T) (hr.mono (by omega)) T.m_f_law_tapes T.f_f_law_tapes.kp T.b_f_law_tapes (pda_cons (pd_var 3) (pda_cons (pd_var 6) (pda_nil)))) (pda_cons (pd_fn (ok_f_law_sounds T) (hr.mono (by omega)) T.m_f_law_sounds T.f_f_law_sounds.kp T.b_f_law_sounds (pda_cons (pd_var 6) (pda_nil))) (pda_cons (pd_fn (ok_f_law_harms T) (hr.mono (by omega)) T.m_f_law_harms T.f_f_law_harms.kp T.b_f_law_harms (pda_cons (pd_var 3) (pda_cons (pd_var 6) (pda_nil)))) (pda_nil)))))) (pda_nil)))))) (pds_one (pd_ret (pd_bl))) (pds_nil))
      (pds_cons (pd_set (i := 10) (io_ne hio) sc_law.nd (pd_fn (ok_f_law_world T) (hr.mono (by omega)) T.m_f_law_world T.f_f_law_world.kp T.b_f_law_world (pda_slot 2 (pda_nil))))
      (pds_cons (pd_ifS (pdt_not (pdt_val (pd_fn (ok_f_law_twins T 8) (hr.mono (by omega)) T.m_f_law_twins T.f_f_law_twins.kp T.b_f_law_twins (pda_cons (pd_fn (ok_is_of T) (hr.mono (by omega)) T.m_is_of T.f_is_of.kp T.b_is_of (pda_cons (pd_var 10) (pda_cons (pd_var 6) (pda_nil)))) (pda_cons (pd_fn (ok_f_law_is_of T) (hr.mono (by omega)) T.m_f_law_is_of T.f_f_law_is_of.kp T.b_f_law_is_of (pda_cons (pd_var 10) (pda_cons (pd_var 6) (pda_nil)))) (pda_nil)))))) (pds_one (pd_ret (pd_bl))) (pds_nil))
      (pds_cons (pd_set (i := 11) (io_ne hio) sc_law.nd (pd_tup (pda_cons (pd_str) (pda_cons (pd_int) (pda_cons (pd_int) (pda_cons (pd_tup (pda_nil)) (pda_nil)))))))
      (pds_cons (pd_for PassesOwn.never rfl (pdi_seq (pd_var 6)) (pdg_nm (i := 12) (io_ne hio) sc_law.nd) (pds_cons (pd_set (i := 13) (io_ne hio) sc_law.nd (pd_sub_ (pd_fn (ok_f_law_tick T) (hr.mono (by omega)) T.m_f_law_tick T.f_f_law_tick.kp T.b_f_law_tick (pda_cons (pd_var 3) (pda_cons (pd_var 11) (pda_cons (pd_var 12) (pda_nil))))) (pd_int) (fun _ _ => rfl)))
      (pds_cons (pd_ifS (pdt_not (pdt_val (pd_fn (ok_f_law_twins T 8) (hr.mono (by omega)) T.m_f_law_twins T.f_f_law_twins.kp T.b_f_law_twins (pda_cons (pd_fn (ok_after T) (hr.mono (by omega)) T.m_after T.f_after.kp T.b_after (pda_cons (pd_var 3) (pda_cons (pd_var 11) (pda_cons (pd_var 12) (pda_nil))))) (pda_cons (pd_var 13) (pda_nil)))))) (pds_one (pd_ret (pd_bl))) (pds_nil))
      (pds_one (pd_set (i := 11) (io_ne hio) sc_law.nd (pd_var 13))))))
      (pds_one (pd_ifS (pdt_not (pdt_val (pd_fn (ok_f_law_twins T 8) (hr.mono (by omega)) T.m_f_law_twins T.f_f_law_twins.kp T.b_f_law_twins (pda_cons (pd_fn (ok_stand_behind T) (hr.mono (by omega)) T.m_stand_behind T.f_stand_behind.kp T.b_stand_behind (pda_cons (pd_var 3) (pda_cons (pd_var 6) (pda_nil)))) (pda_cons (pd_var 11) (pda_nil)))))) (pds_one (pd_ret (pd_bl))) (pds_nil))))))))))))))))
      (pds_one (pd_ret (pd_bl))))))
end
end
end K2

set_option maxRecDepth 100000
set_option maxHeartbeats 4000000
namespace K2
open PySem PySem.Spec L2 PD
local macro_rules
  | `(tactic| simp_arith only [$a,*]) => `(tactic| simp only [ret_ap, lift_some, lift_none, var_ap, varR_d, ownAt_ap, ownL_own, ownL_d, ownL_n, frzAt_ap, frzL_own, frzL_d, frz_nil, frz_cons, frz1_own, frz1_d, frz1_n, wipe_nil, wipe_cons, restore_nil, restore_cons, clean_nil, clean_cons, isOwnL_own, isOwnL_d, isOwnL_k, frz1_k, frzL_k, ownL_k, isOwnL_n, bind_ap, bindR_ok, bindR_ex, bindR_bad, ofM_ap, ofR_ok, ofR_ex, ofR_bad, seq_ap, seqR_nx, seqR_rt, seqR_rl, seqR_bk, seqR_ct, seqR_ex, seqR_bad, nil_ap, pass_ap, never_ap, brk_ap, cnt_ap, retN_ap, sret_ap, sretL_ap, drop_ap, site_ap, asg_ap, own_ap, par2_ap, par3_ap, asgT_ap, asgR_some, asgR_none, gnm_ap, gnil_ap, gcons_ap, gtup_ap, andV_ap, orV_ap, andT_ap, orT_ap, notT_ap, test_ap, op1_ap, op2_ap, chain_ap, mite_ap, ite_apR, ite_apS, argN_ap, argD_ap, argS_ap, slotR_some, tup_ap, lst_ap, known_ap, call_ap, callL_ap, listL_ap, seqOf_l, seqOf_t, items_ap, part_ap, slice_ap, catL_ap, frz_ap, borrow_ap, borrowR_ok, borrowT_ap, borrowTR_ok, subO_ap, app_ap, setIx_ap, retO_ap, for_ap, lc_ap, lcR_ok, fn_ap, fnL_ap, fnR_some, fnLR_some, retR_ret, retR_retL, retLR_retL, putR_some, putO_none, putO_s0, putO_s1, putO_s2, putO_s3, putO_s4, endR_rt, endR_rl, endR_nx, endR_bad, bindR_ite, ofR_ite, seqR_ite, endR_ite, lift_ite, pop_ap, popR_snoc, dctAt_ap, dctL_k, dctL_o, dctL_d, dctL_n, inK_ap, subK_ap, slotKR_some, setK_ap, slotKF_some, setKR_some, parN_ap, parR_ok, setN_nil, setN_cons, nC_ap, nL_ap, nD_ap, dict1_ap, new_ap, repL_ap, addD_ii, addD_ss, addD_tt, subD_ii, mulD_ii, fdivD_ii, modD_ii, powD_ii, negD_i, ltD_ii, leD_ii, gtD_ii, geD_ii, ixD_l, ixD_t, catD_ll, itemsD_l, itemsD_t, lenD_l, lenD_t, lenD_s, absD_i, maxD_ii, minD_ii, intD_i, intD_b, tupleD_l, tupleD_t, notD_b, asB_b, asI_i, eqD_ii, eqD_ss, eqD_bb, eqD_si, eqD_is, eqD_nn, eqD_nb, eqD_ni, eqD_ns, eqD_bn, eqD_in, eqD_sn, tInt_none, tInt_bool, tInt_int, tInt_str, tInt_tuple, tInt_list, tInt_dict, tBool_none, tBool_bool, tBool_int, tBool_str, tBool_tuple, tBool_list, tBool_dict, tStr_none, tStr_bool, tStr_int, tStr_str, tStr_tuple, tStr_list, tStr_dict, tTuple_none, tTuple_bool, tTuple_int, tTuple_str, tTuple_tuple, tTuple_list, tTuple_dict, tList_none, tList_bool, tList_int, tList_str, tList_tuple, tList_list, tList_dict, tSeq_none, tSeq_bool, tSeq_int, tSeq_str, tSeq_tuple, tSeq_list, tSeq_dict, isNoneB_none, scalarD_none, isNoneB_bool, scalarD_bool, isNoneB_int, scalarD_int, isNoneB_str, scalarD_str, isNoneB_tuple, scalarD_tuple, isNoneB_list, scalarD_list, isNoneB_dict, scalarD_dict, ixT0, ixT1, ixT2, ixT3, ixT4, ixT5, ixT6, ixT7, ixT8, ixT9, ixL0, ixL1, ixL2, ixL3, ixL4, ixL5, ixL6, ixL7, ixL8, ixL9, aI0, aI1, aI2, aI3, aI4, aI5, aI6, aI7, aI8, aI9, ixN1_0, ixN2_0, ixN2_1, ixN3_0, ixN3_1, ixN3_2, ixN4_0, ixN4_1, ixN4_2, ixN4_3, ixN5_0, ixN5_1, ixN5_2, ixN5_3, ixN5_4, ixN6_0, ixN6_1, ixN6_2, ixN6_3, ixN6_4, ixN6_5, List.map_cons, List.map_nil, List.cons_append, List.nil_append, List.replicate_zero, List.replicate_succ, List.length_cons, List.length_nil, List.getElem?_cons_zero, List.getElem?_cons_succ, List.set_cons_zero, List.set_cons_succ, List.getD_cons_zero, List.getD_cons_succ, Bool.and_true, Bool.true_and, Bool.not_false, Bool.not_true, Nat.sub_self, Nat.reduceSub, Nat.reduceAdd, Nat.zero_add, true_and, and_true, and_self, if_true, if_false, ite_true, ite_false, reduceCtorEq, false_implies, implies_true, forall_const, Bool.false_eq_true, Option.bind_some, Option.map_some, Option.bind_none, Option.map_none, runF_eq, okIo, datOf, lvsOf, argIo, isD, outO, isND, notND, vals2D, vals3D, eqDD, neDD, decide_true, decide_false, Bool.decide_eq_true, sz0, sz1, sz2, sz3, sz4, sz5, sz6, sz7, sz8, sz9, sz10, sz11, sz12, sz13, sz14, sz15, sz16, sz17, sz18, sz19, sz20, sz21, sz22, sz23, sz24, sz25, sz26, sz27, sz28, sz29, sz30, sz31, sz32, sz33, sz34, sz35, sz36, sz37, sz38, sz39, sz40, slice_t, all_t, all_l, any_l, all_lm, all_tm, any_lm, Function.comp_def, step_nx, step_ct, step_bk, step_rt, step_rl, step_ite, decide_eq_true_eq, Int.cast_ofNat_Int, Int.reduceLE, Int.reduceLT, Int.reduceAdd, Int.reduceSub, Int.reduceMul, Int.reduceNeg, Int.reduceEq, Int.reduceGT, Nat.reduceEqDiff, ne_eq, not_false_eq_true, Option.some.injEq, forall_eq', Nat.reduceLT, Bool.and_false, Bool.or_false, Bool.false_or, Bool.true_or, Bool.false_and, Bool.or_true, $a,*])
/-! ### plain recorders and stands -/
structure Rec where
  need : Int
  ahead : Int
  hush : Int
  most : Int
  rest : Int
structure Rec.Ok (r : Rec) : Prop where
  n1 : 1 ≤ r.need
  n3 : r.need ≤ 3
  a0 : 0 ≤ r.ahead
  a3 : r.ahead ≤ 3
  h1 : 1 ≤ r.hush
  h3 : r.hush ≤ 3
  m1 : r.need + r.ahead ≤ r.most
  m2 : r.most ≤ 10
  r0 : 0 ≤ r.rest
  r3 : r.rest ≤ 3
def encR (r : Rec) : D := .tuple [.int r.need, .int r.ahead, .int r.hush, .int r.most, .int r.rest]
def encB (h : List Bool) : D := .tuple (h.map .bool)
inductive Sd where
  | aw (h : List Bool)
  | rc (c q : Int)
  | sl (c : Int)
  deriving DecidableEq
def sAw : Str := "awake"
def sRc : Str := "records"
def sSl : Str := "sleeps"
def encS : Sd → D
  | .aw h => .tuple [.str sAw, .int 0, .int 0, encB h]
  | .rc c q => .tuple [.str sRc, .int c, .int q, .tuple []]
  | .sl c => .tuple [.str sSl, .int c, .int 0, .tuple []]
theorem cA : cst_AWAKE = .str sAw := rfl
theorem cR : cst_RECORDS = .str sRc := rfl
theorem cS : cst_SLEEPS = .str sSl := rfl
theorem cF : cst_FRESH = encS (.aw []) := rfl
theorem t_A : Str.ofString "awake" = sAw := rfl
theorem t_R : Str.ofString "records" = sRc := rfl
theorem t_S : Str.ofString "sleeps" = sSl := rfl
theorem e_AA : (sAw = sAw) = True := eq_true rfl
theorem e_AR : (sAw = sRc) = False := eq_false (by decide +kernel)
theorem e_AS : (sAw = sSl) = False := eq_false (by decide +kernel)
theorem e_RA : (sRc = sAw) = False := eq_false (by decide +kernel)
theorem e_RR : (sRc = sRc) = True := eq_true rfl
theorem e_RS : (sRc = sSl) = False := eq_false (by decide +kernel)
theorem e_SA : (sSl = sAw) = False := eq_false (by decide +kernel)
theorem e_SR : (sSl = sRc) = False := eq_false (by decide +kernel)
theorem e_SS : (sSl = sSl) = True := eq_true rfl
def isWithin (x : D) (lo hi : Int) : Bool := match x with
  | .int i => decide (lo ≤ i) && decide (i ≤ hi)
  | _ => false
theorem F_is_within_eq (x : D) (lo hi : Int) : F_is_within [.d x, .d (.int lo), .d (.int hi)] = .ret (.bool (isWithin x lo hi)) none := by
  unfold F_is_within g_is_within
  cases x <;> simp_arith only [true_and] <;> simp [isWithin]
  rename_i i
  by_cases h : lo ≤ i <;> simp [h]
def isRowOf (x : D) (n : Int) : Bool := match x with
  | .tuple xs => decide ((xs.length : Int) = n)
  | _ => false
theorem F_is_row_of_eq (x : D) (n : Int) : F_is_row_of [.d x, .d (.int n)] = .ret (.bool (isRowOf x n)) none := by
  unfold F_is_row_of g_is_row_of
  cases x <;> simp_arith only [true_and] <;> simp [isRowOf]
theorem F_is_recorder_ok {r : Rec} (h : r.Ok) : F_is_recorder [.d (encR r)] = .ret (.bool true) none := by
  obtain ⟨h1, h2, h3, h4, h5, h6, h7, h8, h9, h10⟩ := h
  unfold F_is_recorder g_is_recorder encR
  simp_arith only [F_is_row_of_eq, F_is_within_eq, isRowOf, isWithin]
  simp [*]
/-! ### lists of truth values -/
theorem all_encB (h : List Bool) : allD [encB h] = some (.bool (h.all id)) := all_t h
theorem len_encB (h : List Bool) : lenD [encB h] = some (.int (h.length : Int)) := by
  show some (PyData.int _) = _
  rw [List.length_map]
theorem slice_from (h : List Bool) {i : Int} {k : Nat} (e : i = (k : Int)) : sliceD (encB h) (some i) none = some (encB (h.drop k)) := by
  show some (PyData.tuple _) = some (PyData.tuple _)
  rw [cut_from e, List.map_drop]
theorem slice_neg (h : List Bool) {i : Int} {k : Nat} (e : i = -(k : Int)) (hk : 0 < k) : sliceD (encB h) (some i) none = some (encB (h.drop (h.length - k))) := by
  show some (PyData.tuple _) = some (PyData.tuple _)
  rw [cut_neg e hk, List.map_drop, List.length_map]
theorem add_one (h : List Bool) (b : Bool) (hl : h.length + 1 ≤ sizeLine) : addD (encB h) (.tuple [.bool b]) = some (encB (h ++ [b])) := by
  show (if (h.map PyData.bool).length + 1 ≤ sizeLine then _ else _) = _
  rw [List.length_map, if_pos hl]
  show some (PyData.tuple _) = some (PyData.tuple _)
  rw [List.map_append]
  rfl
theorem slice_max (h : List Bool) (i : Int) : sliceD (encB h) (some (if i > 0 then i else 0)) none = some (encB (h.drop i.toNat)) := slice_from h (by split <;> omega)
def isRowB (h : List Bool) : Prop := h.length + 1 ≤ sizeLine
/-! ### what a recorder does in a tick -/
def fullB (need : Int) (h : List Bool) : Bool := decide (need ≤ (h.length : Int)) && (h.drop (h.length - need.toNat)).all id
def endedS (r : Rec) : Sd := if 0 < r.rest then .sl r.rest else .aw []
def finS (r : Rec) (c q k : Int) : Sd × Int := if q = r.hush ∨ c = r.most then (endedS r, k) else (.rc c q, k)
def stepS (r : Rec) (s : Sd) (b : Bool) : Sd × Int := match s with
  | .sl c => (if 1 < c then .sl (c - 1) else .aw [], 0)
  | .aw h => if fullB r.need (h ++ [b]) = true then finS r ((h ++ [b]).length : Int) 0 ((h ++ [b]).length : Int)
      else (.aw ((h ++ [b]).drop (((h ++ [b]).length : Int) - r.need - r.ahead + 1).toNat), 0)
  | .rc c q => finS r (c + 1) (if b = true then 0 else q + 1) 1
/-! ### the program's own step -/
theorem F_ended_eq (r : Rec) : F_ended [.d (encR r)] = .ret (encS (endedS r)) none := by
  unfold F_ended g_ended encR endedS
  simp_arith only [cA, cS, cF]
  by_cases h : 0 < r.rest <;> simp [h, encS]
theorem F_step_sl (r : Rec) (c : Int) (b : Bool) : F_step [.d (encR r), .d (encS (.sl c)), .d (.bool b)] = .ret (.tuple [encS (stepS r (.sl c) b).1, .int (stepS r (.sl c) b).2]) none := by
  unfold F_step g_step encR encS stepS
  simp_arith only [cA, cS, cF, cR, e_SS]
  by_cases h : 1 < c <;> simp [h, encS]
theorem F_step_rc (r : Rec) (c q : Int) (b : Bool) : F_step [.d (encR r), .d (encS (.rc c q)), .d (.bool b)] = .ret (.tuple [encS (stepS r (.rc c q) b).1, .int (stepS r (.rc c q) b).2]) none := by
  unfold F_step g_step encS stepS finS
  have eR := F_ended_eq r
  unfold encR at eR ⊢
  simp_arith only [cA, cS, cF, cR, e_RS, e_RA, eR]
  cases b
  · by_cases h : q + 1 = r.hush <;> by_cases h' : c + 1 = r.most <;> simp [h, h', encS]
  · by_cases h : 0 = r.hush <;> by_cases h' : c + 1 = r.most <;> simp [h, h', encS]
theorem F_step_aw (r : Rec) (hr : r.Ok) (h : List Bool) (b : Bool) (hl : h.length + 1 ≤ sizeLine) : F_step [.d (encR r), .d (encS (.aw h)), .d (.bool b)] = .ret (.tuple [encS (stepS r (.aw h) b).1, .int (stepS r (.aw h) b).2]) none := by
  unfold F_step g_step stepS finS fullB
  have eR := F_ended_eq r
  have hn : -r.need = -((r.need.toNat : Nat) : Int) := by have := hr.n1; omega
  have hn' : 0 < r.need.toNat := by have := hr.n1; omega
  have h0 : ¬ (0 = r.hush) := by have := hr.h1; omega
  unfold encR at eR ⊢
  conv => lhs; unfold encS
  simp_arith only [cA, cS, cF, cR, e_AS, e_AA, eR, add_one h b hl, len_encB, slice_neg _ hn hn', all_encB, slice_max]
  by_cases h1 : ((h ++ [b]).length : Int) < r.need
  · simp only [h1, Int.not_le.mpr h1, if_true, decide_false, Bool.false_and, Bool.false_eq_true, if_false, encS]
  · have h1' := Int.not_lt.mp h1
    simp only [h1, h1', if_false, decide_true, Bool.true_and]
    cases h2 : (List.drop ((h ++ [b]).length - r.need.toNat) (h ++ [b])).all id
    · simp only [Bool.not_false, if_true, Bool.false_eq_true, if_false, encS]
    · simp only [Bool.not_true, Bool.false_eq_true, if_false, if_true, h0, false_or]
      by_cases h3 : ((h ++ [b]).length : Int) = r.most
      · simp only [h3, if_true]
      · simp only [h3, if_false, encS]
theorem F_step_eq (r : Rec) (hr : r.Ok) (s : Sd) (b : Bool) (hl : ∀ h, s = .aw h → h.length + 1 ≤ sizeLine) : F_step [.d (encR r), .d (encS s), .d (.bool b)] = .ret (.tuple [encS (stepS r s b).1, .int (stepS r s b).2]) none := by
  cases s with
  | aw h => exact F_step_aw r hr h b (hl h rfl)
  | rc c q => exact F_step_rc r c q b
  | sl c => exact F_step_sl r c b
/-! ### which stands there are -/
def heardS (r : Rec) (h : List Bool) : Prop := (h.length : Int) ≤ r.need + r.ahead - 1 ∧ ((h.length : Int) < r.need ∨ (h.drop (h.length - r.need.toNat)).all id = false)
def Sd.Ok (r : Rec) : Sd → Prop
  | .aw h => heardS r h
  | .rc c q => 1 ≤ c ∧ c ≤ r.most - 1 ∧ 0 ≤ q ∧ q ≤ (if c < r.hush then c else r.hush) - 1
  | .sl c => 1 ≤ c ∧ c ≤ r.rest
theorem Sd.Ok.short {r : Rec} (hr : r.Ok) {s : Sd} (hs : s.Ok r) : ∀ h, s = .aw h → h.length + 1 ≤ sizeLine := fun h e => by
  subst e
  have := hs.1
  have := hr.n3
  have := hr.a3
  rw [sizeLine_eq]
  omega
/-! ### a stand stays a stand -/
theorem heard_nil {r : Rec} (hr : r.Ok) : heardS r [] := ⟨by have := hr.n1; have := hr.a0; simp only [List.length_nil]; omega, .inl (by have := hr.n1; simp only [List.length_nil]; omega)⟩
theorem endedS_ok {r : Rec} (hr : r.Ok) : (endedS r).Ok r := by
  unfold endedS
  split
  · exact ⟨by omega, Int.le_refl _⟩
  · exact heard_nil hr
theorem finS_ok {r : Rec} (hr : r.Ok) {c q : Int} (k : Int) (h1 : 1 ≤ c) (h2 : c ≤ r.most) (h3 : 0 ≤ q) (h4 : q ≤ r.hush) (h5 : q < c) : (finS r c q k).1.Ok r := by
  unfold finS
  split
  · exact endedS_ok hr
  · rename_i h
    have e1 : ¬ q = r.hush := fun e => h (.inl e)
    have e2 : ¬ c = r.most := fun e => h (.inr e)
    exact ⟨h1, by omega, h3, by by_cases hc : c < r.hush <;> simp only [hc, if_true, if_false] <;> omega⟩
theorem stepS_ok {r : Rec} (hr : r.Ok) {s : Sd} (hs : s.Ok r) (b : Bool) : (stepS r s b).1.Ok r := by
  have hn1 := hr.n1
  have ha0 := hr.a0
  have hm1 := hr.m1
  cases s with
  | sl c =>
    obtain ⟨h1, h2⟩ := hs
    unfold stepS
    dsimp only
    split
    · exact ⟨by omega, by omega⟩
    · exact heard_nil hr
  | rc c q =>
    obtain ⟨h1, h2, h3, h4⟩ := hs
    have h5 := hr.h1
    refine finS_ok hr 1 (by omega) (by omega) (by split <;> omega) ?_ ?_
    · by_cases hc : c < r.hush <;> simp only [hc, if_true, if_false] at h4 <;> split <;> omega
    · by_cases hc : c < r.hush <;> simp only [hc, if_true, if_false] at h4 <;> split <;> omega
  | aw h =>
    obtain ⟨h1, h2⟩ := hs
    unfold stepS
    dsimp only
    have hl : (h ++ [b]).length = h.length + 1 := by rw [List.length_append, List.length_singleton]
    generalize h ++ [b] = g at hl
    have hg : (g.length : Int) ≤ r.need + r.ahead := by omega
    split
    · rename_i hf
      unfold fullB at hf
      rw [Bool.and_eq_true] at hf
      have := of_decide_eq_true hf.1
      have h5 := hr.h1
      exact finS_ok hr _ (by omega) (by omega) (Int.le_refl _) (by omega) (by omega)
    · rename_i hf
      refine ⟨by rw [List.length_drop]; omega, ?_⟩
      by_cases hd : ((g.drop ((g.length : Int) - r.need - r.ahead + 1).toNat).length : Int) < r.need
      · exact .inl hd
      · rw [List.length_drop] at hd
        refine .inr ?_
        rw [List.drop_drop, List.length_drop, show ((g.length : Int) - r.need - r.ahead + 1).toNat + (g.length - ((g.length : Int) - r.need - r.ahead + 1).toNat - r.need.toNat) = g.length - r.need.toNat by omega]
        unfold fullB at hf
        rw [Bool.and_eq_true] at hf
        cases ht : (g.drop (g.length - r.need.toNat)).all id with
        | false => rfl
        | true => exact absurd ⟨decide_eq_true (by omega), ht⟩ hf
theorem F_look_at_recorder_ok {r : Rec} (h : r.Ok) : F_look_at_recorder [.d (encR r)] = .ret .none none := by
  unfold F_look_at_recorder g_look_at_recorder
  simp_arith only [F_is_recorder_ok h]
/-! ### the program's own looking, and after -/
theorem F_look_at_sound_ok (b : Bool) : F_look_at_sound [.d (.bool b)] = .ret .none none := by
  unfold F_look_at_sound g_look_at_sound
  simp_arith only [true_and]
theorem tTuple_encB (h : List Bool) : tTuple (encB h) = true := rfl
theorem itemsD_encB (h : List Bool) : itemsD (encB h) = some (h.map .bool) := rfl
theorem F_is_heard_ok {r : Rec} (hr : r.Ok) {h : List Bool} (hh : heardS r h) : F_is_heard [.d (encR r), .d (encB h)] = .ret (.bool true) none := by
  have hn : -r.need = -((r.need.toNat : Nat) : Int) := by have := hr.n1; omega
  have hn' : 0 < r.need.toNat := by have := hr.n1; omega
  obtain ⟨hh1, hh2⟩ := hh
  have hz : h.length ≤ sizeLine := by have := hr.n3; have := hr.a3; rw [sizeLine_eq]; omega
  unfold F_is_heard g_is_heard encR
  simp_arith only [len_encB, slice_neg _ hn hn', all_encB, tTuple_encB, itemsD_encB, if_neg (Int.not_lt.mpr hh1)]
  rw [lcLoop_map (f := fun _ => .bool true) _ (by rw [List.length_map]; exact hz) (by
    intro x hx
    obtain ⟨b, _, rfl⟩ := List.mem_map.mp hx
    exact ⟨_, _, _, rfl, rfl, rfl, rfl⟩)]
  simp_arith only [len_encB, slice_neg _ hn hn', all_encB, List.map_map]
  rw [List.all_eq_true.mpr (fun _ _ => rfl)]
  simp_arith only [len_encB, slice_neg _ hn hn', all_encB]
  rcases hh2 with h2 | h2
  · simp only [h2, if_true]
  · simp only [h2, Bool.not_false, ite_self]
theorem F_fits_ok {r : Rec} (hr : r.Ok) {s : Sd} (hs : s.Ok r) : F_fits [.d (encR r), .d (encS s)] = .ret (.bool true) none := by
  unfold F_fits g_fits
  cases s with
  | aw h =>
    have e := F_is_heard_ok hr hs
    unfold encS
    simp_arith only [cA, cS, cR, e_AA, F_is_row_of_eq, F_is_within_eq, isRowOf, isWithin, e]
  | rc c q =>
    obtain ⟨h1, h2, h3, h4⟩ := hs
    unfold encS encR
    simp_arith only [cA, cS, cR, e_RR, e_RA, e_RS, F_is_row_of_eq, F_is_within_eq, isRowOf, isWithin]
    simp only [h1, h2, h3, h4, decide_true, Bool.not_true, Bool.false_eq_true, if_false, Bool.and_self]
  | sl c =>
    obtain ⟨h1, h2⟩ := hs
    unfold encS encR
    simp_arith only [cA, cS, cR, e_SS, e_SA, e_SR, F_is_row_of_eq, F_is_within_eq, isRowOf, isWithin]
    simp only [h1, h2, decide_true, Bool.not_true, Bool.false_eq_true, if_false, if_true, Bool.and_self]
theorem F_look_at_stand_ok {r : Rec} (hr : r.Ok) {s : Sd} (hs : s.Ok r) : F_look_at_stand [.d (encR r), .d (encS s)] = .ret .none none := by
  unfold F_look_at_stand g_look_at_stand
  simp_arith only [F_fits_ok hr hs]
theorem F_after_ok {r : Rec} (hr : r.Ok) {s : Sd} (hs : s.Ok r) (b : Bool) : F_after [.d (encR r), .d (encS s), .d (.bool b)] = .ret (encS (stepS r s b).1) none := by
  unfold F_after g_after
  simp_arith only [F_look_at_stand_ok hr hs, F_look_at_recorder_ok hr, F_look_at_sound_ok, F_step_eq r hr s b (hs.short hr)]
/-! ### the law's own tick -/
theorem rep_true {n : Int} (h1 : 1 ≤ n) (h2 : n ≤ 1000) : repTD (.tuple [.bool true]) (.int n) = some (encB (List.replicate n.toNat true)) := by
  have e : repTD (.tuple [.bool true]) (.int n) = if ([PyData.bool true] : List D) = [] ∧ -1000 ≤ n ∧ n ≤ 1000 then some (.tuple []) else if 1 ≤ n ∧ n ≤ 1000 ∧ [PyData.bool true].length ≤ 1000 then some (.tuple (List.replicate n.toNat [PyData.bool true]).flatten) else none := rfl
  rw [e, if_neg (fun h => by cases h.1), if_pos ⟨h1, h2, by decide⟩]
  unfold encB
  congr 2
  rw [List.map_replicate]
  exact List.flatten_replicate_singleton
theorem encB_nil : encB [] = .tuple [] := rfl
theorem F_tick_sl (r : Rec) (c : Int) (b : Bool) (hs : 1 ≤ c) : F_f_law_tick [.d (encR r), .d (encS (.sl c)), .d (.bool b)] = .ret (.tuple [encS (stepS r (.sl c) b).1, .int (stepS r (.sl c) b).2]) none := by
  unfold F_f_law_tick g_f_law_tick encR encS stepS
  simp_arith only [e_SS, t_A, t_R, t_S]
  by_cases h : 1 < c
  · have h' : c ≠ 1 := by omega
    simp [h, h', encS]
  · have h' : c = 1 := by omega
    simp [h', encS, encB_nil]
theorem endD (r : Rec) : (if 0 < r.rest then encS (.sl r.rest) else encS (.aw [])) = encS (endedS r) := by
  unfold endedS
  split <;> rfl
theorem F_tick_rc (r : Rec) (hr : r.Ok) (c q : Int) (b : Bool) (hs : Sd.Ok r (.rc c q)) : F_f_law_tick [.d (encR r), .d (encS (.rc c q)), .d (.bool b)] = .ret (.tuple [encS (stepS r (.rc c q) b).1, .int (stepS r (.rc c q) b).2]) none := by
  unfold F_f_law_tick g_f_law_tick encR encS stepS
  simp_arith only [e_RS, e_RA, t_A, t_R, t_S]
  obtain ⟨h1, h2, h3, h4⟩ := hs
  have h5 := hr.h1
  have h6 := hr.r0
  have e1 : (r.hush ≤ q + 1) = (q + 1 = r.hush) := propext ⟨fun h => by split at h4 <;> omega, fun h => by omega⟩
  have e2 : (r.most ≤ c + 1) = (c + 1 = r.most) := propext ⟨fun h => by omega, fun h => by omega⟩
  have e3 : (r.hush ≤ 0) = False := eq_false (by omega)
  have e4 : (0 = r.hush) = False := eq_false (by omega)
  unfold finS endedS
  simp only [e1, e2, e3]
  by_cases g1 : 0 < r.rest <;> cases b <;> by_cases g2 : c + 1 = r.most <;> by_cases g3 : q + 1 = r.hush <;> simp [g1, g2, g3, e4, encS, encB_nil]
theorem all_true_rep : ∀ h : List Bool, h.all id = true → h = List.replicate h.length true
  | [], _ => rfl
  | b :: h, e => by
    rw [List.all_cons, Bool.and_eq_true] at e
    rw [List.length_cons, List.replicate_succ, ← all_true_rep h e.2]
    exact congrArg (· :: h) e.1
theorem tail_full (n : Int) (h1 : 1 ≤ n) (h : List Bool) : (h.drop (h.length - n.toNat) = List.replicate n.toNat true) = (fullB n h = true) := by
  unfold fullB
  refine propext ⟨fun e => ?_, fun e => ?_⟩
  · rw [Bool.and_eq_true]
    have hl := congrArg List.length e
    rw [List.length_drop, List.length_replicate] at hl
    refine ⟨decide_eq_true (by omega), ?_⟩
    rw [e]
    exact List.all_eq_true.mpr fun x hx => (List.mem_replicate.mp hx).2
  · rw [Bool.and_eq_true] at e
    have e1 := of_decide_eq_true e.1
    have := all_true_rep _ e.2
    rw [List.length_drop] at this
    rw [this]
    congr 1
    omega
theorem eqD_encB (a b : List Bool) : eqD (encB a) (encB b) = some (decide (a = b)) := eqD_en a b (by decide)
theorem tick_while {need ahead : Int} (g : List Bool) (hg : (g.length : Int) ≤ need + ahead) (h0 : 1 ≤ need + ahead) (x0 x1 x2 x5 x6 x7 x8 x9 x10 x12 x13 : Option LV) :
    S.while_ W_f_law_tick_1 B_f_law_tick_1 [x0, x1, x2, some (.d (.int need)), some (.d (.int ahead)), x5, x6, x7, x8, x9, x10, some (.d (encB g)), x12, x13]
      = .nx [x0, x1, x2, some (.d (.int need)), some (.d (.int ahead)), x5, x6, x7, x8, x9, x10, some (.d (encB (g.drop ((g.length : Int) - need - ahead + 1).toNat))), x12, x13] := by
  have e1 : ∀ g : List Bool, (g.length : Int) < need + ahead → S.while_ W_f_law_tick_1 B_f_law_tick_1 [x0, x1, x2, some (.d (.int need)), some (.d (.int ahead)), x5, x6, x7, x8, x9, x10, some (.d (encB g)), x12, x13]
      = .nx [x0, x1, x2, some (.d (.int need)), some (.d (.int ahead)), x5, x6, x7, x8, x9, x10, some (.d (encB g)), x12, x13] := fun g h => by
    refine while_done ?_
    simp_arith only [len_encB, W_f_law_tick_1]
    rw [decide_eq_false (Int.not_le.mpr h)]
  by_cases h : (g.length : Int) < need + ahead
  · rw [e1 g h, show ((g.length : Int) - need - ahead + 1).toNat = 0 by omega, List.drop_zero]
  · have h1 : ((g.length : Int) - need - ahead + 1).toNat = 1 := by omega
    have e2 := e1 (g.drop 1) (by rw [List.length_drop]; omega)
    rw [while_go (ρ2 := [x0, x1, x2, some (.d (.int need)), some (.d (.int ahead)), x5, x6, x7, x8, x9, x10, some (.d (encB (g.drop 1))), x12, x13]) (by
      simp_arith only [len_encB, W_f_law_tick_1]
      rw [decide_eq_true (Int.not_lt.mp h)]) (.inl (by simp_arith only [B_f_law_tick_1, slice_from g (i := 1) (k := 1) rfl])) (by rw [e2]; rfl), e2, h1]
theorem F_tick_aw (r : Rec) (hr : r.Ok) (h : List Bool) (b : Bool) (hs : heardS r h) : F_f_law_tick [.d (encR r), .d (encS (.aw h)), .d (.bool b)] = .ret (.tuple [encS (stepS r (.aw h) b).1, .int (stepS r (.aw h) b).2]) none := by
  unfold F_f_law_tick g_f_law_tick stepS
  have hn : -r.need = -((r.need.toNat : Nat) : Int) := by have := hr.n1; omega
  have hn' : 0 < r.need.toNat := by have := hr.n1; omega
  have hl : h.length + 1 ≤ sizeLine := Sd.Ok.short hr (s := .aw h) hs h rfl
  have hn2 : r.need ≤ 1000 := by have := hr.n3; omega
  conv => lhs; unfold encR encS
  simp_arith only [e_AS, e_AA, t_A, t_R, t_S, add_one h b hl, len_encB, slice_neg _ hn hn', rep_true hr.n1 hn2, eqD_encB, tail_full _ hr.n1]
  have h0 : (r.hush ≤ 0) = False := eq_false (by have := hr.h1; omega)
  have h00 : (0 = r.hush) = False := eq_false (by have := hr.h1; omega)
  have hg : ((h ++ [b]).length : Int) ≤ r.need + r.ahead := by
    have := hs.1
    rw [List.length_append, List.length_singleton]
    omega
  have e2 : (r.most ≤ ((h ++ [b]).length : Int)) = (((h ++ [b]).length : Int) = r.most) := propext ⟨fun e => by have := hr.m1; omega, fun e => by omega⟩
  rw [tick_while _ hg (by have := hr.n1; have := hr.a0; omega), tick_while _ hg (by have := hr.n1; have := hr.a0; omega)]
  simp_arith only [true_and]
  unfold finS endedS
  simp only [h0, e2, if_false]
  cases fullB r.need (h ++ [b])
  · simp only [Bool.not_false, if_true, Bool.false_eq_true, if_false, encS, ite_self]
  · simp only [Bool.not_true, Bool.false_eq_true, if_false, if_true, h00, false_or]
    by_cases h3 : ((h ++ [b]).length : Int) = r.most
    · simp only [h3, if_true]
      by_cases h4 : 0 < r.rest
      · simp only [h4, if_true, encS]
      · simp only [h4, if_false, encS, encB_nil]
    · simp only [h3, if_false, encS, ite_self]
theorem F_tick_eq {r : Rec} (hr : r.Ok) {s : Sd} (hs : s.Ok r) (b : Bool) : F_f_law_tick [.d (encR r), .d (encS s), .d (.bool b)] = .ret (.tuple [encS (stepS r s b).1, .int (stepS r s b).2]) none := by
  cases s with
  | aw h => exact F_tick_aw r hr h b hs
  | rc c q => exact F_tick_rc r hr c q b hs
  | sl c => exact F_tick_sl r c b hs.1
/-! ### the law's springs -/
def SpV (xs : List D) : Prop := ∃ a b : Int, xs = [.int a, .int b] ∧ 0 ≤ a ∧ 0 ≤ b ∧ b < 999999999989
theorem mulOk_small {i j : Int} {n m : Nat} (h : i.natAbs < 2 ^ n) (h2 : j.natAbs < 2 ^ m) (h3 : n + m ≤ 100000000 := by decide) (hn : n ≠ 0 := by decide) : mulOk i j = true := by
  unfold mulOk
  refine decide_eq_true ?_
  have e1 : i.natAbs.log2 < n := by
    by_cases h0 : i.natAbs = 0
    · rw [h0]; exact Nat.pos_of_ne_zero hn
    · exact (Nat.log2_lt h0).mpr h
  have e2 : j.natAbs.log2 ≤ m := by
    by_cases h0 : j.natAbs = 0
    · rw [h0]; exact Nat.zero_le _
    · exact Nat.le_of_lt ((Nat.log2_lt h0).mpr h2)
  omega
theorem divOk_small {j : Int} (h : 0 < j) (h2 : j < 1000000) : divOk j = true := by
  unfold divOk
  rw [Bool.and_eq_true]
  refine ⟨decide_eq_true h, decide_eq_true ?_⟩
  have : j.natAbs < 2 ^ 20 := by omega
  have := (Nat.log2_lt (by omega : j.natAbs ≠ 0)).mpr this
  omega
theorem F_pick_ok {xs : List D} (hx : SpV xs) {m : Int} (h0 : 0 < m) (h1 : m < 1000000) : ∃ i ys, F_f_law_pick [.own xs, .d (.int m)] = .ret (.int i) (some ys) ∧ SpV ys ∧ 0 ≤ i ∧ i < m := by
  obtain ⟨a, b, rfl, ha, hb, hb2⟩ := hx
  have e1 : mulOk b 393555900739 = true := mulOk_small (n := 40) (m := 40) (by omega) (by decide)
  have e2 : divOk m = true := divOk_small h0 h1
  have e3 : divOk 4093 = true := by decide
  unfold F_f_law_pick g_f_law_pick
  simp_arith only [e1, e2, e3, if_pos h0]
  by_cases h : 0 < a
  · rw [if_pos h]
    exact ⟨_, _, rfl, ⟨_, _, rfl, Int.ediv_nonneg ha (by omega), hb, hb2⟩, Int.emod_nonneg _ (by omega), Int.emod_lt_of_pos _ h0⟩
  · rw [if_neg h]
    exact ⟨_, _, rfl, ⟨_, _, rfl, ha, Int.emod_nonneg _ (by decide), Int.emod_lt_of_pos _ (by decide)⟩, Int.emod_nonneg _ (by omega), Int.emod_lt_of_pos _ h0⟩
theorem F_spring_ok {ns : List Int} (hb : ∀ n ∈ ns, n.natAbs.log2 ≤ 1048576) (hl : ns.length ≤ 1000) {at' : Int} (h0 : 0 ≤ at') (h1 : at' ≤ 1000) : ∃ xs, F_f_law_spring [.d (.list (ns.map .int)), .d (.int at')] = .retL xs none ∧ SpV xs := by
  have e1 : ∀ n : Int, n.natAbs.log2 ≤ 1048576 → mulOk n 863 = true := fun n h => by
    unfold mulOk
    refine decide_eq_true ?_
    have : (863 : Int).natAbs.log2 ≤ 10 := by decide
    omega
  have e2 : mulOk 524287 at' = true := mulOk_small (n := 20) (m := 10) (by decide) (by omega)
  have e3 : ∀ n : Int, (if n < 0 then -n else n) = (n.natAbs : Int) := fun n => by split <;> omega
  have e4 : ∀ c : Int, 0 ≤ c → 0 ≤ (if 10 ^ 18 ≤ c then c else 0) := fun c h => by split <;> omega
  have e5 : Int.natAbs 10 < 2 ^ 64 := by decide
  have e6 : mulOk 7 863 = true := by decide
  have e7 : ¬ ((10 : Int) ^ Int.toNat 18 ≤ 7) := by decide
  unfold F_f_law_spring
  simp_arith only [true_and]
  unfold g_f_law_spring
  simp_arith only [List.length_map, e2]
  by_cases h : at' < (ns.length : Int)
  · obtain ⟨k, hk⟩ := Int.eq_ofNat_of_zero_le h0
    have hk2 : k < ns.length := by omega
    have e8 : atI (ns.map PyData.int) at' = some (.int ns[k]) := by rw [hk]; exact atI_nat (by rw [List.getElem?_map, List.getElem?_eq_getElem hk2]; rfl)
    have hn := hb _ (List.getElem_mem hk2)
    have e9 : mulOk (ns[k].natAbs : Int) 863 = true := e1 _ (by rw [Int.natAbs_natCast]; exact hn)
    simp_arith only [if_pos h, List.length_map, e2, e8, e3, e9, e5]
    by_cases h2 : (10 : Int) ^ Int.toNat 18 ≤ (ns[k].natAbs : Int)
    · rw [if_pos h2]
      exact ⟨_, rfl, _, _, rfl, Int.natCast_nonneg _, Int.emod_nonneg _ (by decide), Int.emod_lt_of_pos _ (by decide)⟩
    · rw [if_neg h2]
      exact ⟨_, rfl, _, _, rfl, Int.le_refl _, Int.emod_nonneg _ (by decide), Int.emod_lt_of_pos _ (by decide)⟩
  · simp_arith only [if_neg h, List.length_map, e2, e6, e5, if_neg e7]
    exact ⟨_, rfl, _, _, rfl, Int.le_refl _, Int.emod_nonneg _ (by decide), Int.emod_lt_of_pos _ (by decide)⟩
theorem F_recorder_ok {xs : List D} (hx : SpV xs) : ∃ r ys, F_f_law_recorder [.own xs] = .ret (encR r) (some ys) ∧ r.Ok ∧ SpV ys := by
  obtain ⟨i1, x1, e1, h1, a1, b1⟩ := F_pick_ok hx (m := 3) (by decide) (by decide)
  obtain ⟨i2, x2, e2, h2, a2, b2⟩ := F_pick_ok h1 (m := 4) (by decide) (by decide)
  obtain ⟨i3, x3, e3, h3, a3, b3⟩ := F_pick_ok h2 (m := 11 - (1 + i1) - i2) (by omega) (by omega)
  obtain ⟨i4, x4, e4, h4, a4, b4⟩ := F_pick_ok h3 (m := 3) (by decide) (by decide)
  obtain ⟨i5, x5, e5, h5, a5, b5⟩ := F_pick_ok h4 (m := 5) (by decide) (by decide)
  unfold F_f_law_recorder g_f_law_recorder
  have e6 : ∃ j : Int, atI [PyData.int 0, PyData.int 1, PyData.int 1, PyData.int 2, PyData.int 3] i5 = some (.int j) ∧ 0 ≤ j ∧ j ≤ 3 := by
    have : i5 = 0 ∨ i5 = 1 ∨ i5 = 2 ∨ i5 = 3 ∨ i5 = 4 := by omega
    rcases this with h | h | h | h | h <;> subst h <;> exact ⟨_, rfl, by decide, by decide⟩
  obtain ⟨j, e6, j0, j3⟩ := e6
  simp_arith only [e1, e2, e3, e4, e5, e6]
  exact ⟨⟨1 + i1, i2, 1 + i4, 1 + i1 + i2 + i3, j⟩, x5, rfl, ⟨by show 1 ≤ 1 + i1; omega, by show 1 + i1 ≤ 3; omega, a2, by show i2 ≤ 3; omega, by show 1 ≤ 1 + i4; omega, by show 1 + i4 ≤ 3; omega, by show 1 + i1 + i2 ≤ 1 + i1 + i2 + i3; omega, by show 1 + i1 + i2 + i3 ≤ 10; omega, j0, j3⟩, h5⟩
/-! ### twins -/
def kindD : D → Int
  | .none => 0
  | .bool _ => 1
  | .list _ => 2
  | .tuple _ => 3
  | .int _ => 4
  | .str _ => 5
  | .dict _ => 6
theorem F_kind_eq (x : D) : F_f_law_kind [.d x] = .ret (.int (kindD x)) none := by
  unfold F_f_law_kind g_f_law_kind
  cases x <;> simp_arith only [true_and] <;> rfl
theorem F_twins_self : ∀ (n : Nat) (x : D), Sh n x → n ≤ 60 → F_f_law_twins (n + 1) [.d x, .d x] = .ret (.bool true) none
  | n, x, hx, hn => by
    have e0 := eqD_self hx (by omega)
    have key : ∀ xs : List D, (∀ y ∈ xs, F_f_law_twins n [.d y, .d y] = .ret (.bool true) none) → ∀ a b : Option LV,
      lcLoop [2, 3] (G.tup 2 (G.cons (G.nm 2) (G.cons (G.nm 3) G.nil))) (T_f_law_twins_1 (F_f_law_twins n)) (E_f_law_twins_1 (F_f_law_twins n)) (zipL xs xs) [] [a, b, none, none] = .ok [] [a, b, none, none] := fun xs h a b => by
      refine lcLoop_none _ _ ?_
      rw [zipL_self]
      intro z hz
      obtain ⟨y, hy, rfl⟩ := List.mem_map.mp hz
      refine ⟨[a, b, some (.d y), some (.d y)], [a, b, some (.d y), some (.d y)], rfl, ?_, rfl⟩
      simp_arith only [T_f_law_twins_1, h y hy]
    have zt : ∀ xs : List D, zipD [.tuple xs, .tuple xs] = some (zipL xs xs) := fun _ => rfl
    have zl : ∀ xs : List D, zipD [.list xs, .list xs] = some (zipL xs xs) := fun _ => rfl
    cases x with
    | tuple xs =>
      cases n with
      | zero => exact hx.zero_t.elim
      | succ n =>
        have e1 := key xs fun y hy => F_twins_self n y (hx.mem_t y hy) (by omega)
        unfold F_f_law_twins g_f_law_twins
        simp_arith only [F_kind_eq, kindD, inDD_i2, zt, e1, eq_nil_nil]
    | list xs =>
      cases n with
      | zero => exact hx.zero_l.elim
      | succ n =>
        have e1 := key xs fun y hy => F_twins_self n y (hx.mem_l y hy) (by omega)
        unfold F_f_law_twins g_f_law_twins
        simp_arith only [F_kind_eq, kindD, inDD_i2, zl, e1, eq_nil_nil]
    | dict kvs => exact hx.not_dict.elim
    | none =>
      unfold F_f_law_twins g_f_law_twins
      simp_arith only [F_kind_eq, kindD, inDD_i2, e0]
    | int i =>
      unfold F_f_law_twins g_f_law_twins
      simp_arith only [F_kind_eq, kindD, inDD_i2, e0]
    | bool i =>
      unfold F_f_law_twins g_f_law_twins
      simp_arith only [F_kind_eq, kindD, inDD_i2, e0]
    | str i =>
      unfold F_f_law_twins g_f_law_twins
      simp_arith only [F_kind_eq, kindD, inDD_i2, e0]
/-! ### shapes -/
theorem ss_A : PyData.strOk sAw = true := by decide +kernel
theorem ss_R : PyData.strOk sRc = true := by decide +kernel
theorem ss_S : PyData.strOk sSl = true := by decide +kernel
theorem sh_encB (h : List Bool) : Sh 1 (encB h) := sh_tup fun x hx => by
  obtain ⟨b, _, rfl⟩ := List.mem_map.mp hx
  exact sh_bool b
theorem sh_encS (s : Sd) : Sh 2 (encS s) := by
  have e : Sh 1 (.tuple []) := sh_tup (n := 0) sh_nil
  cases s with
  | aw h => exact sh_tup (sh_cons ((sh_str ss_A).up (by decide)) (sh_cons ((sh_int _).up (by decide)) (sh_cons ((sh_int _).up (by decide)) (sh_cons (sh_encB h) sh_nil))))
  | rc c q => exact sh_tup (sh_cons ((sh_str ss_R).up (by decide)) (sh_cons ((sh_int _).up (by decide)) (sh_cons ((sh_int _).up (by decide)) (sh_cons e sh_nil))))
  | sl c => exact sh_tup (sh_cons ((sh_str ss_S).up (by decide)) (sh_cons ((sh_int _).up (by decide)) (sh_cons ((sh_int _).up (by decide)) (sh_cons e sh_nil))))
theorem twins8 (n : Nat) (hn : n + 1 = 8) {x : D} (h : Sh 2 x) : F_f_law_twins 8 [.d x, .d x] = .ret (.bool true) none := by
  have : n = 7 := by omega
  subst this
  exact F_twins_self 7 x (h.up (by decide)) (by decide)
/-! ### what is a recorder, a world, a plan, a row, at any datum -/
theorem isWithin_true {x : D} {lo hi : Int} : isWithin x lo hi = true ↔ ∃ i, x = .int i ∧ lo ≤ i ∧ i ≤ hi := by
  unfold isWithin
  split
  · rw [Bool.and_eq_true, decide_eq_true_eq, decide_eq_true_eq]
    exact ⟨fun h => ⟨_, rfl, h.1, h.2⟩, fun ⟨i, e, h⟩ => by cases e; exact h⟩
  · rename_i h
    exact ⟨fun e => (by cases e), fun ⟨i, e, _⟩ => absurd e (h i)⟩
theorem isRowOf_true {x : D} {n : Int} : isRowOf x n = true ↔ ∃ xs, x = .tuple xs ∧ (xs.length : Int) = n := by
  unfold isRowOf
  split
  · rw [decide_eq_true_eq]
    exact ⟨fun h => ⟨_, rfl, h⟩, fun ⟨i, e, h⟩ => by cases e; exact h⟩
  · rename_i h
    exact ⟨fun e => (by cases e), fun ⟨i, e, _⟩ => absurd e (h i)⟩
theorem len2 {xs : List D} (h : (xs.length : Int) = 2) : ∃ a b, xs = [a, b] := by
  match xs, h with
  | [a, b], _ => exact ⟨a, b, rfl⟩
  | [], h => simp at h
  | [_], h => simp at h
  | _ :: _ :: _ :: _, h => simp only [List.length_cons] at h; omega
theorem len3 {xs : List D} (h : (xs.length : Int) = 3) : ∃ a b c, xs = [a, b, c] := by
  match xs, h with
  | [a, b, c], _ => exact ⟨a, b, c, rfl⟩
  | [], h => simp at h
  | [_], h => simp at h
  | [_, _], h => simp at h
  | _ :: _ :: _ :: _ :: _, h => simp only [List.length_cons] at h; omega
theorem len4 {xs : List D} (h : (xs.length : Int) = 4) : ∃ a b c d, xs = [a, b, c, d] := by
  match xs, h with
  | [a, b, c, d], _ => exact ⟨a, b, c, d, rfl⟩
  | [], h => simp at h
  | [_], h => simp at h
  | [_, _], h => simp at h
  | [_, _, _], h => simp at h
  | _ :: _ :: _ :: _ :: _ :: _, h => simp only [List.length_cons] at h; omega
theorem len5 {xs : List D} (h : (xs.length : Int) = 5) : ∃ a b c d e, xs = [a, b, c, d, e] := by
  match xs, h with
  | [a, b, c, d, e], _ => exact ⟨a, b, c, d, e, rfl⟩
  | [], h => simp at h
  | [_], h => simp at h
  | [_, _], h => simp at h
  | [_, _, _], h => simp at h
  | [_, _, _, _], h => simp at h
  | _ :: _ :: _ :: _ :: _ :: _ :: _, h => simp only [List.length_cons] at h; omega
def IsRec (x : D) : Prop := ∃ r : Rec, r.Ok ∧ x = encR r
structure Wl where
  least : Int
  great : Int
  hush : Int
structure Wl.Ok (w : Wl) : Prop where
  l1 : 1 ≤ w.least
  lg : w.least ≤ w.great
  g2 : w.great ≤ 12
  h1 : 1 ≤ w.hush
  h4 : w.hush ≤ 4
def encW (w : Wl) : D := .tuple [.int w.least, .int w.great, .int w.hush]
def IsWorld (x : D) : Prop := ∃ w : Wl, w.Ok ∧ x = encW w
def IsPlan (x : D) : Prop := ∃ r w, x = .tuple [encR r, encW w] ∧ r.Ok ∧ w.Ok
/-- the answer is a truth value, and it is so just where P is -/
def Says (f : FR) (P : Prop) : Prop := ∃ b, f = .ret (.bool b) none ∧ (b = true ↔ P)
theorem Says.no {P : Prop} (h : ¬ P) : Says (.ret (.bool false) none) P := ⟨false, rfl, fun e => (by cases e), fun p => absurd p h⟩
theorem Says.yes {P : Prop} (h : P) : Says (.ret (.bool true) none) P := ⟨true, rfl, fun _ => h, fun _ => rfl⟩
theorem Says.dec {P Q : Prop} [Decidable Q] (h : Q ↔ P) : Says (.ret (.bool (decide Q)) none) P := ⟨_, rfl, by rw [decide_eq_true_eq]; exact h⟩
theorem Says.bool {P : Prop} {b : Bool} (h : b = true ↔ P) : Says (.ret (.bool b) none) P := ⟨_, rfl, h⟩
theorem Says.eq {f : FR} {P Q : Prop} (h : Says f P) (e : P ↔ Q) : Says f Q := by
  obtain ⟨b, h1, h2⟩ := h
  exact ⟨b, h1, h2.trans e⟩
theorem isRec_of {a b c d e : D} : IsRec (.tuple [a, b, c, d, e]) ↔ ∃ i j k l m : Int, a = .int i ∧ b = .int j ∧ c = .int k ∧ d = .int l ∧ e = .int m ∧ (Rec.mk i j k l m).Ok :=
  ⟨fun ⟨r, hr, he⟩ => by unfold encR at he; cases he; exact ⟨_, _, _, _, _, rfl, rfl, rfl, rfl, rfl, hr⟩, fun ⟨i, j, k, l, m, h1, h2, h3, h4, h5, hr⟩ => ⟨_, hr, by rw [h1, h2, h3, h4, h5]; rfl⟩⟩
theorem within_no {x : D} {lo hi : Int} (h : isWithin x lo hi = false) (i : Int) (e : x = .int i) (h1 : lo ≤ i) (h2 : i ≤ hi) : False := by
  rw [isWithin_true.mpr ⟨i, e, h1, h2⟩] at h
  cases h
theorem F_is_recorder_says (x : D) : Says (F_is_recorder [.d x]) (IsRec x) := by
  unfold F_is_recorder g_is_recorder
  by_cases h5 : isRowOf x 5 = true
  · obtain ⟨xs, rfl, hl⟩ := isRowOf_true.mp h5
    obtain ⟨a, b, c, d, e, rfl⟩ := len5 hl
    rw [isRec_of]
    simp_arith only [F_is_row_of_eq, F_is_within_eq, h5]
    cases ha : isWithin a 1 3
    · simp_arith only [true_and]
      exact Says.no fun ⟨i, j, k, l, m, h1, h2, h3, h4, h5, o⟩ => within_no ha i h1 o.n1 o.n3
    cases hb : isWithin b 0 3
    · simp_arith only [true_and]
      exact Says.no fun ⟨i, j, k, l, m, h1, h2, h3, h4, h5, o⟩ => within_no hb j h2 o.a0 o.a3
    cases hc : isWithin c 1 3
    · simp_arith only [true_and]
      exact Says.no fun ⟨i, j, k, l, m, h1, h2, h3, h4, h5, o⟩ => within_no hc k h3 o.h1 o.h3
    cases he : isWithin e 0 3
    · simp_arith only [true_and]
      exact Says.no fun ⟨i, j, k, l, m, h1, h2, h3, h4, h5, o⟩ => within_no he m h5 o.r0 o.r3
    obtain ⟨i, rfl, i1, i2⟩ := isWithin_true.mp ha
    obtain ⟨j, rfl, j1, j2⟩ := isWithin_true.mp hb
    obtain ⟨k, rfl, k1, k2⟩ := isWithin_true.mp hc
    obtain ⟨m, rfl, m1, m2⟩ := isWithin_true.mp he
    simp_arith only [F_is_within_eq]
    refine Says.bool (isWithin_true.trans ⟨fun ⟨l, hd, l1, l2⟩ => ⟨i, j, k, l, m, rfl, rfl, rfl, hd, rfl, ⟨i1, i2, j1, j2, k1, k2, l1, l2, m1, m2⟩⟩, fun ⟨i', j', k', l, m', e1, e2, e3, e4, e5, o⟩ => ⟨l, e4, ?_, o.m2⟩⟩)
    cases e1
    cases e2
    exact o.m1
  · have h5 : isRowOf x 5 = false := by cases h : isRowOf x 5 <;> first | rfl | exact absurd h h5
    simp_arith only [F_is_row_of_eq, h5]
    exact Says.no fun ⟨r, _, e⟩ => by subst e; cases h5
theorem bool_no {b : Bool} (h : ¬ b = true) : b = false := by cases b <;> first | rfl | exact absurd rfl h
theorem isWorld_of {a b c : D} : IsWorld (.tuple [a, b, c]) ↔ ∃ i j k : Int, a = .int i ∧ b = .int j ∧ c = .int k ∧ (Wl.mk i j k).Ok :=
  ⟨fun ⟨r, hr, he⟩ => by unfold encW at he; cases he; exact ⟨_, _, _, rfl, rfl, rfl, hr⟩, fun ⟨i, j, k, h1, h2, h3, hr⟩ => ⟨_, hr, by rw [h1, h2, h3]; rfl⟩⟩
theorem Says.ite {P Q : Prop} [Decidable Q] {f : FR} (h1 : Q → Says f P) (h2 : ¬ Q → ¬ P) : Says (if Q then f else .ret (.bool false) none) P := by
  split
  · exact h1 ‹_›
  · exact Says.no (h2 ‹_›)
theorem Says.nite {P Q : Prop} [Decidable Q] {f : FR} (h1 : ¬ Q → Says f P) (h2 : Q → ¬ P) : Says (if Q then .ret (.bool false) none else f) P := by
  split
  · exact Says.no (h2 ‹_›)
  · exact h1 ‹_›
theorem okR_iff {i j k l m : Int} : (Rec.mk i j k l m).Ok ↔ 1 ≤ i ∧ i ≤ 3 ∧ 0 ≤ j ∧ j ≤ 3 ∧ 1 ≤ k ∧ k ≤ 3 ∧ i + j ≤ l ∧ l ≤ 10 ∧ 0 ≤ m ∧ m ≤ 3 :=
  ⟨fun o => ⟨o.n1, o.n3, o.a0, o.a3, o.h1, o.h3, o.m1, o.m2, o.r0, o.r3⟩, fun ⟨a, b, c, d, e, f, g, h, i, j⟩ => ⟨a, b, c, d, e, f, g, h, i, j⟩⟩
theorem isRec_ints {i j k l m : Int} : IsRec (.tuple [.int i, .int j, .int k, .int l, .int m]) ↔ 1 ≤ i ∧ i ≤ 3 ∧ 0 ≤ j ∧ j ≤ 3 ∧ 1 ≤ k ∧ k ≤ 3 ∧ i + j ≤ l ∧ l ≤ 10 ∧ 0 ≤ m ∧ m ≤ 3 :=
  ⟨fun ⟨r, hr, e⟩ => by unfold encR at e; cases e; exact okR_iff.mp hr, fun h => ⟨⟨i, j, k, l, m⟩, okR_iff.mpr h, rfl⟩⟩
theorem F_is_world_says (x : D) : Says (F_is_world [.d x]) (IsWorld x) := by
  unfold F_is_world g_is_world
  by_cases h5 : isRowOf x 3 = true
  · obtain ⟨xs, rfl, hl⟩ := isRowOf_true.mp h5
    obtain ⟨a, b, c, rfl⟩ := len3 hl
    rw [isWorld_of]
    simp_arith only [F_is_row_of_eq, F_is_within_eq, h5]
    cases ha : isWithin a 1 12
    · simp_arith only [true_and]
      exact Says.no fun ⟨i, j, k, h1, h2, h3, o⟩ => within_no ha i h1 o.l1 (by have := o.lg; have := o.g2; exact Int.le_trans o.lg o.g2)
    obtain ⟨i, rfl, i1, i2⟩ := isWithin_true.mp ha
    simp_arith only [F_is_within_eq]
    cases hb : isWithin b i 12
    · simp_arith only [true_and]
      exact Says.no fun ⟨i', j, k, h1, h2, h3, o⟩ => by cases h1; exact within_no hb j h2 o.lg o.g2
    obtain ⟨j, rfl, j1, j2⟩ := isWithin_true.mp hb
    simp_arith only [F_is_within_eq]
    exact Says.bool (isWithin_true.trans ⟨fun ⟨l, hd, l1, l2⟩ => ⟨i, j, l, rfl, rfl, hd, ⟨i1, j1, j2, l1, l2⟩⟩, fun ⟨i', j', k', e1, e2, e3, o⟩ => ⟨k', e3, o.h1, o.h4⟩⟩)
  · have h5 := bool_no h5
    simp_arith only [F_is_row_of_eq, h5]
    exact Says.no fun ⟨r, _, e⟩ => by subst e; cases h5
/-! ### rows, at any datum -/
def IsRowB (n : Nat) (x : D) : Prop := ∃ h : List Bool, x = encB h ∧ h.length ≤ n
theorem allBool_iff {xs : List D} : (xs.all tBool) = true ↔ ∃ h : List Bool, xs = h.map .bool := by
  rw [List.all_eq_true]
  refine ⟨fun h => bools_of fun y hy => ?_, fun ⟨h, e⟩ y hy => ?_⟩
  · have := h y hy
    cases y <;> first | exact ⟨_, rfl⟩ | cases this
  · subst e
    obtain ⟨b, _, rfl⟩ := List.mem_map.mp hy
    rfl
theorem F_is_row_says (x : D) : Says (F_is_row [.d x]) (IsRowB 60 x) := by
  unfold F_is_row g_is_row
  cases x with
  | tuple xs =>
    simp_arith only [show cst_MOST_TICKS = PyData.int 60 from rfl]
    by_cases hl : (60 : Int) < xs.length
    · simp_arith only [if_pos hl]
      refine Says.no fun ⟨h, e, hh⟩ => ?_
      cases e
      rw [List.length_map] at hl
      omega
    · simp_arith only [if_neg hl]
      rw [lcLoop_map (f := fun x => .bool (tBool x)) _ (by rw [sizeLine_eq]; omega) (by
        intro x hx
        exact ⟨_, _, _, rfl, rfl, rfl, rfl⟩)]
      simp_arith only [true_and]
      refine Says.bool (allBool_iff.trans ⟨fun ⟨h, e⟩ => ⟨h, by rw [e]; rfl, by rw [e, List.length_map] at hl; omega⟩, fun ⟨h, e, _⟩ => ⟨h, ?_⟩⟩)
      cases e
      rfl
  | none => simp_arith only [true_and]; exact Says.no fun ⟨h, e, _⟩ => by cases e
  | bool b => simp_arith only [true_and]; exact Says.no fun ⟨h, e, _⟩ => by cases e
  | int b => simp_arith only [true_and]; exact Says.no fun ⟨h, e, _⟩ => by cases e
  | str b => simp_arith only [true_and]; exact Says.no fun ⟨h, e, _⟩ => by cases e
  | list b => simp_arith only [true_and]; exact Says.no fun ⟨h, e, _⟩ => by cases e
  | dict b => simp_arith only [true_and]; exact Says.no fun ⟨h, e, _⟩ => by cases e
/-! ### the law's worlds -/
theorem at6 (a b c d e f : D) {i : Int} (h0 : 0 ≤ i) (h1 : i < 6) : atI [a, b, c, d, e, f] i = some (if i = 0 then a else if i = 1 then b else if i = 2 then c else if i = 3 then d else if i = 4 then e else f) := by
  have : i = 0 ∨ i = 1 ∨ i = 2 ∨ i = 3 ∨ i = 4 ∨ i = 5 := by omega
  rcases this with h | h | h | h | h | h <;> subst h <;> rfl
theorem F_world_ok {xs : List D} (hx : SpV xs) : ∃ w ys, F_f_law_world [.own xs] = .ret (encW w) (some ys) ∧ w.Ok ∧ SpV ys := by
  obtain ⟨i1, x1, e1, h1, a1, b1⟩ := F_pick_ok hx (m := 5) (by decide) (by decide)
  obtain ⟨i2, x2, e2, h2, a2, b2⟩ := F_pick_ok h1 (m := 5) (by decide) (by decide)
  obtain ⟨i3, x3, e3, h3, a3, b3⟩ := F_pick_ok h2 (m := 6) (by decide) (by decide)
  obtain ⟨i4, x4, e4, h4, a4, b4⟩ := F_pick_ok h3 (m := 4) (by decide) (by decide)
  obtain ⟨i5, x5, e5, h5, a5, b5⟩ := F_pick_ok h4 (m := 4) (by decide) (by decide)
  have f1 : ∃ j : Int, atI [PyData.int 0, PyData.int 0, PyData.int 1, PyData.int 2, PyData.int i1] i2 = some (.int j) ∧ 0 ≤ j ∧ j ≤ 4 := by
    have : i2 = 0 ∨ i2 = 1 ∨ i2 = 2 ∨ i2 = 3 ∨ i2 = 4 := by omega
    rcases this with h | h | h | h | h <;> subst h <;> exact ⟨_, rfl, by omega, by omega⟩
  have f2 : ∃ j : Int, atI [PyData.int 0, PyData.int 1, PyData.int 2, PyData.int 4, PyData.int 7, PyData.int 11] i3 = some (.int j) ∧ 0 ≤ j := by
    have : i3 = 0 ∨ i3 = 1 ∨ i3 = 2 ∨ i3 = 3 ∨ i3 = 4 ∨ i3 = 5 := by omega
    rcases this with h | h | h | h | h | h <;> subst h <;> exact ⟨_, rfl, by omega⟩
  have f3 : ∃ j : Int, atI [PyData.int 0, PyData.int 0, PyData.int 1, PyData.int i4] i5 = some (.int j) ∧ 0 ≤ j ∧ j ≤ 3 := by
    have : i5 = 0 ∨ i5 = 1 ∨ i5 = 2 ∨ i5 = 3 := by omega
    rcases this with h | h | h | h <;> subst h <;> exact ⟨_, rfl, by omega, by omega⟩
  obtain ⟨j1, f1, c1, d1⟩ := f1
  obtain ⟨j2, f2, c2⟩ := f2
  obtain ⟨j3, f3, c3, d3⟩ := f3
  unfold F_f_law_world g_f_law_world
  simp_arith only [e1, e2, e3, e4, e5, f1, f2, f3]
  exact ⟨⟨1 + j1, if 1 + j1 + j2 < 12 then 1 + j1 + j2 else 12, 1 + j3⟩, x5, rfl, ⟨by show 1 ≤ 1 + j1; omega, by show 1 + j1 ≤ _; dsimp only; split <;> omega, by dsimp only; split <;> omega, by show 1 ≤ 1 + j3; omega, by show 1 + j3 ≤ 4; omega⟩, h5⟩
end K2

set_option maxRecDepth 100000
set_option maxHeartbeats 4000000
set_option synthInstance.maxSize 8000
set_option synthInstance.maxHeartbeats 400000
namespace K2
open PySem PySem.Spec L2 PD
/-! ### a row, tick by tick: stands, what is recorded -/
def Sat (r : Rec) (f : Nat → Bool) : Nat → Sd
  | 0 => .aw []
  | t + 1 => (stepS r (Sat r f t) (f t)).1
def Kat (r : Rec) (f : Nat → Bool) (t : Nat) : Int := (stepS r (Sat r f t) (f t)).2
def isAw : Sd → Bool
  | .aw _ => true
  | _ => false
abbrev Tp : Type := Int × Int
/-- the recordings, behind a tick -/
def recStep (fd : List Tp) (old : Sd) (t : Int) (k : Int) : List Tp :=
  if 0 < k then (if isAw old = true then fd ++ [(t - k + 1, t)] else fd.dropLast ++ [((fd.getLast?.getD (0, 0)).1, t)]) else fd
def Recs (r : Rec) (f : Nat → Bool) : Nat → List Tp
  | 0 => []
  | t + 1 => recStep (Recs r f t) (Sat r f t) (t : Nat) (Kat r f t)
/-- the ticks from a up to b -/
def seg (f : Nat → Bool) (a b : Nat) : List Bool := (List.range' a (b - a)).map f
theorem seg_len (f : Nat → Bool) (a b : Nat) : (seg f a b).length = b - a := by
  unfold seg
  rw [List.length_map, List.length_range']
theorem seg_snoc (f : Nat → Bool) {a b : Nat} (h : a ≤ b) : seg f a (b + 1) = seg f a b ++ [f b] := by
  unfold seg
  rw [show b + 1 - a = (b - a) + 1 by omega, List.range'_concat, List.map_append, List.map_cons, List.map_nil]
  congr 3
  omega
theorem seg_drop (f : Nat → Bool) (a b k : Nat) : (seg f a b).drop k = seg f (a + k) b := by
  unfold seg
  rw [← List.map_drop, List.drop_range']
  congr 2
  · omega
  · omega
theorem seg_nil (f : Nat → Bool) (a : Nat) : seg f a a = [] := by
  unfold seg
  rw [Nat.sub_self]
  rfl
/-- whether a recording begins with a tick, awake since w -/
def loud (f : Nat → Bool) (need : Int) (w t : Nat) : Bool := decide ((w : Int) + need ≤ (t : Int) + 1) && (seg f (t + 1 - need.toNat) (t + 1)).all id
/-- from where on a tick hears: awake since w -/
def from_ (r : Rec) (w t : Nat) : Nat := if t - (r.need + r.ahead - 1).toNat < w then w else t - (r.need + r.ahead - 1).toNat
theorem from_le {r : Rec} {w t : Nat} (h : w ≤ t) : from_ r w t ≤ t ∧ w ≤ from_ r w t := by
  unfold from_
  split <;> omega
theorem full_loud {r : Rec} (hr : r.Ok) (f : Nat → Bool) {w t : Nat} (h : w ≤ t) : fullB r.need (seg f (from_ r w t) (t + 1)) = loud f r.need w t := by
  have h1 := hr.n1
  have h2 := hr.a0
  unfold fullB loud
  rw [seg_len]
  have e : decide (r.need ≤ ((t + 1 - from_ r w t : Nat) : Int)) = decide ((w : Int) + r.need ≤ (t : Int) + 1) := by
    refine decide_eq_decide.mpr ?_
    unfold from_
    split <;> omega
  rw [e]
  by_cases hd : (w : Int) + r.need ≤ (t : Int) + 1
  · rw [seg_drop]
    congr 3
    unfold from_
    split <;> omega
  · rw [decide_eq_false hd]; rfl
theorem awake_step {r : Rec} (hr : r.Ok) (f : Nat → Bool) {w t : Nat} (h : w ≤ t) (hs : Sat r f t = .aw (seg f (from_ r w t) t)) :
    (loud f r.need w t = false → Sat r f (t + 1) = .aw (seg f (from_ r w (t + 1)) (t + 1)) ∧ Kat r f t = 0) ∧
    (loud f r.need w t = true → Sat r f (t + 1) = (finS r ((t + 1 - from_ r w t : Nat) : Int) 0 0).1 ∧ Kat r f t = ((t + 1 - from_ r w t : Nat) : Int)) := by
  have h1 := hr.n1
  have h2 := hr.a0
  have e1 : seg f (from_ r w t) t ++ [f t] = seg f (from_ r w t) (t + 1) := (seg_snoc f (from_le h).1).symm
  have fin1 : ∀ c q k k', (finS r c q k).1 = (finS r c q k').1 := fun c q k k' => by unfold finS; split <;> rfl
  have fin2 : ∀ c q k, (finS r c q k).2 = k := fun c q k => by unfold finS; split <;> rfl
  have e2 : Sat r f (t + 1) = (stepS r (.aw (seg f (from_ r w t) t)) (f t)).1 := by
    show (stepS r (Sat r f t) (f t)).1 = _
    rw [hs]
  have e3 : Kat r f t = (stepS r (.aw (seg f (from_ r w t) t)) (f t)).2 := by unfold Kat; rw [hs]
  unfold stepS at e2 e3
  dsimp only at e2 e3
  rw [e1, full_loud hr f h, seg_len] at e2 e3
  refine ⟨fun hl => ?_, fun hl => ?_⟩
  · rw [hl] at e2 e3
    simp only [Bool.false_eq_true, if_false] at e2 e3
    refine ⟨?_, e3⟩
    rw [e2, seg_drop]
    congr 2
    unfold from_
    split <;> split <;> omega
  · rw [hl] at e2 e3
    simp only [if_true] at e2 e3
    exact ⟨by rw [e2]; exact fin1 _ _ _ _, by rw [e3]; exact fin2 _ _ _⟩
theorem rc_step {r : Rec} (f : Nat → Bool) {t : Nat} {c q : Int} (hs : Sat r f t = .rc c q) : Sat r f (t + 1) = (finS r (c + 1) (if f t = true then 0 else q + 1) 0).1 ∧ Kat r f t = 1 := by
  have fin1 : ∀ c q k k', (finS r c q k).1 = (finS r c q k').1 := fun c q k k' => by unfold finS; split <;> rfl
  have fin2 : ∀ c q k, (finS r c q k).2 = k := fun c q k => by unfold finS; split <;> rfl
  have e2 : Sat r f (t + 1) = (stepS r (.rc c q) (f t)).1 := by
    show (stepS r (Sat r f t) (f t)).1 = _
    rw [hs]
  have e3 : Kat r f t = (stepS r (.rc c q) (f t)).2 := by unfold Kat; rw [hs]
  exact ⟨by rw [e2]; exact fin1 _ _ _ _, by rw [e3]; exact fin2 _ _ _⟩
theorem sl_step {r : Rec} (f : Nat → Bool) {t : Nat} {c : Int} (hs : Sat r f t = .sl c) : Sat r f (t + 1) = (if 1 < c then .sl (c - 1) else .aw []) ∧ Kat r f t = 0 := by
  have e2 : Sat r f (t + 1) = (stepS r (.sl c) (f t)).1 := by
    show (stepS r (Sat r f t) (f t)).1 = _
    rw [hs]
  have e3 : Kat r f t = (stepS r (.sl c) (f t)).2 := by unfold Kat; rw [hs]
  exact ⟨e2, e3⟩
theorem sl_run {r : Rec} (f : Nat → Bool) : ∀ (k t : Nat), Sat r f t = .sl ((k + 1 : Nat) : Int) → Sat r f (t + (k + 1)) = .aw [] ∧ Recs r f (t + (k + 1)) = Recs r f t
  | 0, t, h => by
    obtain ⟨h1, h2⟩ := sl_step f h
    rw [if_neg (by decide)] at h1
    refine ⟨h1, ?_⟩
    show recStep _ _ _ _ = _
    unfold recStep
    rw [h2, if_neg (by decide)]
  | k + 1, t, h => by
    obtain ⟨h1, h2⟩ := sl_step f h
    rw [if_pos (by omega), show ((k + 1 + 1 : Nat) : Int) - 1 = ((k + 1 : Nat) : Int) by omega] at h1
    obtain ⟨h3, h4⟩ := sl_run f k (t + 1) h1
    rw [show t + (k + 1 + 1) = t + 1 + (k + 1) by omega]
    refine ⟨h3, h4.trans ?_⟩
    show recStep _ _ _ _ = _
    unfold recStep
    rw [h2, if_neg (by decide)]
/-- behind a recording: asleep, then awake -/
theorem ended_run {r : Rec} (hr : r.Ok) (f : Nat → Bool) {t : Nat} (h : Sat r f t = endedS r) : Sat r f (t + r.rest.toNat) = .aw [] ∧ Recs r f (t + r.rest.toNat) = Recs r f t := by
  have h0 := hr.r0
  unfold endedS at h
  split at h
  · obtain ⟨k, hk⟩ : ∃ k : Nat, r.rest = ((k + 1 : Nat) : Int) := ⟨r.rest.toNat - 1, by omega⟩
    rw [hk] at h ⊢
    exact sl_run f k t h
  · rw [show r.rest.toNat = 0 by omega]
    exact ⟨h, rfl⟩
/-! ### the law's walk over a row -/
/-- at the head of a turn: awake since w, nothing begun since, the recordings so far -/
structure HeadI (r : Rec) (f : Nat → Bool) (fd : List Tp) (w t : Nat) : Prop where
  le : w ≤ t
  s : Sat r f t = .aw (seg f (from_ r w t) t)
  rcs : Recs r f t = fd
  ok : ∀ p ∈ fd, 0 ≤ p.1 ∧ p.1 ≤ p.2 ∧ p.2 < (w : Int)
  asc : fd.Pairwise fun p q => p.2 < q.1
/-- within a recording from b, behind the tick e -/
structure InI (r : Rec) (f : Nat → Bool) (fd : List Tp) (b e : Nat) (q : Int) : Prop where
  le : b ≤ e
  s : Sat r f (e + 1) = (finS r ((e + 1 - b : Nat) : Int) q 0).1
  rcs : Recs r f (e + 1) = fd ++ [((b : Int), (e : Int))]
  q0 : 0 ≤ q
  qh : q ≤ r.hush
  cm : ((e + 1 - b : Nat) : Int) ≤ r.most
  ok : ∀ p ∈ fd, 0 ≤ p.1 ∧ p.1 ≤ p.2 ∧ p.2 < (b : Int)
  asc : fd.Pairwise fun p q => p.2 < q.1
theorem HeadI.start (r : Rec) (f : Nat → Bool) : HeadI r f [] 0 0 := ⟨Nat.le_refl _, by
  show Sd.aw [] = _
  rw [show from_ r 0 0 = 0 by unfold from_; split <;> omega, seg_nil], rfl, fun _ h => by simp at h, List.Pairwise.nil⟩
theorem HeadI.quiet {r : Rec} (hr : r.Ok) {f : Nat → Bool} {fd : List Tp} {w t : Nat} (h : HeadI r f fd w t) (hl : loud f r.need w t = false) : HeadI r f fd w (t + 1) := by
  obtain ⟨e1, e2⟩ := (awake_step hr f h.le h.s).1 hl
  refine ⟨Nat.le_succ_of_le h.le, e1, ?_, h.ok, h.asc⟩
  show recStep _ _ _ _ = _
  unfold recStep
  rw [e2, if_neg (by decide), h.rcs]
theorem HeadI.loud {r : Rec} (hr : r.Ok) {f : Nat → Bool} {fd : List Tp} {w t : Nat} (h : HeadI r f fd w t) (hl : loud f r.need w t = true) : InI r f fd (from_ r w t) t 0 := by
  obtain ⟨e1, e2⟩ := (awake_step hr f h.le h.s).2 hl
  have h1 := hr.n1
  have h2 := hr.a0
  have h3 := hr.m1
  have fl := from_le (r := r) h.le
  refine ⟨fl.1, e1, ?_, Int.le_refl _, by have := hr.h1; omega, ?_, fun p hp => ?_, h.asc⟩
  · show recStep _ _ _ _ = _
    unfold recStep
    rw [e2, if_pos (by omega), h.s, if_pos (show isAw (Sd.aw _) = true from rfl), h.rcs]
    congr 3
    omega
  · have : ((t + 1 - from_ r w t : Nat) : Int) ≤ r.need + r.ahead := by unfold from_; split <;> omega
    omega
  · have := h.ok p hp
    exact ⟨this.1, this.2.1, by omega⟩
theorem InI.next {r : Rec} (hr : r.Ok) {f : Nat → Bool} {fd : List Tp} {b e : Nat} {q : Int} (h : InI r f fd b e q) (h1 : q < r.hush) (h2 : ((e + 1 - b : Nat) : Int) < r.most) : InI r f fd b (e + 1) (if f (e + 1) = true then 0 else q + 1) := by
  have hle := h.le
  have hs : Sat r f (e + 1) = .rc ((e + 1 - b : Nat) : Int) q := by
    rw [h.s]
    unfold finS
    rw [if_neg (by omega)]
  obtain ⟨e1, e2⟩ := rc_step f hs
  have h0 := h.q0
  refine ⟨by omega, ?_, ?_, by split <;> omega, by have := hr.h1; split <;> omega, by omega, h.ok, h.asc⟩
  · rw [e1]
    congr 2
    omega
  · show recStep _ _ _ _ = _
    unfold recStep
    rw [e2, if_pos (by decide), hs, if_neg (show ¬ isAw (Sd.rc _ _) = true from Bool.false_ne_true), h.rcs, List.dropLast_concat, List.getLast?_concat]
    rfl
theorem InI.end_ {r : Rec} (hr : r.Ok) {f : Nat → Bool} {fd : List Tp} {b e : Nat} {q : Int} (h : InI r f fd b e q) (h1 : ¬ (q < r.hush ∧ ((e + 1 - b : Nat) : Int) < r.most)) : HeadI r f (fd ++ [((b : Int), (e : Int))]) (e + 1 + r.rest.toNat) (e + 1 + r.rest.toNat) := by
  have hs : Sat r f (e + 1) = endedS r := by
    rw [h.s]
    unfold finS
    rw [if_pos (by have := h.qh; have := h.cm; omega)]
  obtain ⟨e1, e2⟩ := ended_run hr f hs
  have hle := h.le
  refine ⟨Nat.le_refl _, ?_, by rw [e2, h.rcs], fun p hp => ?_, ?_⟩
  · have e3 : from_ r (e + 1 + r.rest.toNat) (e + 1 + r.rest.toNat) = e + 1 + r.rest.toNat := by
      have := from_le (r := r) (Nat.le_refl (e + 1 + r.rest.toNat))
      omega
    rw [e1, e3, seg_nil]
  · rcases List.mem_append.mp hp with hp | hp
    · have := h.ok p hp
      exact ⟨this.1, this.2.1, by omega⟩
    · rw [List.mem_singleton.mp hp]
      exact ⟨by dsimp only; omega, by dsimp only; omega, by dsimp only; omega⟩
  · rw [List.pairwise_append]
    refine ⟨h.asc, List.pairwise_singleton _ _, fun p hp q hq => ?_⟩
    rw [List.mem_singleton.mp hq]
    exact (h.ok p hp).2.2
/-! ### silence for ever -/
def leftS (r : Rec) (s : Sd) : Int := match s with
  | .rc c q => if r.most - c < r.hush - q then r.most - c else r.hush - q
  | _ => 0
def adjR (r : Rec) (fd : List Tp) (s : Sd) (n : Int) : List Tp := match s with
  | .rc _ _ => fd.dropLast ++ [((fd.getLast?.getD (0, 0)).1, n - 1 + leftS r s)]
  | _ => fd
theorem not_full {need : Int} (h1 : 1 ≤ need) (h : List Bool) : fullB need (h ++ [false]) = false := by
  unfold fullB
  by_cases hd : need ≤ (((h ++ [false]).length : Nat) : Int)
  · rw [decide_eq_true hd, Bool.true_and]
    rw [List.length_append, List.length_singleton] at hd ⊢
    rw [List.drop_append_of_le_length (by omega), List.all_append]
    simp
  · rw [decide_eq_false hd]; rfl
theorem hush_aw {r : Rec} (hr : r.Ok) {f : Nat → Bool} {n : Nat} (hf : ∀ t, n ≤ t → f t = false) {h : List Bool} (hs : Sat r f n = .aw h) : (∃ g, Sat r f (n + 1) = .aw g) ∧ Recs r f (n + 1) = Recs r f n := by
  have e : stepS r (Sat r f n) (f n) = (.aw ((h ++ [false]).drop (((h ++ [false]).length : Int) - r.need - r.ahead + 1).toNat), 0) := by
    rw [hs, hf n (Nat.le_refl _)]
    unfold stepS
    dsimp only
    rw [not_full hr.n1]
    rfl
  refine ⟨⟨_, by show (stepS r (Sat r f n) (f n)).1 = _; rw [e]⟩, ?_⟩
  show recStep _ _ _ _ = _
  unfold recStep Kat
  rw [e]
  exact if_neg (Int.lt_irrefl 0)
theorem hush_aws {r : Rec} (hr : r.Ok) {f : Nat → Bool} : ∀ (k n : Nat), (∀ t, n ≤ t → f t = false) → ∀ h, Sat r f n = .aw h → (∃ g, Sat r f (n + k) = .aw g) ∧ Recs r f (n + k) = Recs r f n
  | 0, n, _, h, hs => ⟨⟨h, hs⟩, rfl⟩
  | k + 1, n, hf, h, hs => by
    obtain ⟨⟨g, h1⟩, h2⟩ := hush_aw hr hf hs
    obtain ⟨h3, h4⟩ := hush_aws hr k (n + 1) (fun t ht => hf t (by omega)) g h1
    rw [show n + (k + 1) = n + 1 + k by omega]
    exact ⟨h3, h4.trans h2⟩
/-- a recording that goes on in silence -/
theorem hush_rc {r : Rec} (hr : r.Ok) {f : Nat → Bool} : ∀ (k n : Nat) (c q : Int), (∀ t, n ≤ t → f t = false) → Sat r f n = .rc c q → q < r.hush → c < r.most → leftS r (.rc c q) = ((k + 1 : Nat) : Int) →
    Sat r f (n + (k + 1)) = endedS r ∧ Recs r f (n + (k + 1)) = adjR r (Recs r f n) (.rc c q) (n : Nat) ∧ ∀ j, 0 < j → j ≤ k → ∃ c' q', Sat r f (n + j) = .rc c' q'
  | k, n, c, q, hf, hs, hq, hc, hl => by
    obtain ⟨e1, e2⟩ := rc_step f hs
    rw [hf n (Nat.le_refl _)] at e1
    simp only [Bool.false_eq_true, if_false] at e1
    have hrec : Recs r f (n + 1) = (Recs r f n).dropLast ++ [(((Recs r f n).getLast?.getD (0, 0)).1, (n : Int))] := by
      show recStep _ _ _ _ = _
      unfold recStep
      rw [e2, if_pos (by decide), hs, if_neg (show ¬ isAw (Sd.rc _ _) = true from Bool.false_ne_true)]
    have hl' : (if r.most - c < r.hush - q then r.most - c else r.hush - q) = ((k + 1 : Nat) : Int) := hl
    cases k with
    | zero =>
      refine ⟨?_, ?_, fun j h1 h2 => by omega⟩
      · rw [show n + (0 + 1) = n + 1 from rfl, e1]
        unfold finS
        rw [if_pos (by split at hl' <;> omega)]
      · rw [show n + (0 + 1) = n + 1 from rfl, hrec]
        unfold adjR
        dsimp only
        rw [hl]
        congr 3
        omega
    | succ k =>
      have hne : ¬ (q + 1 = r.hush ∨ c + 1 = r.most) := by split at hl' <;> omega
      have hs1 : Sat r f (n + 1) = .rc (c + 1) (q + 1) := by
        rw [e1]
        unfold finS
        rw [if_neg hne]
      have hl1 : leftS r (.rc (c + 1) (q + 1)) = ((k + 1 : Nat) : Int) := by
        show (if r.most - (c + 1) < r.hush - (q + 1) then r.most - (c + 1) else r.hush - (q + 1)) = _
        split at hl' <;> split <;> omega
      obtain ⟨g1, g2, g3⟩ := hush_rc hr k (n + 1) (c + 1) (q + 1) (fun t ht => hf t (by omega)) hs1 (by split at hl' <;> omega) (by split at hl' <;> omega) hl1
      rw [show n + (k + 1 + 1) = n + 1 + (k + 1) by omega]
      refine ⟨g1, ?_, fun j h1 h2 => ?_⟩
      · rw [g2, hrec]
        unfold adjR
        dsimp only
        rw [List.dropLast_concat, List.getLast?_concat, hl1, hl]
        congr 2
        show ((((Recs r f n).getLast?.getD (0, 0)).1, (n : Int)).1, _) = _
        congr 1
        omega
      · by_cases hj : j = 1
        · subst hj; exact ⟨_, _, hs1⟩
        · obtain ⟨c', q', h⟩ := g3 (j - 1) (by omega) (by omega)
          rw [show n + 1 + (j - 1) = n + j by omega] at h
          exact ⟨c', q', h⟩
theorem sl_waits {r : Rec} (f : Nat → Bool) : ∀ (k t : Nat), Sat r f t = .sl ((k + 1 : Nat) : Int) → ∀ j, j ≤ k → isAw (Sat r f (t + j)) = false
  | k, t, h, 0, _ => by rw [Nat.add_zero, h]; rfl
  | 0, t, h, j + 1, hj => by omega
  | k + 1, t, h, j + 1, hj => by
    obtain ⟨h1, _⟩ := sl_step f h
    rw [if_pos (by omega), show ((k + 1 + 1 : Nat) : Int) - 1 = ((k + 1 : Nat) : Int) by omega] at h1
    have := sl_waits f k (t + 1) h1 j (by omega)
    rwa [show t + 1 + j = t + (j + 1) by omega] at this
/-- whenever it is awake again, the recordings are those of the row, with silence behind it -/
theorem hush_all {r : Rec} (hr : r.Ok) {f : Nat → Bool} {n : Nat} (hf : ∀ t, n ≤ t → f t = false) (hok : (Sat r f n).Ok r) {T : Nat} (hT : n ≤ T) (ha : isAw (Sat r f T) = true) : Recs r f T = adjR r (Recs r f n) (Sat r f n) (n : Nat) := by
  have slp : ∀ (m : Nat), n ≤ m → m ≤ T → Sat r f m = endedS r → Recs r f T = Recs r f m := fun m hm hmT he => by
    obtain ⟨a1, a2⟩ := ended_run hr f he
    have hle : m + r.rest.toNat ≤ T := by
      by_cases hz : 0 < r.rest
      · obtain ⟨k, hk⟩ : ∃ k : Nat, r.rest = ((k + 1 : Nat) : Int) := ⟨r.rest.toNat - 1, by omega⟩
        unfold endedS at he
        rw [if_pos hz, hk] at he
        have hw := sl_waits f k m he
        by_cases hlt : T < m + r.rest.toNat
        · have := hw (T - m) (by omega)
          rw [show m + (T - m) = T by omega, ha] at this
          cases this
        · omega
      · omega
    obtain ⟨_, b2⟩ := hush_aws hr (T - (m + r.rest.toNat)) (m + r.rest.toNat) (fun t ht => hf t (by omega)) [] a1
    rw [show m + r.rest.toNat + (T - (m + r.rest.toNat)) = T by omega] at b2
    rw [b2, a2]
  cases hs : Sat r f n with
  | aw h =>
    obtain ⟨_, b2⟩ := hush_aws hr (T - n) n hf h hs
    rw [show n + (T - n) = T by omega] at b2
    exact b2
  | sl c =>
    rw [hs] at hok
    obtain ⟨h1, h2⟩ := hok
    obtain ⟨k, hk⟩ : ∃ k : Nat, c = ((k + 1 : Nat) : Int) := ⟨c.toNat - 1, by omega⟩
    rw [hk] at hs
    obtain ⟨a1, a2⟩ := sl_run f k n hs
    have hw := sl_waits f k n hs
    have hle : n + (k + 1) ≤ T := by
      by_cases hlt : T < n + (k + 1)
      · have := hw (T - n) (by omega)
        rw [show n + (T - n) = T by omega, ha] at this
        cases this
      · omega
    obtain ⟨_, b2⟩ := hush_aws hr (T - (n + (k + 1))) (n + (k + 1)) (fun t ht => hf t (by omega)) [] a1
    rw [show n + (k + 1) + (T - (n + (k + 1))) = T by omega] at b2
    rw [b2, a2]
    rfl
  | rc c q =>
    rw [hs] at hok
    obtain ⟨h1, h2, h3, h4⟩ := hok
    have hq : q < r.hush := by split at h4 <;> omega
    have hl : 0 < leftS r (.rc c q) := by
      show 0 < (if r.most - c < r.hush - q then r.most - c else r.hush - q)
      split <;> omega
    obtain ⟨k, hk⟩ : ∃ k : Nat, leftS r (.rc c q) = ((k + 1 : Nat) : Int) := ⟨(leftS r (.rc c q)).toNat - 1, by omega⟩
    obtain ⟨g1, g2, g3⟩ := hush_rc hr k n c q hf hs hq (by omega) hk
    have hle : n + (k + 1) ≤ T := by
      by_cases hlt : T < n + (k + 1)
      · by_cases h0 : T = n
        · rw [h0, hs] at ha; cases ha
        · obtain ⟨c', q', h⟩ := g3 (T - n) (by omega) (by omega)
          rw [show n + (T - n) = T by omega] at h
          rw [h] at ha
          cases ha
      · omega
    rw [slp (n + (k + 1)) (by omega) hle g1, g2]
theorem Sat_ok {r : Rec} (hr : r.Ok) (f : Nat → Bool) : ∀ t, (Sat r f t).Ok r
  | 0 => heard_nil hr
  | t + 1 => stepS_ok hr (Sat_ok hr f t) _
end K2

set_option maxRecDepth 100000
set_option maxHeartbeats 4000000
set_option synthInstance.maxSize 8000
set_option synthInstance.maxHeartbeats 400000
namespace K2
open PySem PySem.Spec L2 PD
local macro_rules
  | `(tactic| simp_arith only [$a,*]) => `(tactic| simp only [ret_ap, lift_some, lift_none, var_ap, varR_d, ownAt_ap, ownL_own, ownL_d, ownL_n, frzAt_ap, frzL_own, frzL_d, frz_nil, frz_cons, frz1_own, frz1_d, frz1_n, wipe_nil, wipe_cons, restore_nil, restore_cons, clean_nil, clean_cons, isOwnL_own, isOwnL_d, isOwnL_k, frz1_k, frzL_k, ownL_k, isOwnL_n, bind_ap, bindR_ok, bindR_ex, bindR_bad, ofM_ap, ofR_ok, ofR_ex, ofR_bad, seq_ap, seqR_nx, seqR_rt, seqR_rl, seqR_bk, seqR_ct, seqR_ex, seqR_bad, nil_ap, pass_ap, never_ap, brk_ap, cnt_ap, retN_ap, sret_ap, sretL_ap, drop_ap, site_ap, asg_ap, own_ap, par2_ap, par3_ap, asgT_ap, asgR_some, asgR_none, gnm_ap, gnil_ap, gcons_ap, gtup_ap, andV_ap, orV_ap, andT_ap, orT_ap, notT_ap, test_ap, op1_ap, op2_ap, chain_ap, mite_ap, ite_apR, ite_apS, argN_ap, argD_ap, argS_ap, slotR_some, tup_ap, lst_ap, known_ap, call_ap, callL_ap, listL_ap, seqOf_l, seqOf_t, items_ap, part_ap, slice_ap, catL_ap, frz_ap, borrow_ap, borrowR_ok, borrowT_ap, borrowTR_ok, subO_ap, app_ap, setIx_ap, retO_ap, for_ap, lc_ap, lcR_ok, fn_ap, fnL_ap, fnR_some, fnLR_some, retR_ret, retR_retL, retLR_retL, putR_some, putO_none, putO_s0, putO_s1, putO_s2, putO_s3, putO_s4, endR_rt, endR_rl, endR_nx, endR_bad, bindR_ite, ofR_ite, seqR_ite, endR_ite, lift_ite, pop_ap, popR_snoc, dctAt_ap, dctL_k, dctL_o, dctL_d, dctL_n, inK_ap, subK_ap, slotKR_some, setK_ap, slotKF_some, setKR_some, parN_ap, parR_ok, setN_nil, setN_cons, nC_ap, nL_ap, nD_ap, dict1_ap, new_ap, repL_ap, addD_ii, addD_ss, addD_tt, subD_ii, mulD_ii, fdivD_ii, modD_ii, powD_ii, negD_i, ltD_ii, leD_ii, gtD_ii, geD_ii, ixD_l, ixD_t, catD_ll, itemsD_l, itemsD_t, lenD_l, lenD_t, lenD_s, absD_i, maxD_ii, minD_ii, intD_i, intD_b, tupleD_l, tupleD_t, notD_b, asB_b, asI_i, eqD_ii, eqD_ss, eqD_bb, eqD_si, eqD_is, eqD_nn, eqD_nb, eqD_ni, eqD_ns, eqD_bn, eqD_in, eqD_sn, tInt_none, tInt_bool, tInt_int, tInt_str, tInt_tuple, tInt_list, tInt_dict, tBool_none, tBool_bool, tBool_int, tBool_str, tBool_tuple, tBool_list, tBool_dict, tStr_none, tStr_bool, tStr_int, tStr_str, tStr_tuple, tStr_list, tStr_dict, tTuple_none, tTuple_bool, tTuple_int, tTuple_str, tTuple_tuple, tTuple_list, tTuple_dict, tList_none, tList_bool, tList_int, tList_str, tList_tuple, tList_list, tList_dict, tSeq_none, tSeq_bool, tSeq_int, tSeq_str, tSeq_tuple, tSeq_list, tSeq_dict, isNoneB_none, scalarD_none, isNoneB_bool, scalarD_bool, isNoneB_int, scalarD_int, isNoneB_str, scalarD_str, isNoneB_tuple, scalarD_tuple, isNoneB_list, scalarD_list, isNoneB_dict, scalarD_dict, ixT0, ixT1, ixT2, ixT3, ixT4, ixT5, ixT6, ixT7, ixT8, ixT9, ixL0, ixL1, ixL2, ixL3, ixL4, ixL5, ixL6, ixL7, ixL8, ixL9, aI0, aI1, aI2, aI3, aI4, aI5, aI6, aI7, aI8, aI9, ixN1_0, ixN2_0, ixN2_1, ixN3_0, ixN3_1, ixN3_2, ixN4_0, ixN4_1, ixN4_2, ixN4_3, ixN5_0, ixN5_1, ixN5_2, ixN5_3, ixN5_4, ixN6_0, ixN6_1, ixN6_2, ixN6_3, ixN6_4, ixN6_5, List.map_cons, List.map_nil, List.cons_append, List.nil_append, List.replicate_zero, List.replicate_succ, List.length_cons, List.length_nil, List.getElem?_cons_zero, List.getElem?_cons_succ, List.set_cons_zero, List.set_cons_succ, List.getD_cons_zero, List.getD_cons_succ, Bool.and_true, Bool.true_and, Bool.not_false, Bool.not_true, Nat.sub_self, Nat.reduceSub, Nat.reduceAdd, Nat.zero_add, true_and, and_true, and_self, if_true, if_false, ite_true, ite_false, reduceCtorEq, false_implies, implies_true, forall_const, Bool.false_eq_true, Option.bind_some, Option.map_some, Option.bind_none, Option.map_none, runF_eq, okIo, datOf, lvsOf, argIo, isD, outO, isND, notND, vals2D, vals3D, eqDD, neDD, decide_true, decide_false, Bool.decide_eq_true, sz0, sz1, sz2, sz3, sz4, sz5, sz6, sz7, sz8, sz9, sz10, sz11, sz12, sz13, sz14, sz15, sz16, sz17, sz18, sz19, sz20, sz21, sz22, sz23, sz24, sz25, sz26, sz27, sz28, sz29, sz30, sz31, sz32, sz33, sz34, sz35, sz36, sz37, sz38, sz39, sz40, slice_t, all_t, all_l, any_l, all_lm, all_tm, any_lm, Function.comp_def, step_nx, step_ct, step_bk, step_rt, step_rl, step_ite, decide_eq_true_eq, Int.cast_ofNat_Int, Int.reduceLE, Int.reduceLT, Int.reduceAdd, Int.reduceSub, Int.reduceMul, Int.reduceNeg, Int.reduceEq, Int.reduceGT, Nat.reduceEqDiff, ne_eq, not_false_eq_true, Option.some.injEq, forall_eq', Nat.reduceLT, Bool.and_false, Bool.or_false, Bool.false_or, Bool.true_or, Bool.false_and, Bool.or_true, $a,*])
def isRc : Sd → Bool
  | .rc _ _ => true
  | _ => false
/-! ### tapes as data; rows as functions -/
def tpD (p : Tp) : D := .tuple [.int p.1, .int p.2]
def tpsD (l : List Tp) : D := .list (l.map tpD)
/-- a row, silent behind its end -/
def rowF (l : List Bool) (i : Nat) : Bool := l.getD i false
theorem rowF_at {l : List Bool} {i : Nat} {b : Bool} (h : l[i]? = some b) : rowF l i = b := by
  unfold rowF
  rw [List.getD_eq_getElem?_getD, h]
  rfl
theorem rowF_out {l : List Bool} {i : Nat} (h : l.length ≤ i) : rowF l i = false := by
  unfold rowF
  rw [List.getD_eq_getElem?_getD, List.getElem?_eq_none h]
  rfl
theorem atI_last {xs : List D} (h : xs ≠ []) : atI xs (-1) = some (xs.getLast h) := by
  have hp := List.length_pos_iff.mpr h
  unfold atI ixN
  rw [if_neg (by decide), if_pos (by omega), Option.bind_some, List.getLast_eq_getElem, List.getElem?_eq_getElem (by omega)]
  congr 2
  omega
theorem cut_last (xs : List D) : cutD xs none (some (-1)) = xs.dropLast := by
  unfold cutD
  rw [HT.sIx_none, List.drop_zero, Nat.sub_zero, show (-1 : Int) = -((1 : Nat) : Int) from rfl, sIx_neg _ _ _ (by decide), List.dropLast_eq_take]
theorem tps_last {L : List Tp} (h : L ≠ []) : ixD (tpsD L) (.int (-1)) = some (tpD (L.getLast?.getD (0, 0))) := by
  unfold tpsD
  rw [ixD_l, atI_last (by simpa using h), List.getLast_map, List.getLast?_eq_some_getLast h]
  rfl
theorem tps_cut (L : List Tp) : cutD (L.map tpD) none (some (-1)) = L.dropLast.map tpD := by rw [cut_last, List.map_dropLast]
theorem tpD_0 (p : Tp) : ixD (tpD p) (.int 0) = some (.int p.1) := rfl
theorem tpD_1 (p : Tp) : ixD (tpD p) (.int 1) = some (.int p.2) := rfl
theorem recs_len (r : Rec) (f : Nat → Bool) : ∀ t, (Recs r f t).length ≤ t
  | 0 => Nat.le_refl _
  | t + 1 => by
    have ih := recs_len r f t
    show (recStep _ _ _ _).length ≤ _
    unfold recStep
    split
    · split
      · rw [List.length_append]; show _ + 1 ≤ t + 1; omega
      · rw [List.length_append, List.length_dropLast]; show _ + 1 ≤ t + 1; omega
    · omega
/-- a recorder that records has begun -/
theorem recs_ne {r : Rec} (hr : r.Ok) (f : Nat → Bool) : ∀ t, (∃ c q, Sat r f t = .rc c q) → Recs r f t ≠ []
  | 0, ⟨c, q, h⟩ => by cases h
  | t + 1, ⟨c, q, h⟩ => by
    show recStep _ _ _ _ ≠ []
    have h : (stepS r (Sat r f t) (f t)).1 = .rc c q := h
    have hk : 0 < Kat r f t := by
      unfold Kat
      cases hs : Sat r f t with
      | sl k =>
        rw [hs] at h
        unfold stepS at h
        dsimp only at h
        split at h <;> cases h
      | rc k m =>
        have := (rc_step f hs).2
        unfold Kat at this
        rw [hs] at this
        rw [this]
        decide
      | aw hd =>
        rw [hs] at h
        unfold stepS at h ⊢
        dsimp only at h ⊢
        split
        · rename_i hf
          have h2 : (finS r ((hd ++ [f t]).length : Int) 0 ((hd ++ [f t]).length : Int)).2 = ((hd ++ [f t]).length : Int) := by unfold finS; split <;> rfl
          rw [h2, List.length_append]
          show (0 : Int) < ((hd.length + 1 : Nat) : Int)
          omega
        · rename_i hf
          rw [if_neg hf] at h
          cases h
    unfold recStep
    rw [if_pos hk]
    split <;> simp
theorem sliceL_ap' (f : M D) (l u : M (Option Int)) (ρ : DE) : M.sliceL f l u ρ = M.bind f (fun x => M.bind l fun a => M.bind u fun b => M.lift (match x with | .list xs => some (cutD xs a b) | _ => none)) ρ := rfl
theorem gtup_kS (gs : Gts) (a b : D) (ρ : DE) : G.tup 2 gs (.tuple [a, b]) ρ = gs [a, b] ρ := rfl
/-- what a stand begins with -/
theorem ixS (s : Sd) : ∃ m, ixD (encS s) (.int 0) = some (.str m) ∧ decide (m = sAw) = isAw s ∧ decide (m = sRc) = isRc s := by
  cases s with
  | aw h => exact ⟨_, rfl, (by show decide (sAw = sAw) = true; decide +kernel), (by show decide (sAw = sRc) = false; decide +kernel)⟩
  | rc c q => exact ⟨_, rfl, (by show decide (sRc = sAw) = false; decide +kernel), (by show decide (sRc = sRc) = true; decide +kernel)⟩
  | sl c => exact ⟨_, rfl, (by show decide (sSl = sAw) = false; decide +kernel), (by show decide (sSl = sRc) = false; decide +kernel)⟩
theorem rec_turn {r : Rec} (hr : r.Ok) (f : Nat → Bool) (t : Nat) (ht : t ≤ 100) (a1 a6 a7 : Option LV) : ∃ b6 b7, B_recordings_of_1 [some (.d (encR r)), a1, some (.d (tpsD (Recs r f t))), some (.d (encS (Sat r f t))), some (.d (.int (t : Nat))), some (.d (.bool (f t))), a6, a7] =
    .nx [some (.d (encR r)), a1, some (.d (tpsD (Recs r f (t + 1)))), some (.d (encS (Sat r f (t + 1)))), some (.d (.int (t : Nat))), some (.d (.bool (f t))), b6, b7] := by
  have hok := Sat_ok hr f t
  have e1 := F_step_eq r hr (Sat r f t) (f t) (hok.short hr)
  obtain ⟨m, em, ea, _⟩ := ixS (Sat r f t)
  have es : Sat r f (t + 1) = (stepS r (Sat r f t) (f t)).1 := rfl
  have er : Recs r f (t + 1) = recStep (Recs r f t) (Sat r f t) (t : Nat) (stepS r (Sat r f t) (f t)).2 := rfl
  have hl := recs_len r f t
  have hne : ¬ isAw (Sat r f t) = true → 0 < (stepS r (Sat r f t) (f t)).2 → Recs r f t ≠ [] := fun h1 h2 => recs_ne hr f t (by
    cases hs : Sat r f t with
    | aw h => rw [hs] at h1; exact absurd rfl h1
    | rc c q => exact ⟨c, q, rfl⟩
    | sl c =>
      rw [hs] at h2
      unfold stepS at h2
      dsimp only at h2
      exact absurd h2 (Int.lt_irrefl 0))
  rw [es, er]
  unfold B_recordings_of_1
  generalize (stepS r (Sat r f t) (f t)).1 = S' at *
  generalize (stepS r (Sat r f t) (f t)).2 = k at *
  unfold recStep
  generalize isAw (Sat r f t) = aw at *
  generalize encS (Sat r f t) = ES at *
  generalize encS S' = ES' at *
  generalize encR r = ER at *
  generalize Recs r f t = L at *
  by_cases hk : 0 < k
  · cases aw with
    | true =>
      have c1 : (L.map tpD).length + 1 ≤ sizeLine := by rw [List.length_map, sizeLine_eq]; omega
      unfold tpsD
      simp_arith only [e1, gtup_kS, em, cA, ea, hk, c1, List.map_append, tpD]
      exact ⟨_, _, rfl⟩
    | false =>
      have hL := hne (by decide) hk
      have c1 : L.dropLast.length + 1 ≤ sizeLine := by rw [List.length_dropLast, sizeLine_eq]; omega
      have c2 := tps_last hL
      have c3 := tps_cut L
      have c4 := tpD_0 (L.getLast?.getD (0, 0))
      have c5 : tpsD L = .list (L.map tpD) := rfl
      rw [c5] at c2
      have c6 : tpsD (L.dropLast ++ [((L.getLast?.getD (0, 0)).1, (t : Int))]) = .list (L.dropLast.map tpD ++ [.tuple [.int (L.getLast?.getD (0, 0)).1, .int (t : Nat)]]) := by unfold tpsD; rw [List.map_append]; rfl
      simp only [Bool.false_eq_true, if_false]
      rw [if_pos hk, c5, c6]
      generalize tpD (L.getLast?.getD (0, 0)) = T0 at *
      generalize (L.getLast?.getD (0, 0)).1 = T1 at *
      have c7 : (L.dropLast.map tpD).length + 1 ≤ sizeLine := by rw [List.length_map]; exact c1
      generalize L.map tpD = X at *
      generalize L.dropLast.map tpD = Y at *
      simp_arith only [e1, gtup_kS, em, cA, ea, hk, sliceL_ap', c3, c2, c4, c7]
      exact ⟨_, _, rfl⟩
  · rw [if_neg hk]
    unfold tpsD
    simp_arith only [e1, gtup_kS, em, cA, ea, hk]
    exact ⟨_, _, rfl⟩
theorem F_left_of_ok (r : Rec) (s : Sd) : F_left_of [.d (encR r), .d (encS s)] = .ret (.int (leftS r s)) none := by
  cases s with
  | aw h =>
    unfold F_left_of g_left_of encR encS
    simp_arith only [cR, e_AR, leftS]
  | rc c q =>
    unfold F_left_of g_left_of encR encS
    simp_arith only [cR, e_RR, leftS]
  | sl c =>
    unfold F_left_of g_left_of encR encS
    simp_arith only [cR, e_SR, leftS]
theorem rec_loop {r : Rec} (hr : r.Ok) {l : List Bool} (hl : l.length ≤ 60) (a4 a5 a6 a7 : Option LV) : ∃ b4 b5 b6 b7, forD (G.tup 2 (G.cons (G.nm 4) (G.cons (G.nm 5) G.nil))) B_recordings_of_1 (enumL (l.map .bool)) [some (.d (encR r)), some (.d (encB l)), some (.d (tpsD [])), some (.d (encS (.aw []))), a4, a5, a6, a7] =
    .nx [some (.d (encR r)), some (.d (encB l)), some (.d (tpsD (Recs r (rowF l) l.length))), some (.d (encS (Sat r (rowF l) l.length))), b4, b5, b6, b7] := by
  obtain ⟨ρ', e1, b4, b5, b6, b7, e2⟩ := forD_invN (G := G.tup 2 (G.cons (G.nm 4) (G.cons (G.nm 5) G.nil))) (g := B_recordings_of_1)
    (fun i ρ => ∃ b4 b5 b6 b7, ρ = [some (.d (encR r)), some (.d (encB l)), some (.d (tpsD (Recs r (rowF l) i))), some (.d (encS (Sat r (rowF l) i))), b4, b5, b6, b7]) (enumL (l.map .bool)) [some (.d (encR r)), some (.d (encB l)), some (.d (tpsD [])), some (.d (encS (.aw []))), a4, a5, a6, a7] ⟨_, _, _, _, rfl⟩ (fun i x ρ hx ⟨b4, b5, b6, b7, e⟩ => by
      subst e
      obtain ⟨y, hy, rfl⟩ := enumL_get hx
      rw [List.getElem?_map] at hy
      cases hb : l[i]? with
      | none => rw [hb] at hy; cases hy
      | some b =>
        rw [hb] at hy
        cases hy
        have hi : i < l.length := (List.getElem?_eq_some_iff.mp hb).1
        refine ⟨_, rfl, ?_⟩
        obtain ⟨c6, c7, e3⟩ := rec_turn hr (rowF l) i (by omega) (some (.d (encB l))) b6 b7
        rw [rowF_at hb] at e3
        show StepR _ _ (B_recordings_of_1 [some (.d (encR r)), some (.d (encB l)), some (.d (tpsD (Recs r (rowF l) i))), some (.d (encS (Sat r (rowF l) i))), some (.d (.int (i : Nat))), some (.d (.bool b)), b6, b7])
        rw [e3]
        exact ⟨_, _, _, _, rfl⟩)
  rw [e1, e2, enumL_len, List.length_map]
  exact ⟨_, _, _, _, rfl⟩
/-- the recordings of a row, with silence behind it -/
def tapesOf (r : Rec) (l : List Bool) : List Tp := adjR r (Recs r (rowF l) l.length) (Sat r (rowF l) l.length) (l.length : Nat)
theorem F_recordings_of_ok {r : Rec} (hr : r.Ok) {l : List Bool} (hl : l.length ≤ 60) : F_recordings_of [.d (encR r), .d (encB l)] = .ret (tpsD (tapesOf r l)) none := by
  obtain ⟨b4, b5, b6, b7, e1⟩ := rec_loop hr hl none none none none
  have il : enumD [encB l] = some (enumL (l.map .bool)) := rfl
  have e2 := F_left_of_ok r (Sat r (rowF l) l.length)
  obtain ⟨m, em, _, er⟩ := ixS (Sat r (rowF l) l.length)
  have hle := recs_len r (rowF l) l.length
  have hne : isRc (Sat r (rowF l) l.length) = true → Recs r (rowF l) l.length ≠ [] := fun h => recs_ne hr _ _ (by
    cases hs : Sat r (rowF l) l.length with
    | aw h' => rw [hs] at h; cases h
    | rc c q => exact ⟨c, q, rfl⟩
    | sl c => rw [hs] at h; cases h)
  have et : tapesOf r l = if isRc (Sat r (rowF l) l.length) = true then (Recs r (rowF l) l.length).dropLast ++ [(((Recs r (rowF l) l.length).getLast?.getD (0, 0)).1, (l.length : Int) - 1 + leftS r (Sat r (rowF l) l.length))] else Recs r (rowF l) l.length := by
    unfold tapesOf adjR
    cases Sat r (rowF l) l.length <;> rfl
  have el := len_encB l
  rw [et]
  unfold F_recordings_of
  simp_arith only [true_and]
  unfold g_recordings_of
  have t0 : tpsD [] = .list [] := rfl
  rw [t0] at e1
  have cF : cst_FRESH = encS (.aw []) := rfl
  simp_arith only [il, cF]
  rw [e1]
  generalize encS (Sat r (rowF l) l.length) = ES at *
  generalize leftS r (Sat r (rowF l) l.length) = lf at *
  generalize isRc (Sat r (rowF l) l.length) = ir at *
  generalize Recs r (rowF l) l.length = L at *
  generalize encR r = ER at *
  cases ir with
  | false => simp_arith only [em, cR, er]
  | true =>
    have hL := hne rfl
    have c1 : (L.dropLast.map tpD).length + 1 ≤ sizeLine := by rw [List.length_map, List.length_dropLast, sizeLine_eq]; omega
    have c2 := tps_last hL
    have c3 := tps_cut L
    have c4 := tpD_0 (L.getLast?.getD (0, 0))
    have c5 : tpsD L = .list (L.map tpD) := rfl
    rw [c5] at c2
    have c6 : tpsD (L.dropLast ++ [((L.getLast?.getD (0, 0)).1, (l.length : Int) - 1 + lf)]) = .list (L.dropLast.map tpD ++ [.tuple [.int (L.getLast?.getD (0, 0)).1, .int ((l.length : Int) - 1 + lf)]]) := by unfold tpsD; rw [List.map_append]; rfl
    rw [if_pos rfl, c5, c6]
    have hz : l.length ≤ sizeLine := by rw [sizeLine_eq]; omega
    generalize tpD (L.getLast?.getD (0, 0)) = T0 at *
    generalize (L.getLast?.getD (0, 0)).1 = T1 at *
    generalize L.map tpD = X at *
    generalize L.dropLast.map tpD = Y at *
    simp_arith only [em, cR, er, sliceL_ap', c3, c2, c4, c1, el, e2]
end K2

set_option maxRecDepth 100000
set_option maxHeartbeats 4000000
set_option synthInstance.maxSize 8000
set_option synthInstance.maxHeartbeats 400000
namespace K2
open PySem PySem.Spec L2 PD
local macro_rules
  | `(tactic| simp_arith only [$a,*]) => `(tactic| simp only [ret_ap, lift_some, lift_none, var_ap, varR_d, ownAt_ap, ownL_own, ownL_d, ownL_n, frzAt_ap, frzL_own, frzL_d, frz_nil, frz_cons, frz1_own, frz1_d, frz1_n, wipe_nil, wipe_cons, restore_nil, restore_cons, clean_nil, clean_cons, isOwnL_own, isOwnL_d, isOwnL_k, frz1_k, frzL_k, ownL_k, isOwnL_n, bind_ap, bindR_ok, bindR_ex, bindR_bad, ofM_ap, ofR_ok, ofR_ex, ofR_bad, seq_ap, seqR_nx, seqR_rt, seqR_rl, seqR_bk, seqR_ct, seqR_ex, seqR_bad, nil_ap, pass_ap, never_ap, brk_ap, cnt_ap, retN_ap, sret_ap, sretL_ap, drop_ap, site_ap, asg_ap, own_ap, par2_ap, par3_ap, asgT_ap, asgR_some, asgR_none, gnm_ap, gnil_ap, gcons_ap, gtup_ap, andV_ap, orV_ap, andT_ap, orT_ap, notT_ap, test_ap, op1_ap, op2_ap, chain_ap, mite_ap, ite_apR, ite_apS, argN_ap, argD_ap, argS_ap, slotR_some, tup_ap, lst_ap, known_ap, call_ap, callL_ap, listL_ap, seqOf_l, seqOf_t, items_ap, part_ap, slice_ap, catL_ap, frz_ap, borrow_ap, borrowR_ok, borrowT_ap, borrowTR_ok, subO_ap, app_ap, setIx_ap, retO_ap, for_ap, lc_ap, lcR_ok, fn_ap, fnL_ap, fnR_some, fnLR_some, retR_ret, retR_retL, retLR_retL, putR_some, putO_none, putO_s0, putO_s1, putO_s2, putO_s3, putO_s4, endR_rt, endR_rl, endR_nx, endR_bad, bindR_ite, ofR_ite, seqR_ite, endR_ite, lift_ite, pop_ap, popR_snoc, dctAt_ap, dctL_k, dctL_o, dctL_d, dctL_n, inK_ap, subK_ap, slotKR_some, setK_ap, slotKF_some, setKR_some, parN_ap, parR_ok, setN_nil, setN_cons, nC_ap, nL_ap, nD_ap, dict1_ap, new_ap, repL_ap, addD_ii, addD_ss, addD_tt, subD_ii, mulD_ii, fdivD_ii, modD_ii, powD_ii, negD_i, ltD_ii, leD_ii, gtD_ii, geD_ii, ixD_l, ixD_t, catD_ll, itemsD_l, itemsD_t, lenD_l, lenD_t, lenD_s, absD_i, maxD_ii, minD_ii, intD_i, intD_b, tupleD_l, tupleD_t, notD_b, asB_b, asI_i, eqD_ii, eqD_ss, eqD_bb, eqD_si, eqD_is, eqD_nn, eqD_nb, eqD_ni, eqD_ns, eqD_bn, eqD_in, eqD_sn, tInt_none, tInt_bool, tInt_int, tInt_str, tInt_tuple, tInt_list, tInt_dict, tBool_none, tBool_bool, tBool_int, tBool_str, tBool_tuple, tBool_list, tBool_dict, tStr_none, tStr_bool, tStr_int, tStr_str, tStr_tuple, tStr_list, tStr_dict, tTuple_none, tTuple_bool, tTuple_int, tTuple_str, tTuple_tuple, tTuple_list, tTuple_dict, tList_none, tList_bool, tList_int, tList_str, tList_tuple, tList_list, tList_dict, tSeq_none, tSeq_bool, tSeq_int, tSeq_str, tSeq_tuple, tSeq_list, tSeq_dict, isNoneB_none, scalarD_none, isNoneB_bool, scalarD_bool, isNoneB_int, scalarD_int, isNoneB_str, scalarD_str, isNoneB_tuple, scalarD_tuple, isNoneB_list, scalarD_list, isNoneB_dict, scalarD_dict, ixT0, ixT1, ixT2, ixT3, ixT4, ixT5, ixT6, ixT7, ixT8, ixT9, ixL0, ixL1, ixL2, ixL3, ixL4, ixL5, ixL6, ixL7, ixL8, ixL9, aI0, aI1, aI2, aI3, aI4, aI5, aI6, aI7, aI8, aI9, ixN1_0, ixN2_0, ixN2_1, ixN3_0, ixN3_1, ixN3_2, ixN4_0, ixN4_1, ixN4_2, ixN4_3, ixN5_0, ixN5_1, ixN5_2, ixN5_3, ixN5_4, ixN6_0, ixN6_1, ixN6_2, ixN6_3, ixN6_4, ixN6_5, List.map_cons, List.map_nil, List.cons_append, List.nil_append, List.replicate_zero, List.replicate_succ, List.length_cons, List.length_nil, List.getElem?_cons_zero, List.getElem?_cons_succ, List.set_cons_zero, List.set_cons_succ, List.getD_cons_zero, List.getD_cons_succ, Bool.and_true, Bool.true_and, Bool.not_false, Bool.not_true, Nat.sub_self, Nat.reduceSub, Nat.reduceAdd, Nat.zero_add, true_and, and_true, and_self, if_true, if_false, ite_true, ite_false, reduceCtorEq, false_implies, implies_true, forall_const, Bool.false_eq_true, Option.bind_some, Option.map_some, Option.bind_none, Option.map_none, runF_eq, okIo, datOf, lvsOf, argIo, isD, outO, isND, notND, vals2D, vals3D, eqDD, neDD, decide_true, decide_false, Bool.decide_eq_true, sz0, sz1, sz2, sz3, sz4, sz5, sz6, sz7, sz8, sz9, sz10, sz11, sz12, sz13, sz14, sz15, sz16, sz17, sz18, sz19, sz20, sz21, sz22, sz23, sz24, sz25, sz26, sz27, sz28, sz29, sz30, sz31, sz32, sz33, sz34, sz35, sz36, sz37, sz38, sz39, sz40, slice_t, all_t, all_l, any_l, all_lm, all_tm, any_lm, Function.comp_def, step_nx, step_ct, step_bk, step_rt, step_rl, step_ite, decide_eq_true_eq, Int.cast_ofNat_Int, Int.reduceLE, Int.reduceLT, Int.reduceAdd, Int.reduceSub, Int.reduceMul, Int.reduceNeg, Int.reduceEq, Int.reduceGT, Nat.reduceEqDiff, ne_eq, not_false_eq_true, Option.some.injEq, forall_eq', Nat.reduceLT, Bool.and_false, Bool.or_false, Bool.false_or, Bool.true_or, Bool.false_and, Bool.or_true, $a,*])
/-! ### the law's walk over a row -/
theorem take_seg (l : List Bool) {a b : Nat} (h1 : a ≤ b) (h2 : b ≤ l.length) : (l.drop a).take (b - a) = seg (rowF l) a b := by
  refine List.ext_getElem? fun i => ?_
  unfold seg
  rw [List.getElem?_take, List.getElem?_drop, List.getElem?_map]
  by_cases hi : i < b - a
  · rw [if_pos hi, List.getElem?_range' hi, Option.map_some]
    have hl : a + i < l.length := by omega
    rw [List.getElem?_eq_getElem hl, Nat.one_mul, rowF_at (List.getElem?_eq_getElem hl)]
  · rw [if_neg hi, List.getElem?_eq_none (by rw [List.length_range']; omega)]; rfl
theorem loud_eq {l : List Bool} {need : Int} (h1 : 1 ≤ need) {w t : Nat} (hw : (w : Int) + need ≤ (t : Int) + 1) (ht : t < l.length) :
    decide ((l.drop (t + 1 - need.toNat)).take (t + 1 - (t + 1 - need.toNat)) = List.replicate need.toNat true) = loud (rowF l) need w t := by
  unfold loud
  rw [decide_eq_true hw, Bool.true_and, take_seg l (by omega) (by omega)]
  have hl : (seg (rowF l) (t + 1 - need.toNat) (t + 1)).length = need.toNat := by rw [seg_len]; omega
  rw [Bool.eq_iff_iff, decide_eq_true_eq]
  constructor
  · intro h
    rw [h]
    exact List.all_eq_true.mpr fun x hx => (List.mem_replicate.mp hx).2
  · intro h
    have := all_true_rep _ h
    rw [hl] at this
    exact this
theorem cutB (l : List Bool) {i j : Int} {a b : Nat} (e : i = (a : Int)) (e' : j = (b : Int)) : sliceD (encB l) (some i) (some j) = some (encB ((l.drop a).take (b - a))) := by
  show some (PyData.tuple (cutD (l.map .bool) (some i) (some j))) = _
  rw [cut_ft e e', ← List.map_drop, ← List.map_take]
  rfl
theorem ixB {l : List Bool} {i : Nat} (h : i < l.length) : ixD (encB l) (.int (i : Int)) = some (.bool (rowF l i)) := by
  unfold encB
  rw [ixD_t]
  exact atI_nat (by rw [List.getElem?_map, List.getElem?_eq_getElem h, rowF_at (List.getElem?_eq_getElem h)]; rfl)
theorem in_turn {r : Rec} (hr : r.Ok) {l : List Bool} (hl : l.length ≤ 60) {fd : List Tp} {b e : Nat} {q : Int} (h : InI r (rowF l) fd b e q) (h1 : q < r.hush) (h2 : ((e + 1 - b : Nat) : Int) < r.most) (a0 a2 a3 a4 a5 a6 a7 a8 a9 a10 a11 : Option LV) :
    B_f_law_tapes_2 [a0, some (.d (encB l)), a2, a3, a4, a5, a6, a7, a8, a9, a10, a11, some (.d (.int (e : Nat))), some (.d (.int q))] =
      .nx [a0, some (.d (encB l)), a2, a3, a4, a5, a6, a7, a8, a9, a10, a11, some (.d (.int ((e + 1 : Nat) : Int))), some (.d (.int (if rowF l (e + 1) = true then 0 else q + 1)))] := by
  have e1 := len_encB l
  have e0 : ((e + 1 : Nat) : Int) = (e : Int) + 1 := by omega
  unfold B_f_law_tapes_2
  by_cases hlt : e + 1 < l.length
  · have e2 := ixB hlt
    have h3 : (e : Int) + 1 < (l.length : Int) := by omega
    rw [e0] at e2 ⊢
    generalize encB l = EL at *
    generalize rowF l (e + 1) = c at *
    cases c <;> simp_arith only [e1, h3, e2]
  · have h3 : ¬ (e : Int) + 1 < (l.length : Int) := by omega
    rw [rowF_out (by omega), e0]
    generalize encB l = EL at *
    simp_arith only [e1, h3]
theorem in_loop {r : Rec} (hr : r.Ok) {l : List Bool} (hl : l.length ≤ 60) {fd : List Tp} {b e : Nat} {q : Int} (h : InI r (rowF l) fd b e q) (a0 a2 a3 a6 a7 a8 a9 a10 : Option LV) :
    ∃ e' q', e ≤ e' ∧ InI r (rowF l) fd b e' q' ∧ ¬ (q' < r.hush ∧ ((e' + 1 - b : Nat) : Int) < r.most) ∧ S.while_ W_f_law_tapes_2 B_f_law_tapes_2 [a0, some (.d (encB l)), a2, a3, some (.d (.int r.hush)), some (.d (.int r.most)), a6, a7, a8, a9, a10, some (.d (.int (b : Nat))), some (.d (.int (e : Nat))), some (.d (.int q))] =
      .nx [a0, some (.d (encB l)), a2, a3, some (.d (.int r.hush)), some (.d (.int r.most)), a6, a7, a8, a9, a10, some (.d (.int (b : Nat))), some (.d (.int (e' : Nat))), some (.d (.int q'))] := by
  obtain ⟨ρ', e1, e', q', i0, i1, i2, e2⟩ := while_inv (p := W_f_law_tapes_2) (g := B_f_law_tapes_2)
    (fun n ρ => ∃ e1 q, e ≤ e1 ∧ InI r (rowF l) fd b e1 q ∧ (n : Int) = r.most - ((e1 + 1 - b : Nat) : Int) ∧ ρ = [a0, some (.d (encB l)), a2, a3, some (.d (.int r.hush)), some (.d (.int r.most)), a6, a7, a8, a9, a10, some (.d (.int (b : Nat))), some (.d (.int (e1 : Nat))), some (.d (.int q))])
    (fun ρ => ∃ e1 q, e ≤ e1 ∧ InI r (rowF l) fd b e1 q ∧ ¬ (q < r.hush ∧ ((e1 + 1 - b : Nat) : Int) < r.most) ∧ ρ = [a0, some (.d (encB l)), a2, a3, some (.d (.int r.hush)), some (.d (.int r.most)), a6, a7, a8, a9, a10, some (.d (.int (b : Nat))), some (.d (.int (e1 : Nat))), some (.d (.int q))])
    (r.most - ((e + 1 - b : Nat) : Int)).toNat _ ⟨e, q, Nat.le_refl _, h, by have := h.cm; omega, rfl⟩ (by
      rintro n ρ ⟨e', q, he0, hI, hn, rfl⟩
      have hle := hI.le
      have hcm := hI.cm
      by_cases hc : q < r.hush ∧ ((e' + 1 - b : Nat) : Int) < r.most
      · refine .inr ⟨_, _, (r.most - ((e' + 1 + 1 - b : Nat) : Int)).toNat, ?_, .inl (in_turn hr hl hI hc.1 hc.2 a0 a2 a3 _ _ a6 a7 a8 a9 a10 _), by omega, e' + 1, _, by omega, hI.next hr hc.1 hc.2, by omega, rfl⟩
        have h3 : (e' : Int) + 1 - (b : Int) < r.most := by omega
        unfold W_f_law_tapes_2
        generalize encB l = EL at *
        simp_arith only [hc.1, h3]
      · refine .inl ⟨_, ?_, e', q, he0, hI, hc, rfl⟩
        unfold W_f_law_tapes_2
        generalize encB l = EL at *
        by_cases h1 : q < r.hush
        · have h3 : ¬ (e' : Int) + 1 - (b : Int) < r.most := by omega
          simp_arith only [h1, h3]
        · simp_arith only [h1])
  exact ⟨e', q', i0, i1, i2, e1.trans (by rw [e2])⟩
theorem tape_turn {r : Rec} (hr : r.Ok) {l : List Bool} (hl : l.length ≤ 60) {fd : List Tp} {w t : Nat} (h : HeadI r (rowF l) fd w t) (ht : t < l.length) (hfd : fd.length ≤ t) (a0 a10 a11 a12 a13 : Option LV) :
    ∃ fd' w' t' b10 b11 b12 b13, HeadI r (rowF l) fd' w' t' ∧ t < t' ∧ fd'.length ≤ t' ∧ t' ≤ l.length + 13 ∧ B_f_law_tapes_1 [a0, some (.d (encB l)), some (.d (.int r.need)), some (.d (.int r.ahead)), some (.d (.int r.hush)), some (.d (.int r.most)), some (.d (.int r.rest)), some (.own (fd.map tpD)), some (.d (.int (w : Nat))), some (.d (.int (t : Nat))), a10, a11, a12, a13] =
      .nx [a0, some (.d (encB l)), some (.d (.int r.need)), some (.d (.int r.ahead)), some (.d (.int r.hush)), some (.d (.int r.most)), some (.d (.int r.rest)), some (.own (fd'.map tpD)), some (.d (.int (w' : Nat))), some (.d (.int (t' : Nat))), b10, b11, b12, b13] := by
  have hn := hr.n1
  have hn3 := hr.n3
  have ha := hr.a0
  have hwt := h.le
  have er := rep_true hn (show r.need ≤ 1000 by omega)
  have efe : ∀ L : List Tp, eqD (.list (L.map tpD)) (.list []) = some (L.map tpD).isEmpty := fun L => eqD_lnil (n := 2) (sh_lst (n := 1) fun x hx => by
    obtain ⟨p, _, rfl⟩ := List.mem_map.mp hx
    exact sh_tup fun y hy => by
      simp only [List.mem_cons, List.not_mem_nil, or_false] at hy
      rcases hy with rfl | rfl
      · exact sh_int _
      · exact sh_int _) (by decide)
  by_cases hL : loud (rowF l) r.need w t = true
  · -- a recording begins
    have hwn : (w : Int) + r.need ≤ (t : Int) + 1 := by
      unfold loud at hL
      rw [Bool.and_eq_true, decide_eq_true_eq] at hL
      exact hL.1
    have hI := h.loud hr hL
    obtain ⟨e', q', hte, i1, i2, e1⟩ := in_loop hr hl hI a0 (some (.d (.int r.need))) (some (.d (.int r.ahead))) (some (.d (.int r.rest))) (some (.own (fd.map tpD))) (some (.d (.int (w : Nat)))) (some (.d (.int (t : Nat)))) (some (.d (.bool true)))
    have hE := i1.end_ hr i2
    have hbd : e' + 1 + r.rest.toNat ≤ l.length + 13 := by
      have c1 := i1.cm
      have c2 := hr.m2
      have c3 := hr.r3
      have c4 := from_le (r := r) hwt
      omega
    have hr0 := hr.r0
    have h3 : r.need ≤ (t : Int) + 1 - (w : Int) := by omega
    have e2 := cutB l (i := (t : Int) + 1 - r.need) (j := (t : Int) + 1) (a := t + 1 - r.need.toNat) (b := t + 1) (by omega) (by omega)
    have e3 := eqD_encB ((l.drop (t + 1 - r.need.toNat)).take (t + 1 - (t + 1 - r.need.toNat))) (List.replicate r.need.toNat true)
    rw [loud_eq hn hwn ht, hL] at e3
    have e4 : maxD [.int (w : Nat), .int ((t : Int) + 1 - r.need - r.ahead)] = some (.int ((from_ r w t : Nat) : Int)) := by
      rw [maxD_ii]
      congr 2
      unfold from_
      split <;> split <;> omega
    have e5 : maxD [.int ((e' : Int) + 1), .int ((e' : Int) + 1 + r.rest)] = some (.int ((e' : Int) + 1 + r.rest)) := by
      rw [maxD_ii]
      congr 2
      split <;> omega
    have e6 := efe (fd ++ [(((from_ r w t : Nat) : Int), (e' : Int))])
    have e7 : (fd ++ [(((from_ r w t : Nat) : Int), (e' : Int))]).map tpD = fd.map tpD ++ [.tuple [.int ((from_ r w t : Nat) : Int), .int (e' : Nat)]] := by rw [List.map_append]; rfl
    have e8 : (fd.map tpD ++ [PyData.tuple [.int ((from_ r w t : Nat) : Int), .int (e' : Nat)]]).isEmpty = false := by cases fd.map tpD <;> rfl
    have e9 : (((e' + 1 + r.rest.toNat : Nat)) : Int) = (e' : Int) + 1 + r.rest := by omega
    have c1 : (fd.map tpD).length < sizeLine := by rw [List.length_map, sizeLine_eq]; omega
    rw [e7, e8] at e6
    have main : ∃ b10 b11 b12 b13, B_f_law_tapes_1 [a0, some (.d (encB l)), some (.d (.int r.need)), some (.d (.int r.ahead)), some (.d (.int r.hush)), some (.d (.int r.most)), some (.d (.int r.rest)), some (.own (fd.map tpD)), some (.d (.int (w : Nat))), some (.d (.int (t : Nat))), a10, a11, a12, a13] =
      .nx [a0, some (.d (encB l)), some (.d (.int r.need)), some (.d (.int r.ahead)), some (.d (.int r.hush)), some (.d (.int r.most)), some (.d (.int r.rest)), some (.own (fd.map tpD ++ [.tuple [.int ((from_ r w t : Nat) : Int), .int (e' : Nat)]])), some (.d (.int ((e' : Int) + 1 + r.rest))), some (.d (.int ((e' : Int) + 1 + r.rest))), b10, b11, b12, b13] := by
     clear hE i1 hI h efe
     unfold B_f_law_tapes_1
     generalize encB ((l.drop (t + 1 - r.need.toNat)).take (t + 1 - (t + 1 - r.need.toNat))) = EX at *
     generalize encB (List.replicate r.need.toNat true) = ER at *
     generalize encB l = EL at *
     generalize fd.map tpD = FD at *
     simp_arith only [h3, e2, er, e3, e4]
     rw [e1]
     simp_arith only [c1, e6, e5]
     exact ⟨_, _, _, _, rfl⟩
    obtain ⟨b10, b11, b12, b13, e⟩ := main
    exact ⟨_, _, _, b10, b11, b12, b13, hE, by omega, by rw [List.length_append]; show fd.length + 1 ≤ _; omega, hbd, by rw [e7, e9]; exact e⟩
  · have hL' : loud (rowF l) r.need w t = false := by simpa using hL
    have hE := h.quiet hr hL'
    have e5 : maxD [.int ((t : Int) + 1), .int (w : Nat)] = some (.int ((t : Int) + 1)) := by
      rw [maxD_ii]
      congr 2
      split <;> omega
    have e6 := efe fd
    have e9 : (((t + 1 : Nat)) : Int) = (t : Int) + 1 := by omega
    have main : ∃ b10 b11 b12 b13, B_f_law_tapes_1 [a0, some (.d (encB l)), some (.d (.int r.need)), some (.d (.int r.ahead)), some (.d (.int r.hush)), some (.d (.int r.most)), some (.d (.int r.rest)), some (.own (fd.map tpD)), some (.d (.int (w : Nat))), some (.d (.int (t : Nat))), a10, a11, a12, a13] =
      .nx [a0, some (.d (encB l)), some (.d (.int r.need)), some (.d (.int r.ahead)), some (.d (.int r.hush)), some (.d (.int r.most)), some (.d (.int r.rest)), some (.own (fd.map tpD)), some (.d (.int (w : Nat))), some (.d (.int ((t : Int) + 1))), b10, b11, b12, b13] := by
     clear hE h efe
     unfold B_f_law_tapes_1
     by_cases h3 : r.need ≤ (t : Int) + 1 - (w : Int)
     · have e2 := cutB l (i := (t : Int) + 1 - r.need) (j := (t : Int) + 1) (a := t + 1 - r.need.toNat) (b := t + 1) (by omega) (by omega)
       have e3 := eqD_encB ((l.drop (t + 1 - r.need.toNat)).take (t + 1 - (t + 1 - r.need.toNat))) (List.replicate r.need.toNat true)
       rw [loud_eq (w := w) hn (by omega) ht, hL'] at e3
       generalize encB ((l.drop (t + 1 - r.need.toNat)).take (t + 1 - (t + 1 - r.need.toNat))) = EX at *
       generalize encB (List.replicate r.need.toNat true) = ER at *
       generalize encB l = EL at *
       generalize fd.map tpD = FD at *
       cases hem : FD.isEmpty with
       | true => rw [hem] at e6; simp_arith only [h3, e2, er, e3, e6]; exact ⟨_, _, _, _, rfl⟩
       | false => rw [hem] at e6; simp_arith only [h3, e2, er, e3, e6, e5]; exact ⟨_, _, _, _, rfl⟩
     · generalize encB l = EL at *
       generalize fd.map tpD = FD at *
       cases hem : FD.isEmpty with
       | true => rw [hem] at e6; simp_arith only [h3, e6]; exact ⟨_, _, _, _, rfl⟩
       | false => rw [hem] at e6; simp_arith only [h3, e6, e5]; exact ⟨_, _, _, _, rfl⟩
    obtain ⟨b10, b11, b12, b13, e⟩ := main
    exact ⟨fd, w, t + 1, b10, b11, b12, b13, hE, by omega, by omega, by omega, by rw [e9]; exact e⟩
theorem F_tapes_all {r : Rec} (hr : r.Ok) {l : List Bool} (hl : l.length ≤ 60) : F_f_law_tapes [.d (encR r), .d (encB l)] = .retL ((tapesOf r l).map tpD) none ∧ (∀ p ∈ tapesOf r l, 0 ≤ p.1 ∧ p.1 ≤ p.2 ∧ p.2 ≤ 1000) ∧ (tapesOf r l).Pairwise fun p q => p.2 < q.1 := by
  obtain ⟨ρ', e1, fd, w, t, b10, b11, b12, b13, hI, hge, hbd, e2⟩ := while_inv (p := W_f_law_tapes_1) (g := B_f_law_tapes_1)
    (fun n ρ => ∃ fd w t b10 b11 b12 b13, HeadI r (rowF l) fd w t ∧ fd.length ≤ t ∧ t ≤ l.length + 13 ∧ n = l.length - t ∧ ρ = [some (.d (encR r)), some (.d (encB l)), some (.d (.int r.need)), some (.d (.int r.ahead)), some (.d (.int r.hush)), some (.d (.int r.most)), some (.d (.int r.rest)), some (.own (fd.map tpD)), some (.d (.int (w : Nat))), some (.d (.int (t : Nat))), b10, b11, b12, b13])
    (fun ρ => ∃ fd w t b10 b11 b12 b13, HeadI r (rowF l) fd w t ∧ l.length ≤ t ∧ t ≤ l.length + 13 ∧ ρ = [some (.d (encR r)), some (.d (encB l)), some (.d (.int r.need)), some (.d (.int r.ahead)), some (.d (.int r.hush)), some (.d (.int r.most)), some (.d (.int r.rest)), some (.own (fd.map tpD)), some (.d (.int (w : Nat))), some (.d (.int (t : Nat))), b10, b11, b12, b13])
    l.length [some (.d (encR r)), some (.d (encB l)), some (.d (.int r.need)), some (.d (.int r.ahead)), some (.d (.int r.hush)), some (.d (.int r.most)), some (.d (.int r.rest)), some (.own []), some (.d (.int 0)), some (.d (.int 0)), none, none, none, none]
    ⟨[], 0, 0, none, none, none, none, HeadI.start r (rowF l), Nat.le_refl _, Nat.zero_le _, (Nat.sub_zero _).symm, rfl⟩ (by
      rintro n ρ ⟨fd, w, t, b10, b11, b12, b13, hI, hfd, hb13, rfl, rfl⟩
      have el := len_encB l
      by_cases hc : t < l.length
      · obtain ⟨fd', w', t', c10, c11, c12, c13, hI', hlt, hfd', hb', e⟩ := tape_turn hr hl hI hc hfd (some (.d (encR r))) b10 b11 b12 b13
        refine .inr ⟨_, _, l.length - t', ?_, .inl e, by omega, fd', w', t', c10, c11, c12, c13, hI', hfd', hb', rfl, rfl⟩
        have h3 : (t : Int) < (l.length : Int) := by omega
        clear e
        unfold W_f_law_tapes_1
        generalize encB l = EL at *
        simp_arith only [el, h3]
      · refine .inl ⟨_, ?_, fd, w, t, b10, b11, b12, b13, hI, by omega, hb13, rfl⟩
        have h3 : ¬ (t : Int) < (l.length : Int) := by omega
        unfold W_f_law_tapes_1
        generalize encB l = EL at *
        simp_arith only [el, h3])
  have key : fd = tapesOf r l := by
    have := hush_all hr (f := rowF l) (n := l.length) (fun t ht => rowF_out ht) (Sat_ok hr _ _) hge (by rw [hI.s]; rfl)
    rw [hI.rcs] at this
    exact this
  rw [e2] at e1
  rw [← key]
  refine ⟨?_, fun p hp => ?_, hI.asc⟩
  rotate_left
  · have q := hI.ok p hp
    have q2 := hI.le
    exact ⟨q.1, q.2.1, by omega⟩
  have eR : G.tup 5 (G.cons (G.nm 2) (G.cons (G.nm 3) (G.cons (G.nm 4) (G.cons (G.nm 5) (G.cons (G.nm 6) G.nil))))) (encR r) [some (.d (encR r)), some (.d (encB l)), none, none, none, none, none, none, none, none, none, none, none, none] = some [some (.d (encR r)), some (.d (encB l)), some (.d (.int r.need)), some (.d (.int r.ahead)), some (.d (.int r.hush)), some (.d (.int r.most)), some (.d (.int r.rest)), none, none, none, none, none, none, none] := rfl
  unfold F_f_law_tapes
  simp_arith only [true_and]
  unfold g_f_law_tapes
  generalize encR r = ER at *
  generalize encB l = EL at *
  generalize fd.map tpD = FD at *
  simp_arith only [eR]
  rw [e1]
  simp_arith only [true_and]
theorem F_tapes_ok {r : Rec} (hr : r.Ok) {l : List Bool} (hl : l.length ≤ 60) : F_f_law_tapes [.d (encR r), .d (encB l)] = .retL ((tapesOf r l).map tpD) none := (F_tapes_all hr hl).1
end K2

set_option maxRecDepth 100000
set_option maxHeartbeats 4000000
set_option synthInstance.maxSize 8000
set_option synthInstance.maxHeartbeats 400000
namespace K2
open PySem PySem.Spec L2 PD
/-! ### the sounds of a row -/
def Snd (f : Nat → Bool) : Nat → List Tp
  | 0 => []
  | t + 1 => if f t = true then (if 0 < t ∧ f (t - 1) = true then (Snd f t).dropLast ++ [(((Snd f t).getLast?.getD (0, 0)).1, (t : Int))] else Snd f t ++ [((t : Int), (t : Int))]) else Snd f t
def Bf (f : Nat → Bool) (t : Nat) : List Nat := (List.range t).filter fun a => f a && (decide (a = 0) || !f (a - 1))
def Cf (f : Nat → Bool) (t : Nat) : List Nat := (List.range t).filter fun a => f a && !f (a + 1)
theorem filt_snoc (p : Nat → Bool) (t : Nat) : (List.range (t + 1)).filter p = (List.range t).filter p ++ if p t = true then [t] else [] := by
  rw [List.range_succ, List.filter_append]
  congr 1
  by_cases h : p t = true
  · rw [if_pos h, List.filter_cons_of_pos h]; rfl
  · rw [if_neg h, List.filter_cons_of_neg h]; rfl
theorem snd_ne (f : Nat → Bool) {t : Nat} (h0 : 0 < t) (h : f (t - 1) = true) : Snd f t ≠ [] := by
  obtain ⟨k, rfl⟩ : ∃ k, t = k + 1 := ⟨t - 1, by omega⟩
  rw [Nat.add_sub_cancel] at h
  show (if f k = true then _ else _) ≠ []
  rw [if_pos h]
  split <;> simp
theorem last_fst {L : List Tp} (h : L ≠ []) : L.dropLast.map (fun p : Tp => p.1) ++ [(L.getLast?.getD (0, 0)).1] = L.map (fun p : Tp => p.1) := by
  rw [List.getLast?_eq_some_getLast h]
  show L.dropLast.map (fun p : Tp => p.1) ++ [(L.getLast h).1] = _
  conv => rhs; rw [← List.dropLast_concat_getLast h, List.map_append]
  rfl
theorem snd_fst (f : Nat → Bool) : ∀ t, (Snd f t).map (fun p : Tp => p.1) = (Bf f t).map fun a : Nat => (a : Int)
  | 0 => rfl
  | t + 1 => by
    have ih := snd_fst f t
    unfold Bf at ih ⊢
    rw [filt_snoc]
    show List.map (fun p : Tp => p.1) (if f t = true then (if 0 < t ∧ f (t - 1) = true then (Snd f t).dropLast ++ [(((Snd f t).getLast?.getD (0, 0)).1, (t : Int))] else Snd f t ++ [((t : Int), (t : Int))]) else Snd f t) = _
    by_cases h : f t = true
    · rw [if_pos h]
      by_cases h2 : 0 < t ∧ f (t - 1) = true
      · rw [if_pos h2, List.map_append]
        show List.map (fun p : Tp => p.1) (Snd f t).dropLast ++ [((Snd f t).getLast?.getD (0, 0)).1] = _
        rw [last_fst (snd_ne f h2.1 h2.2), ih, if_neg (by simp [h, h2.2]; omega), List.append_nil]
      · rw [if_neg h2, List.map_append, ih, if_pos (by
          rw [h, Bool.true_and, Bool.or_eq_true, decide_eq_true_eq]
          by_cases h0 : t = 0
          · exact .inl h0
          · refine .inr ?_
            cases q : f (t - 1) with
            | false => rfl
            | true => exact absurd ⟨by omega, q⟩ h2), List.map_append]
        rfl
    · rw [if_neg h, ih, if_neg (by simp [h]), List.append_nil]
theorem snd_snd (f : Nat → Bool) : ∀ t, (Snd f (t + 1)).map (fun p : Tp => p.2) = (Cf f t ++ if f t = true then [t] else []).map fun a : Nat => (a : Int)
  | 0 => by
    show List.map (fun p : Tp => p.2) (if f 0 = true then (if 0 < 0 ∧ f (0 - 1) = true then (Snd f 0).dropLast ++ [(((Snd f 0).getLast?.getD (0, 0)).1, ((0 : Nat) : Int))] else Snd f 0 ++ [(((0 : Nat) : Int), ((0 : Nat) : Int))]) else Snd f 0) = _
    by_cases h : f 0 = true
    · rw [if_pos h, if_neg (by omega), if_pos h]; rfl
    · rw [if_neg h, if_neg h]; rfl
  | t + 1 => by
    have ih := snd_snd f t
    have ec : Cf f (t + 1) = Cf f t ++ if (f t && !f (t + 1)) = true then [t] else [] := filt_snoc _ t
    rw [ec]
    show List.map (fun p : Tp => p.2) (if f (t + 1) = true then (if 0 < t + 1 ∧ f (t + 1 - 1) = true then (Snd f (t + 1)).dropLast ++ [(((Snd f (t + 1)).getLast?.getD (0, 0)).1, ((t + 1 : Nat) : Int))] else Snd f (t + 1) ++ [(((t + 1 : Nat) : Int), ((t + 1 : Nat) : Int))]) else Snd f (t + 1)) = _
    rw [Nat.add_sub_cancel]
    by_cases h : f (t + 1) = true
    · have en : (f t && !f (t + 1)) = false := by rw [h]; simp
      rw [if_pos h, if_pos h]
      simp only [en, Bool.false_eq_true, if_false, List.append_nil]
      by_cases h2 : f t = true
      · rw [if_pos ⟨Nat.succ_pos _, h2⟩, List.map_append, List.map_dropLast, ih, if_pos h2, List.map_append, List.map_append]
        show (List.map _ (Cf f t) ++ [(t : Int)]).dropLast ++ _ = _
        rw [List.dropLast_concat]
        rfl
      · rw [if_neg (fun z => h2 z.2), List.map_append, ih, if_neg h2, List.append_nil, List.map_append]
        rfl
    · rw [if_neg h, if_neg h, List.append_nil, ih]
      congr 2
      by_cases h2 : f t = true
      · rw [if_pos h2, if_pos (by simp [h, h2])]
      · rw [if_neg h2, if_neg (by simp [h2])]
/-- begins and ends, side by side -/
theorem snd_zip {f : Nat → Bool} {n : Nat} (hf : f n = false) : ((Bf f n).map fun a : Nat => (a : Int)).zip ((Cf f n).map fun a : Nat => (a : Int)) = Snd f n := by
  have h2 : (Snd f n).map (fun p : Tp => p.2) = (Cf f n).map fun a : Nat => (a : Int) := by
    cases n with
    | zero => rfl
    | succ t =>
      rw [snd_snd]
      congr 1
      show _ = (List.range (t + 1)).filter _
      rw [filt_snoc]
      congr 1
      by_cases h : f t = true
      · rw [if_pos h, if_pos (by rw [h, hf]; rfl)]
      · rw [if_neg h, if_neg (by simp [h])]
  rw [← snd_fst, ← h2]
  generalize Snd f n = L
  induction L with
  | nil => rfl
  | cons p L ih => rw [List.map_cons, List.map_cons, List.zip_cons_cons, ih]
end K2

set_option maxRecDepth 100000
set_option maxHeartbeats 4000000
set_option synthInstance.maxSize 8000
set_option synthInstance.maxHeartbeats 400000
namespace K2
open PySem PySem.Spec L2 PD
local macro_rules
  | `(tactic| simp_arith only [$a,*]) => `(tactic| simp only [ret_ap, lift_some, lift_none, var_ap, varR_d, ownAt_ap, ownL_own, ownL_d, ownL_n, frzAt_ap, frzL_own, frzL_d, frz_nil, frz_cons, frz1_own, frz1_d, frz1_n, wipe_nil, wipe_cons, restore_nil, restore_cons, clean_nil, clean_cons, isOwnL_own, isOwnL_d, isOwnL_k, frz1_k, frzL_k, ownL_k, isOwnL_n, bind_ap, bindR_ok, bindR_ex, bindR_bad, ofM_ap, ofR_ok, ofR_ex, ofR_bad, seq_ap, seqR_nx, seqR_rt, seqR_rl, seqR_bk, seqR_ct, seqR_ex, seqR_bad, nil_ap, pass_ap, never_ap, brk_ap, cnt_ap, retN_ap, sret_ap, sretL_ap, drop_ap, site_ap, asg_ap, own_ap, par2_ap, par3_ap, asgT_ap, asgR_some, asgR_none, gnm_ap, gnil_ap, gcons_ap, gtup_ap, andV_ap, orV_ap, andT_ap, orT_ap, notT_ap, test_ap, op1_ap, op2_ap, chain_ap, mite_ap, ite_apR, ite_apS, argN_ap, argD_ap, argS_ap, slotR_some, tup_ap, lst_ap, known_ap, call_ap, callL_ap, listL_ap, seqOf_l, seqOf_t, items_ap, part_ap, slice_ap, catL_ap, frz_ap, borrow_ap, borrowR_ok, borrowT_ap, borrowTR_ok, subO_ap, app_ap, setIx_ap, retO_ap, for_ap, lc_ap, lcR_ok, fn_ap, fnL_ap, fnR_some, fnLR_some, retR_ret, retR_retL, retLR_retL, putR_some, putO_none, putO_s0, putO_s1, putO_s2, putO_s3, putO_s4, endR_rt, endR_rl, endR_nx, endR_bad, bindR_ite, ofR_ite, seqR_ite, endR_ite, lift_ite, pop_ap, popR_snoc, dctAt_ap, dctL_k, dctL_o, dctL_d, dctL_n, inK_ap, subK_ap, slotKR_some, setK_ap, slotKF_some, setKR_some, parN_ap, parR_ok, setN_nil, setN_cons, nC_ap, nL_ap, nD_ap, dict1_ap, new_ap, repL_ap, addD_ii, addD_ss, addD_tt, subD_ii, mulD_ii, fdivD_ii, modD_ii, powD_ii, negD_i, ltD_ii, leD_ii, gtD_ii, geD_ii, ixD_l, ixD_t, catD_ll, itemsD_l, itemsD_t, lenD_l, lenD_t, lenD_s, absD_i, maxD_ii, minD_ii, intD_i, intD_b, tupleD_l, tupleD_t, notD_b, asB_b, asI_i, eqD_ii, eqD_ss, eqD_bb, eqD_si, eqD_is, eqD_nn, eqD_nb, eqD_ni, eqD_ns, eqD_bn, eqD_in, eqD_sn, tInt_none, tInt_bool, tInt_int, tInt_str, tInt_tuple, tInt_list, tInt_dict, tBool_none, tBool_bool, tBool_int, tBool_str, tBool_tuple, tBool_list, tBool_dict, tStr_none, tStr_bool, tStr_int, tStr_str, tStr_tuple, tStr_list, tStr_dict, tTuple_none, tTuple_bool, tTuple_int, tTuple_str, tTuple_tuple, tTuple_list, tTuple_dict, tList_none, tList_bool, tList_int, tList_str, tList_tuple, tList_list, tList_dict, tSeq_none, tSeq_bool, tSeq_int, tSeq_str, tSeq_tuple, tSeq_list, tSeq_dict, isNoneB_none, scalarD_none, isNoneB_bool, scalarD_bool, isNoneB_int, scalarD_int, isNoneB_str, scalarD_str, isNoneB_tuple, scalarD_tuple, isNoneB_list, scalarD_list, isNoneB_dict, scalarD_dict, ixT0, ixT1, ixT2, ixT3, ixT4, ixT5, ixT6, ixT7, ixT8, ixT9, ixL0, ixL1, ixL2, ixL3, ixL4, ixL5, ixL6, ixL7, ixL8, ixL9, aI0, aI1, aI2, aI3, aI4, aI5, aI6, aI7, aI8, aI9, ixN1_0, ixN2_0, ixN2_1, ixN3_0, ixN3_1, ixN3_2, ixN4_0, ixN4_1, ixN4_2, ixN4_3, ixN5_0, ixN5_1, ixN5_2, ixN5_3, ixN5_4, ixN6_0, ixN6_1, ixN6_2, ixN6_3, ixN6_4, ixN6_5, List.map_cons, List.map_nil, List.cons_append, List.nil_append, List.replicate_zero, List.replicate_succ, List.length_cons, List.length_nil, List.getElem?_cons_zero, List.getElem?_cons_succ, List.set_cons_zero, List.set_cons_succ, List.getD_cons_zero, List.getD_cons_succ, Bool.and_true, Bool.true_and, Bool.not_false, Bool.not_true, Nat.sub_self, Nat.reduceSub, Nat.reduceAdd, Nat.zero_add, true_and, and_true, and_self, if_true, if_false, ite_true, ite_false, reduceCtorEq, false_implies, implies_true, forall_const, Bool.false_eq_true, Option.bind_some, Option.map_some, Option.bind_none, Option.map_none, runF_eq, okIo, datOf, lvsOf, argIo, isD, outO, isND, notND, vals2D, vals3D, eqDD, neDD, decide_true, decide_false, Bool.decide_eq_true, sz0, sz1, sz2, sz3, sz4, sz5, sz6, sz7, sz8, sz9, sz10, sz11, sz12, sz13, sz14, sz15, sz16, sz17, sz18, sz19, sz20, sz21, sz22, sz23, sz24, sz25, sz26, sz27, sz28, sz29, sz30, sz31, sz32, sz33, sz34, sz35, sz36, sz37, sz38, sz39, sz40, slice_t, all_t, all_l, any_l, all_lm, all_tm, any_lm, Function.comp_def, step_nx, step_ct, step_bk, step_rt, step_rl, step_ite, decide_eq_true_eq, Int.cast_ofNat_Int, Int.reduceLE, Int.reduceLT, Int.reduceAdd, Int.reduceSub, Int.reduceMul, Int.reduceNeg, Int.reduceEq, Int.reduceGT, Nat.reduceEqDiff, ne_eq, not_false_eq_true, Option.some.injEq, forall_eq', Nat.reduceLT, Bool.and_false, Bool.or_false, Bool.false_or, Bool.true_or, Bool.false_and, Bool.or_true, $a,*])
/-! ### sounds: the program's, the law's -/
theorem snd_len (f : Nat → Bool) : ∀ t, (Snd f t).length ≤ t
  | 0 => Nat.le_refl _
  | t + 1 => by
    have ih := snd_len f t
    show (if f t = true then (if 0 < t ∧ f (t - 1) = true then (Snd f t).dropLast ++ [(((Snd f t).getLast?.getD (0, 0)).1, (t : Int))] else Snd f t ++ [((t : Int), (t : Int))]) else Snd f t).length ≤ _
    split
    · split
      · rw [List.length_append, List.length_dropLast]; show _ + 1 ≤ t + 1; omega
      · rw [List.length_append]; show _ + 1 ≤ t + 1; omega
    · omega
theorem snd_turn {l : List Bool} {t : Nat} (ht : t < l.length) (hl : l.length ≤ 60) : B_sounds_of_1 [some (.d (encB l)), some (.d (tpsD (Snd (rowF l) t))), some (.d (.int (t : Nat))), some (.d (.bool (rowF l t)))] =
    .nx [some (.d (encB l)), some (.d (tpsD (Snd (rowF l) (t + 1)))), some (.d (.int (t : Nat))), some (.d (.bool (rowF l t)))] := by
  have es : Snd (rowF l) (t + 1) = (if rowF l t = true then (if 0 < t ∧ rowF l (t - 1) = true then (Snd (rowF l) t).dropLast ++ [(((Snd (rowF l) t).getLast?.getD (0, 0)).1, (t : Int))] else Snd (rowF l) t ++ [((t : Int), (t : Int))]) else Snd (rowF l) t) := rfl
  rw [es]
  have hle := snd_len (rowF l) t
  have hne := fun h0 => snd_ne (rowF l) (t := t) h0
  have c5 : tpsD (Snd (rowF l) t) = .list ((Snd (rowF l) t).map tpD) := rfl
  have ix : 0 < t → ixD (encB l) (.int ((t : Int) - 1)) = some (.bool (rowF l (t - 1))) := fun h0 => by
    have := ixB (l := l) (i := t - 1) (by omega)
    rwa [show ((t - 1 : Nat) : Int) = (t : Int) - 1 by omega] at this
  unfold B_sounds_of_1
  generalize Snd (rowF l) t = L at *
  generalize encB l = EL at *
  generalize rowF l (t - 1) = p at *
  generalize rowF l t = c at *
  have c1 : (L.map tpD).length + 1 ≤ sizeLine := by rw [List.length_map, sizeLine_eq]; omega
  have c6 : tpsD (L ++ [((t : Int), (t : Int))]) = .list (L.map tpD ++ [.tuple [.int (t : Nat), .int (t : Nat)]]) := by unfold tpsD; rw [List.map_append]; rfl
  cases c with
  | false => simp only [Bool.false_eq_true, if_false]; simp_arith only [true_and]
  | true =>
    by_cases h0 : 0 < t
    · have e1 := ix h0
      have h3 : (0 : Int) < (t : Int) := by omega
      cases p with
      | false =>
        simp only [Bool.false_eq_true, and_false, if_false, if_true]
        rw [c5, c6]
        generalize L.map tpD = X at *
        simp_arith only [h3, e1, c1]
      | true =>
        have hL := hne h0 rfl
        have c2 := tps_last hL
        have c3 := tps_cut L
        have c4 := tpD_0 (L.getLast?.getD (0, 0))
        rw [c5] at c2
        have c7 : (L.dropLast.map tpD).length + 1 ≤ sizeLine := by rw [List.length_map, List.length_dropLast, sizeLine_eq]; omega
        have c8 : tpsD (L.dropLast ++ [((L.getLast?.getD (0, 0)).1, (t : Int))]) = .list (L.dropLast.map tpD ++ [.tuple [.int (L.getLast?.getD (0, 0)).1, .int (t : Nat)]]) := by unfold tpsD; rw [List.map_append]; rfl
        simp only [h0, and_self, if_true]
        rw [c5, c8]
        generalize tpD (L.getLast?.getD (0, 0)) = T0 at *
        generalize (L.getLast?.getD (0, 0)).1 = T1 at *
        generalize L.map tpD = X at *
        generalize L.dropLast.map tpD = Y at *
        simp_arith only [h3, e1, sliceL_ap', c3, c2, c4, c7]
    · have h3 : ¬ (0 : Int) < (t : Int) := by omega
      simp only [h0, false_and, if_false, if_true]
      rw [c5, c6]
      generalize L.map tpD = X at *
      simp_arith only [h3, c1]
theorem F_sounds_of_ok {l : List Bool} (hl : l.length ≤ 60) : F_sounds_of [.d (encB l)] = .ret (tpsD (Snd (rowF l) l.length)) none := by
  have il : enumD [encB l] = some (enumL (l.map .bool)) := rfl
  obtain ⟨ρ', e1, b2, b3, e2⟩ := forD_invN (G := G.tup 2 (G.cons (G.nm 2) (G.cons (G.nm 3) G.nil))) (g := B_sounds_of_1)
    (fun i ρ => ∃ b2 b3, ρ = [some (.d (encB l)), some (.d (tpsD (Snd (rowF l) i))), b2, b3]) (enumL (l.map .bool)) [some (.d (encB l)), some (.d (.list [])), none, none] ⟨_, _, rfl⟩ (fun i x ρ hx ⟨b2, b3, e⟩ => by
      subst e
      obtain ⟨y, hy, rfl⟩ := enumL_get hx
      rw [List.getElem?_map] at hy
      cases hb : l[i]? with
      | none => rw [hb] at hy; cases hy
      | some b =>
        rw [hb] at hy
        cases hy
        have hi : i < l.length := (List.getElem?_eq_some_iff.mp hb).1
        refine ⟨_, rfl, ?_⟩
        have e3 := snd_turn hi hl
        rw [rowF_at hb] at e3
        show StepR _ _ (B_sounds_of_1 [some (.d (encB l)), some (.d (tpsD (Snd (rowF l) i))), some (.d (.int (i : Nat))), some (.d (.bool b))])
        rw [e3]
        exact ⟨_, _, rfl⟩)
  rw [e2, enumL_len, List.length_map] at e1
  unfold F_sounds_of
  simp_arith only [true_and]
  unfold g_sounds_of
  generalize tpsD (Snd (rowF l) l.length) = S at *
  generalize encB l = EL at *
  simp_arith only [il]
  rw [e1]
  simp_arith only [true_and]
end K2

set_option maxRecDepth 100000
set_option maxHeartbeats 4000000
set_option synthInstance.maxSize 8000
set_option synthInstance.maxHeartbeats 400000
namespace K2
open PySem PySem.Spec L2 PD
local macro_rules
  | `(tactic| simp_arith only [$a,*]) => `(tactic| simp only [ret_ap, lift_some, lift_none, var_ap, varR_d, ownAt_ap, ownL_own, ownL_d, ownL_n, frzAt_ap, frzL_own, frzL_d, frz_nil, frz_cons, frz1_own, frz1_d, frz1_n, wipe_nil, wipe_cons, restore_nil, restore_cons, clean_nil, clean_cons, isOwnL_own, isOwnL_d, isOwnL_k, frz1_k, frzL_k, ownL_k, isOwnL_n, bind_ap, bindR_ok, bindR_ex, bindR_bad, ofM_ap, ofR_ok, ofR_ex, ofR_bad, seq_ap, seqR_nx, seqR_rt, seqR_rl, seqR_bk, seqR_ct, seqR_ex, seqR_bad, nil_ap, pass_ap, never_ap, brk_ap, cnt_ap, retN_ap, sret_ap, sretL_ap, drop_ap, site_ap, asg_ap, own_ap, par2_ap, par3_ap, asgT_ap, asgR_some, asgR_none, gnm_ap, gnil_ap, gcons_ap, gtup_ap, andV_ap, orV_ap, andT_ap, orT_ap, notT_ap, test_ap, op1_ap, op2_ap, chain_ap, mite_ap, ite_apR, ite_apS, argN_ap, argD_ap, argS_ap, slotR_some, tup_ap, lst_ap, known_ap, call_ap, callL_ap, listL_ap, seqOf_l, seqOf_t, items_ap, part_ap, slice_ap, catL_ap, frz_ap, borrow_ap, borrowR_ok, borrowT_ap, borrowTR_ok, subO_ap, app_ap, setIx_ap, retO_ap, for_ap, lc_ap, lcR_ok, fn_ap, fnL_ap, fnR_some, fnLR_some, retR_ret, retR_retL, retLR_retL, putR_some, putO_none, putO_s0, putO_s1, putO_s2, putO_s3, putO_s4, endR_rt, endR_rl, endR_nx, endR_bad, bindR_ite, ofR_ite, seqR_ite, endR_ite, lift_ite, pop_ap, popR_snoc, dctAt_ap, dctL_k, dctL_o, dctL_d, dctL_n, inK_ap, subK_ap, slotKR_some, setK_ap, slotKF_some, setKR_some, parN_ap, parR_ok, setN_nil, setN_cons, nC_ap, nL_ap, nD_ap, dict1_ap, new_ap, repL_ap, addD_ii, addD_ss, addD_tt, subD_ii, mulD_ii, fdivD_ii, modD_ii, powD_ii, negD_i, ltD_ii, leD_ii, gtD_ii, geD_ii, ixD_l, ixD_t, catD_ll, itemsD_l, itemsD_t, lenD_l, lenD_t, lenD_s, absD_i, maxD_ii, minD_ii, intD_i, intD_b, tupleD_l, tupleD_t, notD_b, asB_b, asI_i, eqD_ii, eqD_ss, eqD_bb, eqD_si, eqD_is, eqD_nn, eqD_nb, eqD_ni, eqD_ns, eqD_bn, eqD_in, eqD_sn, tInt_none, tInt_bool, tInt_int, tInt_str, tInt_tuple, tInt_list, tInt_dict, tBool_none, tBool_bool, tBool_int, tBool_str, tBool_tuple, tBool_list, tBool_dict, tStr_none, tStr_bool, tStr_int, tStr_str, tStr_tuple, tStr_list, tStr_dict, tTuple_none, tTuple_bool, tTuple_int, tTuple_str, tTuple_tuple, tTuple_list, tTuple_dict, tList_none, tList_bool, tList_int, tList_str, tList_tuple, tList_list, tList_dict, tSeq_none, tSeq_bool, tSeq_int, tSeq_str, tSeq_tuple, tSeq_list, tSeq_dict, isNoneB_none, scalarD_none, isNoneB_bool, scalarD_bool, isNoneB_int, scalarD_int, isNoneB_str, scalarD_str, isNoneB_tuple, scalarD_tuple, isNoneB_list, scalarD_list, isNoneB_dict, scalarD_dict, ixT0, ixT1, ixT2, ixT3, ixT4, ixT5, ixT6, ixT7, ixT8, ixT9, ixL0, ixL1, ixL2, ixL3, ixL4, ixL5, ixL6, ixL7, ixL8, ixL9, aI0, aI1, aI2, aI3, aI4, aI5, aI6, aI7, aI8, aI9, ixN1_0, ixN2_0, ixN2_1, ixN3_0, ixN3_1, ixN3_2, ixN4_0, ixN4_1, ixN4_2, ixN4_3, ixN5_0, ixN5_1, ixN5_2, ixN5_3, ixN5_4, ixN6_0, ixN6_1, ixN6_2, ixN6_3, ixN6_4, ixN6_5, List.map_cons, List.map_nil, List.cons_append, List.nil_append, List.replicate_zero, List.replicate_succ, List.length_cons, List.length_nil, List.getElem?_cons_zero, List.getElem?_cons_succ, List.set_cons_zero, List.set_cons_succ, List.getD_cons_zero, List.getD_cons_succ, Bool.and_true, Bool.true_and, Bool.not_false, Bool.not_true, Nat.sub_self, Nat.reduceSub, Nat.reduceAdd, Nat.zero_add, true_and, and_true, and_self, if_true, if_false, ite_true, ite_false, reduceCtorEq, false_implies, implies_true, forall_const, Bool.false_eq_true, Option.bind_some, Option.map_some, Option.bind_none, Option.map_none, runF_eq, okIo, datOf, lvsOf, argIo, isD, outO, isND, notND, vals2D, vals3D, eqDD, neDD, decide_true, decide_false, Bool.decide_eq_true, sz0, sz1, sz2, sz3, sz4, sz5, sz6, sz7, sz8, sz9, sz10, sz11, sz12, sz13, sz14, sz15, sz16, sz17, sz18, sz19, sz20, sz21, sz22, sz23, sz24, sz25, sz26, sz27, sz28, sz29, sz30, sz31, sz32, sz33, sz34, sz35, sz36, sz37, sz38, sz39, sz40, slice_t, all_t, all_l, any_l, all_lm, all_tm, any_lm, Function.comp_def, step_nx, step_ct, step_bk, step_rt, step_rl, step_ite, decide_eq_true_eq, Int.cast_ofNat_Int, Int.reduceLE, Int.reduceLT, Int.reduceAdd, Int.reduceSub, Int.reduceMul, Int.reduceNeg, Int.reduceEq, Int.reduceGT, Nat.reduceEqDiff, ne_eq, not_false_eq_true, Option.some.injEq, forall_eq', Nat.reduceLT, Bool.and_false, Bool.or_false, Bool.false_or, Bool.true_or, Bool.false_and, Bool.or_true, $a,*])
theorem take1 (l : List Bool) (a : Nat) : decide ((l.drop (a + 1)).take (a + 2 - (a + 1)) = [true]) = rowF l (a + 1) := by
  rw [show a + 2 - (a + 1) = 1 by omega]
  unfold rowF
  rw [List.getD_eq_getElem?_getD]
  cases h : l[a + 1]? with
  | none =>
    rw [List.drop_eq_nil_of_le (List.getElem?_eq_none_iff.mp h)]
    rfl
  | some b =>
    obtain ⟨hl, hb⟩ := List.getElem?_eq_some_iff.mp h
    rw [List.drop_eq_getElem_cons hl, hb, List.take_succ_cons, List.take_zero]
    cases b <;> rfl
def pEnd (l : List Bool) (d : D) : Bool := match d with
  | .int i => rowF l i.toNat && !rowF l (i.toNat + 1)
  | _ => false
def pBeg (l : List Bool) (d : D) : Bool := match d with
  | .int i => rowF l i.toNat && (decide (i.toNat = 0) || !rowF l (i.toNat - 1))
  | _ => false
theorem range_filt (n : Nat) (p : D → Bool) (q : Nat → Bool) (h : ∀ a, a < n → p (.int (a : Nat)) = q a) : (rangeD 0 n).filter p = (((List.range n).filter q).map fun a : Nat => (a : Int)).map PyData.int := by
  have e : rangeD 0 n = (List.range n).map fun a : Nat => PyData.int (a : Int) := by
    unfold rangeD
    refine List.map_congr_left fun a _ => ?_
    rw [Int.zero_add]
  rw [e, List.filter_map, List.map_map]
  have e2 : (List.range n).filter (p ∘ fun a : Nat => PyData.int (a : Int)) = (List.range n).filter q := List.filter_congr fun a ha => h a (List.mem_range.mp ha)
  rw [e2]
  rfl
theorem zipLD_ll (xs ys : List D) : zipLD [.list xs, .list ys] = some (zipL xs ys) := rfl
theorem zip_tps (xs ys : List Int) : zipL (xs.map PyData.int) (ys.map PyData.int) = (xs.zip ys).map tpD := by
  unfold zipL
  rw [List.zip_map, List.map_map]
  rfl
theorem eq0 (i : Nat) : decide ((i : Int) = 0) = decide (i = 0) := decide_eq_decide.mpr (by omega)
theorem T2_ok {l : List Bool} {a : Nat} (ha : a < l.length) (a1 a2 : Option LV) : T_f_law_sounds_2 [some (.d (encB l)), a1, a2, some (.d (.int (a : Nat)))] = .ok (pEnd l (.int (a : Nat))) [some (.d (encB l)), a1, a2, some (.d (.int (a : Nat)))] := by
  have e1 := ixB ha
  have e2 := cutB l (i := (a : Int) + 1) (j := (a : Int) + 2) (a := a + 1) (b := a + 2) (by omega) (by omega)
  have e3 := eqD_encB ((l.drop (a + 1)).take (a + 2 - (a + 1))) [true]
  rw [take1] at e3
  have et : encB [true] = .tuple [.bool true] := rfl
  rw [et] at e3
  have ep : pEnd l (.int (a : Nat)) = (rowF l a && !rowF l (a + 1)) := rfl
  rw [ep]
  unfold T_f_law_sounds_2
  generalize encB ((l.drop (a + 1)).take (a + 2 - (a + 1))) = EX at *
  generalize encB l = EL at *
  generalize rowF l (a + 1) = c2 at *
  generalize rowF l a = c1 at *
  cases c1 <;> cases c2 <;> simp_arith only [e1, e2, e3]
theorem T1_ok {l : List Bool} {a : Nat} (ha : a < l.length) (a1 a2 : Option LV) : T_f_law_sounds_1 [some (.d (encB l)), a1, a2, some (.d (.int (a : Nat)))] = .ok (pBeg l (.int (a : Nat))) [some (.d (encB l)), a1, a2, some (.d (.int (a : Nat)))] := by
  have e1 := ixB ha
  have ep : pBeg l (.int (a : Nat)) = (rowF l a && (decide (a = 0) || !rowF l (a - 1))) := rfl
  rw [ep]
  by_cases h0 : a = 0
  · subst h0
    have e1 : ixD (encB l) (.int 0) = some (.bool (rowF l 0)) := e1
    show T_f_law_sounds_1 [some (.d (encB l)), a1, a2, some (.d (.int 0))] = .ok _ [some (.d (encB l)), a1, a2, some (.d (.int 0))]
    unfold T_f_law_sounds_1
    generalize encB l = EL at *
    generalize rowF l 0 = c1 at *
    cases c1 <;> simp_arith only [e1]
  · have e2 : ixD (encB l) (.int ((a : Int) - 1)) = some (.bool (rowF l (a - 1))) := by
      have := ixB (l := l) (i := a - 1) (by omega)
      rwa [show ((a - 1 : Nat) : Int) = (a : Int) - 1 by omega] at this
    have z : ((a : Int) = 0) = False := eq_false (by omega)
    rw [decide_eq_false h0]
    unfold T_f_law_sounds_1
    generalize encB l = EL at *
    generalize rowF l (a - 1) = c2 at *
    generalize rowF l a = c1 at *
    cases c1 <;> cases c2 <;> simp_arith only [e1, e2, z]
theorem sounds_eval (EL : D) (n : Int) (RG FE FB SS : List D) (el : lenD [EL] = some (.int n)) (rg : range1D [.int n] = some RG) (k2 : lcLoop [3] (G.nm 3) T_f_law_sounds_2 E_f_law_sounds_2 RG [] [some (.d EL), none, none, none] = .ok FE [some (.d EL), none, none, none])
    (k1 : ∀ d : D, lcLoop [3] (G.nm 3) T_f_law_sounds_1 E_f_law_sounds_1 RG [] [some (.d EL), some (.d d), none, none] = .ok FB [some (.d EL), some (.d d), none, none]) (z : zipLD [.list FB, .list FE] = some SS) : F_f_law_sounds [.d EL] = .ret (.list SS) none := by
  unfold F_f_law_sounds
  simp_arith only [true_and]
  unfold g_f_law_sounds
  simp_arith only [el, rg, k2, k1, z]
theorem F_law_sounds_ok {l : List Bool} (hl : l.length ≤ 60) : F_f_law_sounds [.d (encB l)] = .ret (tpsD (Snd (rowF l) l.length)) none := by
  have el := len_encB l
  have rg : range1D [.int (l.length : Int)] = some (rangeD 0 l.length) := by
    have := range1_ok (j := (l.length : Int)) (by omega) (by omega)
    rwa [Int.toNat_natCast] at this
  have k2 : lcLoop [3] (G.nm 3) T_f_law_sounds_2 E_f_law_sounds_2 (rangeD 0 l.length) [] [some (.d (encB l)), none, none, none] = .ok ((rangeD 0 l.length).filter (pEnd l)) [some (.d (encB l)), none, none, none] := by
    refine lcLoop_filter _ _ (by rw [rangeD_length, sizeLine_eq]; omega) fun x hx => ?_
    obtain ⟨i, rfl, h0, h1⟩ := mem_rangeD hx
    obtain ⟨a, rfl⟩ := Int.eq_ofNat_of_zero_le h0
    exact ⟨_, _, rfl, T2_ok (by omega) none none, fun _ => ⟨_, rfl, rfl⟩, fun _ => rfl⟩
  have k1 : ∀ d : D, lcLoop [3] (G.nm 3) T_f_law_sounds_1 E_f_law_sounds_1 (rangeD 0 l.length) [] [some (.d (encB l)), some (.d d), none, none] = .ok ((rangeD 0 l.length).filter (pBeg l)) [some (.d (encB l)), some (.d d), none, none] := fun d => by
    refine lcLoop_filter _ _ (by rw [rangeD_length, sizeLine_eq]; omega) fun x hx => ?_
    obtain ⟨i, rfl, h0, h1⟩ := mem_rangeD hx
    obtain ⟨a, rfl⟩ := Int.eq_ofNat_of_zero_le h0
    exact ⟨_, _, rfl, T1_ok (by omega) (some (.d d)) none, fun _ => ⟨_, rfl, rfl⟩, fun _ => rfl⟩
  have f2 := range_filt l.length (pEnd l) (fun a => rowF l a && !rowF l (a + 1)) (fun a _ => rfl)
  have f1 := range_filt l.length (pBeg l) (fun a => rowF l a && (decide (a = 0) || !rowF l (a - 1))) (fun a _ => rfl)
  have z : zipLD [.list ((rangeD 0 l.length).filter (pBeg l)), .list ((rangeD 0 l.length).filter (pEnd l))] = some ((Snd (rowF l) l.length).map tpD) := by
    have sz := snd_zip (f := rowF l) (n := l.length) (rowF_out (Nat.le_refl _))
    unfold Bf Cf at sz
    rw [zipLD_ll, f1, f2, zip_tps, sz]
  exact sounds_eval _ _ _ _ _ _ el rg k2 k1 z
end K2

set_option maxRecDepth 100000
set_option maxHeartbeats 4000000
set_option synthInstance.maxSize 8000
set_option synthInstance.maxHeartbeats 400000
namespace K2
open PySem PySem.Spec L2 PD
local macro_rules
  | `(tactic| simp_arith only [$a,*]) => `(tactic| simp only [ret_ap, lift_some, lift_none, var_ap, varR_d, ownAt_ap, ownL_own, ownL_d, ownL_n, frzAt_ap, frzL_own, frzL_d, frz_nil, frz_cons, frz1_own, frz1_d, frz1_n, wipe_nil, wipe_cons, restore_nil, restore_cons, clean_nil, clean_cons, isOwnL_own, isOwnL_d, isOwnL_k, frz1_k, frzL_k, ownL_k, isOwnL_n, bind_ap, bindR_ok, bindR_ex, bindR_bad, ofM_ap, ofR_ok, ofR_ex, ofR_bad, seq_ap, seqR_nx, seqR_rt, seqR_rl, seqR_bk, seqR_ct, seqR_ex, seqR_bad, nil_ap, pass_ap, never_ap, brk_ap, cnt_ap, retN_ap, sret_ap, sretL_ap, drop_ap, site_ap, asg_ap, own_ap, par2_ap, par3_ap, asgT_ap, asgR_some, asgR_none, gnm_ap, gnil_ap, gcons_ap, gtup_ap, andV_ap, orV_ap, andT_ap, orT_ap, notT_ap, test_ap, op1_ap, op2_ap, chain_ap, mite_ap, ite_apR, ite_apS, argN_ap, argD_ap, argS_ap, slotR_some, tup_ap, lst_ap, known_ap, call_ap, callL_ap, listL_ap, seqOf_l, seqOf_t, items_ap, part_ap, slice_ap, catL_ap, frz_ap, borrow_ap, borrowR_ok, borrowT_ap, borrowTR_ok, subO_ap, app_ap, setIx_ap, retO_ap, for_ap, lc_ap, lcR_ok, fn_ap, fnL_ap, fnR_some, fnLR_some, retR_ret, retR_retL, retLR_retL, putR_some, putO_none, putO_s0, putO_s1, putO_s2, putO_s3, putO_s4, endR_rt, endR_rl, endR_nx, endR_bad, bindR_ite, ofR_ite, seqR_ite, endR_ite, lift_ite, pop_ap, popR_snoc, dctAt_ap, dctL_k, dctL_o, dctL_d, dctL_n, inK_ap, subK_ap, slotKR_some, setK_ap, slotKF_some, setKR_some, parN_ap, parR_ok, setN_nil, setN_cons, nC_ap, nL_ap, nD_ap, dict1_ap, new_ap, repL_ap, addD_ii, addD_ss, addD_tt, subD_ii, mulD_ii, fdivD_ii, modD_ii, powD_ii, negD_i, ltD_ii, leD_ii, gtD_ii, geD_ii, ixD_l, ixD_t, catD_ll, itemsD_l, itemsD_t, lenD_l, lenD_t, lenD_s, absD_i, maxD_ii, minD_ii, intD_i, intD_b, tupleD_l, tupleD_t, notD_b, asB_b, asI_i, eqD_ii, eqD_ss, eqD_bb, eqD_si, eqD_is, eqD_nn, eqD_nb, eqD_ni, eqD_ns, eqD_bn, eqD_in, eqD_sn, tInt_none, tInt_bool, tInt_int, tInt_str, tInt_tuple, tInt_list, tInt_dict, tBool_none, tBool_bool, tBool_int, tBool_str, tBool_tuple, tBool_list, tBool_dict, tStr_none, tStr_bool, tStr_int, tStr_str, tStr_tuple, tStr_list, tStr_dict, tTuple_none, tTuple_bool, tTuple_int, tTuple_str, tTuple_tuple, tTuple_list, tTuple_dict, tList_none, tList_bool, tList_int, tList_str, tList_tuple, tList_list, tList_dict, tSeq_none, tSeq_bool, tSeq_int, tSeq_str, tSeq_tuple, tSeq_list, tSeq_dict, isNoneB_none, scalarD_none, isNoneB_bool, scalarD_bool, isNoneB_int, scalarD_int, isNoneB_str, scalarD_str, isNoneB_tuple, scalarD_tuple, isNoneB_list, scalarD_list, isNoneB_dict, scalarD_dict, ixT0, ixT1, ixT2, ixT3, ixT4, ixT5, ixT6, ixT7, ixT8, ixT9, ixL0, ixL1, ixL2, ixL3, ixL4, ixL5, ixL6, ixL7, ixL8, ixL9, aI0, aI1, aI2, aI3, aI4, aI5, aI6, aI7, aI8, aI9, ixN1_0, ixN2_0, ixN2_1, ixN3_0, ixN3_1, ixN3_2, ixN4_0, ixN4_1, ixN4_2, ixN4_3, ixN5_0, ixN5_1, ixN5_2, ixN5_3, ixN5_4, ixN6_0, ixN6_1, ixN6_2, ixN6_3, ixN6_4, ixN6_5, List.map_cons, List.map_nil, List.cons_append, List.nil_append, List.replicate_zero, List.replicate_succ, List.length_cons, List.length_nil, List.getElem?_cons_zero, List.getElem?_cons_succ, List.set_cons_zero, List.set_cons_succ, List.getD_cons_zero, List.getD_cons_succ, Bool.and_true, Bool.true_and, Bool.not_false, Bool.not_true, Nat.sub_self, Nat.reduceSub, Nat.reduceAdd, Nat.zero_add, true_and, and_true, and_self, if_true, if_false, ite_true, ite_false, reduceCtorEq, false_implies, implies_true, forall_const, Bool.false_eq_true, Option.bind_some, Option.map_some, Option.bind_none, Option.map_none, runF_eq, okIo, datOf, lvsOf, argIo, isD, outO, isND, notND, vals2D, vals3D, eqDD, neDD, decide_true, decide_false, Bool.decide_eq_true, sz0, sz1, sz2, sz3, sz4, sz5, sz6, sz7, sz8, sz9, sz10, sz11, sz12, sz13, sz14, sz15, sz16, sz17, sz18, sz19, sz20, sz21, sz22, sz23, sz24, sz25, sz26, sz27, sz28, sz29, sz30, sz31, sz32, sz33, sz34, sz35, sz36, sz37, sz38, sz39, sz40, slice_t, all_t, all_l, any_l, all_lm, all_tm, any_lm, Function.comp_def, step_nx, step_ct, step_bk, step_rt, step_rl, step_ite, decide_eq_true_eq, Int.cast_ofNat_Int, Int.reduceLE, Int.reduceLT, Int.reduceAdd, Int.reduceSub, Int.reduceMul, Int.reduceNeg, Int.reduceEq, Int.reduceGT, Nat.reduceEqDiff, ne_eq, not_false_eq_true, Option.some.injEq, forall_eq', Nat.reduceLT, Bool.and_false, Bool.or_false, Bool.false_or, Bool.true_or, Bool.false_and, Bool.or_true, $a,*])
/-! ### whether a row is of a world -/
theorem F_look_at_row_ok {l : List Bool} (hl : l.length ≤ 60) : F_look_at_row [.d (encB l)] = .ret .none none := by
  obtain ⟨b, e, h⟩ := F_is_row_says (encB l)
  rw [h.mpr ⟨l, rfl, hl⟩] at e
  unfold F_look_at_row g_look_at_row
  generalize encB l = EL at *
  simp_arith only [e]
theorem F_look_at_world_ok {w : Wl} (hw : w.Ok) : F_look_at_world [.d (encW w)] = .ret .none none := by
  obtain ⟨b, e, h⟩ := F_is_world_says (encW w)
  rw [h.mpr ⟨w, hw, rfl⟩] at e
  unfold F_look_at_world g_look_at_world
  generalize encW w = EW at *
  simp_arith only [e]
/-- on data: a sound's length, the gap between two -/
def lenB (w : Wl) (p : Tp) : Bool := decide (w.least ≤ p.2 - p.1 + 1) && decide (p.2 - p.1 + 1 ≤ w.great)
def gapB (w : Wl) (q : Tp × Tp) : Bool := decide (w.hush ≤ q.2.1 - q.1.2 - 1)
def prD (q : Tp × Tp) : D := .tuple [tpD q.1, tpD q.2]
theorem zip_tail (L : List Tp) : zipL (L.map tpD) ((L.map tpD).drop 1) = (L.zip (L.drop 1)).map prD := by
  unfold zipL
  rw [← List.map_drop, List.zip_map, List.map_map]
  rfl
theorem cut1 (xs : List D) : cutD xs (some 1) none = xs.drop 1 := cut_from (i := 1) (k := 1) rfl
theorem lcLoop_mapT {α : Type} {vs : List Nat} {G : Gt} {te : M D} {ρ : DE} (en : α → D) (p : α → Bool) (L : List α) (hl : L.length ≤ sizeLine) (h : ∀ x ∈ L, ∃ ρ1 ρ3, G (en x) ρ = some ρ1 ∧ te ρ1 = .ok (.bool (p x)) ρ3 ∧ wipeD ρ3 vs = ρ) :
    lcLoop vs G (M.ret true) te (L.map en) [] ρ = .ok (L.map fun x => .bool (p x)) ρ := by
  have key : ∀ (L : List α) (acc : List D), acc.length + L.length ≤ sizeLine → (∀ x ∈ L, ∃ ρ1 ρ3, G (en x) ρ = some ρ1 ∧ te ρ1 = .ok (.bool (p x)) ρ3 ∧ wipeD ρ3 vs = ρ) → lcLoop vs G (M.ret true) te (L.map en) acc ρ = .ok (acc ++ L.map fun x => .bool (p x)) ρ := by
    intro L
    induction L with
    | nil => intro acc _ _; simp [lcLoop]
    | cons x L ih =>
      intro acc hl h
      obtain ⟨ρ1, ρ3, h1, h2, h3⟩ := h x List.mem_cons_self
      rw [List.length_cons] at hl
      rw [List.map_cons, List.map_cons]
      unfold lcLoop
      have ht : (M.ret true : M Bool) ρ1 = .ok true ρ1 := rfl
      simp only [h1, ht, if_true, h2, h3]
      rw [if_pos (by omega), ih _ (by rw [List.length_append, List.length_singleton]; omega) fun y hy => h y (List.mem_cons_of_mem _ hy), List.append_assoc]
      rfl
  rw [key L [] (by simpa using hl) h, List.nil_append]
theorem lcLoop_ones {α : Type} {vs : List Nat} {G : Gt} {tt : M Bool} {te : M D} {ρ : DE} (en : α → D) (p : α → Bool) (L : List α) (hl : L.length ≤ sizeLine) (h : ∀ x ∈ L, ∃ ρ1 ρ2, G (en x) ρ = some ρ1 ∧ tt ρ1 = .ok (p x) ρ2 ∧ wipeD ρ2 vs = ρ) (ht : ∀ ρ, te ρ = .ok (.int 1) ρ) :
    lcLoop vs G tt te (L.map en) [] ρ = .ok ((L.filter p).map fun _ => .int 1) ρ := by
  have key : ∀ (L : List α) (acc : List D), acc.length + L.length ≤ sizeLine → (∀ x ∈ L, ∃ ρ1 ρ2, G (en x) ρ = some ρ1 ∧ tt ρ1 = .ok (p x) ρ2 ∧ wipeD ρ2 vs = ρ) → lcLoop vs G tt te (L.map en) acc ρ = .ok (acc ++ (L.filter p).map fun _ => .int 1) ρ := by
    intro L
    induction L with
    | nil => intro acc _ _; simp [lcLoop]
    | cons x L ih =>
      intro acc hl h
      obtain ⟨ρ1, ρ2, h1, h2, h3⟩ := h x List.mem_cons_self
      rw [List.length_cons] at hl
      rw [List.map_cons]
      unfold lcLoop
      simp only [h1, h2]
      cases hp : p x with
      | true =>
        simp only [if_true, ht, h3]
        rw [if_pos (by omega), ih _ (by rw [List.length_append, List.length_singleton]; omega) fun y hy => h y (List.mem_cons_of_mem _ hy), List.filter_cons_of_pos hp, List.append_assoc]
        rfl
      | false =>
        simp only [Bool.false_eq_true, if_false, h3]
        rw [ih _ (by omega) fun y hy => h y (List.mem_cons_of_mem _ hy), List.filter_cons_of_neg (by rw [hp]; decide)]
  rw [key L [] (by simpa using hl) h, List.nil_append]
theorem gtup_tp (gs : Gts) (p : Tp) (ρ : DE) : G.tup 2 gs (tpD p) ρ = gs [.int p.1, .int p.2] ρ := rfl
theorem gtup_pr (gs : Gts) (q : Tp × Tp) (ρ : DE) : G.tup 2 gs (prD q) ρ = gs [tpD q.1, tpD q.2] ρ := rfl
theorem ixW_0 (w : Wl) : ixD (encW w) (.int 0) = some (.int w.least) := rfl
theorem ixW_1 (w : Wl) : ixD (encW w) (.int 1) = some (.int w.great) := rfl
theorem ixW_2 (w : Wl) : ixD (encW w) (.int 2) = some (.int w.hush) := rfl
def isOfB (w : Wl) (L : List Tp) : Bool := L.all (lenB w) && (L.zip (L.drop 1)).all (gapB w)
theorem all_bools {α : Type} (p : α → Bool) (L : List α) : allD [.list (L.map fun x => PyData.bool (p x))] = some (.bool (L.all p)) := by
  have e : boolsOf (L.map fun x => PyData.bool (p x)) = some (L.map p) := by
    induction L with
    | nil => rfl
    | cons x L ih => show (boolsOf (L.map fun x => PyData.bool (p x))).map (p x :: ·) = _; rw [ih]; rfl
  show (boolsOf _).map _ = _
  rw [e, Option.map_some, List.all_map]
  rfl
theorem isof_eval (EW EL S : D) (X Y Z : List D) (BL BG : List D) (b1 b2 : Bool) (w1 : F_look_at_world [.d EW] = .ret .none none) (w2 : F_look_at_row [.d EL] = .ret .none none) (w3 : F_sounds_of [.d EL] = .ret (.list X) none)
    (k2 : lcLoop [3, 4] (G.tup 2 (G.cons (G.nm 3) (G.cons (G.nm 4) G.nil))) (M.ret true) E_is_of_2 X [] [some (.d EW), some (.d EL), some (.d (.list X)), none, none, none, none] = .ok BL [some (.d EW), some (.d EL), some (.d (.list X)), none, none, none, none])
    (a1 : allD [.list BL] = some (.bool b1)) (c : cutD X (some 1) none = Y) (z : zipD [.list X, .list Y] = some Z)
    (k1 : lcLoop [5, 6] (G.tup 2 (G.cons (G.nm 5) (G.cons (G.nm 6) G.nil))) (M.ret true) E_is_of_1 Z [] [some (.d EW), some (.d EL), some (.d (.list X)), none, none, none, none] = .ok BG [some (.d EW), some (.d EL), some (.d (.list X)), none, none, none, none])
    (a2 : allD [.list BG] = some (.bool b2)) : F_is_of [.d EW, .d EL] = .ret (.bool (b1 && b2)) none := by
  unfold F_is_of
  simp_arith only [true_and]
  unfold g_is_of
  cases b1 <;> simp_arith only [w1, w2, w3, k2, a1, sliceL_ap', c, z, k1, a2]
theorem F_is_of_ok {w : Wl} (hw : w.Ok) {l : List Bool} (hl : l.length ≤ 60) : F_is_of [.d (encW w), .d (encB l)] = .ret (.bool (isOfB w (Snd (rowF l) l.length))) none := by
  have hle := snd_len (rowF l) l.length
  have w3 := F_sounds_of_ok hl
  unfold tpsD at w3
  generalize Snd (rowF l) l.length = L at *
  refine isof_eval _ _ (.none) _ _ _ _ _ _ _ (F_look_at_world_ok hw) (F_look_at_row_ok hl) w3 (lcLoop_mapT tpD (lenB w) L (by rw [sizeLine_eq]; omega) fun p _ => ?_) (all_bools _ _) (cut1 _) (by show some (zipL _ _) = _; rw [zip_tail]) (lcLoop_mapT prD (gapB w) (L.zip (L.drop 1)) (by rw [List.length_zip, sizeLine_eq]; omega) fun q _ => ?_) (all_bools _ _)
  · refine ⟨_, [some (.d (encW w)), some (.d (encB l)), some (.d (.list (L.map tpD))), some (.d (.int p.1)), some (.d (.int p.2)), none, none], rfl, ?_, rfl⟩
    have e0 := ixW_0 w
    have e1 := ixW_1 w
    unfold E_is_of_2 lenB
    generalize PyData.list (L.map tpD) = X at *
    generalize encB l = EL at *
    generalize encW w = EW at *
    by_cases h1 : w.least ≤ p.2 - p.1 + 1
    · by_cases h2 : p.2 - p.1 + 1 ≤ w.great <;> simp_arith only [e0, e1, h1, h2]
    · simp_arith only [e0, e1, h1]
  · refine ⟨_, [some (.d (encW w)), some (.d (encB l)), some (.d (.list (L.map tpD))), none, none, some (.d (tpD q.1)), some (.d (tpD q.2))], rfl, ?_, rfl⟩
    have e2 := ixW_2 w
    have t0 := tpD_0 q.2
    have t1 := tpD_1 q.1
    unfold E_is_of_1 gapB
    generalize PyData.list (L.map tpD) = X at *
    generalize encB l = EL at *
    generalize encW w = EW at *
    generalize tpD q.1 = Q1 at *
    generalize tpD q.2 = Q2 at *
    simp_arith only [e2, t0, t1]
theorem ones_nil {α : Type} (n : Nat) (L : List α) : eqD (.list (L.map fun _ => PyData.int 1)) (.list []) = some (L.map fun _ => PyData.int 1).isEmpty := eqD_lnil (n := 1) (sh_lst (n := 0) fun x hx => by
  obtain ⟨_, _, rfl⟩ := List.mem_map.mp hx
  exact sh_int _) (by decide)
theorem filt_none {α : Type} (p : α → Bool) (L : List α) : ((L.filter fun x => !p x).map fun _ => PyData.int 1).isEmpty = L.all p := by
  induction L with
  | nil => rfl
  | cons x L ih =>
    cases h : p x with
    | true => rw [List.filter_cons_of_neg (by rw [h]; decide), ih, List.all_cons, h, Bool.true_and]
    | false => rw [List.filter_cons_of_pos (by rw [h]; rfl), List.all_cons, h]; rfl
theorem lisof_eval (EW EL : D) (X Y Z O1 O2 : List D) (b1 b2 : Bool) (w3 : F_f_law_sounds [.d EL] = .ret (.list X) none)
    (k2 : lcLoop [3, 4] (G.tup 2 (G.cons (G.nm 3) (G.cons (G.nm 4) G.nil))) T_f_law_is_of_2 E_f_law_is_of_2 X [] [some (.d EW), some (.d EL), some (.d (.list X)), none, none, none, none] = .ok O1 [some (.d EW), some (.d EL), some (.d (.list X)), none, none, none, none])
    (a1 : eqD (.list O1) (.list []) = some b1) (c : cutD X (some 1) none = Y) (z : zipD [.list X, .list Y] = some Z)
    (k1 : lcLoop [5, 6] (G.tup 2 (G.cons (G.nm 5) (G.cons (G.nm 6) G.nil))) T_f_law_is_of_1 E_f_law_is_of_1 Z [] [some (.d EW), some (.d EL), some (.d (.list X)), none, none, none, none] = .ok O2 [some (.d EW), some (.d EL), some (.d (.list X)), none, none, none, none])
    (a2 : eqD (.list O2) (.list []) = some b2) : F_f_law_is_of [.d EW, .d EL] = .ret (.bool (b1 && b2)) none := by
  unfold F_f_law_is_of
  simp_arith only [true_and]
  unfold g_f_law_is_of
  cases b1 <;> simp_arith only [w3, k2, a1, sliceL_ap', c, z, k1, a2]
theorem F_law_is_of_ok (w : Wl) {l : List Bool} (hl : l.length ≤ 60) : F_f_law_is_of [.d (encW w), .d (encB l)] = .ret (.bool (isOfB w (Snd (rowF l) l.length))) none := by
  have hle := snd_len (rowF l) l.length
  have w3 := F_law_sounds_ok hl
  unfold tpsD at w3
  generalize Snd (rowF l) l.length = L at *
  refine lisof_eval _ _ _ _ _ _ _ _ _ w3 (lcLoop_ones tpD (fun p => !lenB w p) L (by rw [sizeLine_eq]; omega) (fun p _ => ?_) fun _ => rfl) (by rw [ones_nil 0, filt_none]) (cut1 _) (by show some (zipL _ _) = _; rw [zip_tail]) (lcLoop_ones prD (fun q => !gapB w q) (L.zip (L.drop 1)) (by rw [List.length_zip, sizeLine_eq]; omega) (fun q _ => ?_) fun _ => rfl) (by rw [ones_nil 0, filt_none])
  · refine ⟨_, [some (.d (encW w)), some (.d (encB l)), some (.d (.list (L.map tpD))), some (.d (.int p.1)), some (.d (.int p.2)), none, none], rfl, ?_, rfl⟩
    have e0 := ixW_0 w
    have e1 := ixW_1 w
    have eq1 : p.2 + 1 - p.1 = p.2 - p.1 + 1 := by omega
    unfold T_f_law_is_of_2 lenB
    generalize PyData.list (L.map tpD) = X at *
    generalize encB l = EL at *
    generalize encW w = EW at *
    by_cases h1 : w.least ≤ p.2 - p.1 + 1
    · by_cases h2 : p.2 - p.1 + 1 ≤ w.great <;> simp_arith only [e0, e1, eq1, h1, h2]
    · simp_arith only [e0, e1, eq1, h1]
  · refine ⟨_, [some (.d (encW w)), some (.d (encB l)), some (.d (.list (L.map tpD))), none, none, some (.d (tpD q.1)), some (.d (tpD q.2))], rfl, ?_, rfl⟩
    have e2 := ixW_2 w
    have t0 := tpD_0 q.2
    have t1 := tpD_1 q.1
    have eg : (!gapB w q) = decide (q.2.1 - q.1.2 ≤ w.hush) := by
      unfold gapB
      rw [Bool.eq_iff_iff, Bool.not_eq_true', decide_eq_true_eq, decide_eq_false_iff_not]
      omega
    rw [eg]
    unfold T_f_law_is_of_1
    generalize PyData.list (L.map tpD) = X at *
    generalize encB l = EL at *
    generalize encW w = EW at *
    generalize tpD q.1 = Q1 at *
    generalize tpD q.2 = Q2 at *
    simp_arith only [e2, t0, t1]
end K2

set_option maxRecDepth 100000
set_option maxHeartbeats 4000000
set_option synthInstance.maxSize 8000
set_option synthInstance.maxHeartbeats 400000
namespace K2
open PySem PySem.Spec L2 PD
local macro_rules
  | `(tactic| simp_arith only [$a,*]) => `(tactic| simp only [ret_ap, lift_some, lift_none, var_ap, varR_d, ownAt_ap, ownL_own, ownL_d, ownL_n, frzAt_ap, frzL_own, frzL_d, frz_nil, frz_cons, frz1_own, frz1_d, frz1_n, wipe_nil, wipe_cons, restore_nil, restore_cons, clean_nil, clean_cons, isOwnL_own, isOwnL_d, isOwnL_k, frz1_k, frzL_k, ownL_k, isOwnL_n, bind_ap, bindR_ok, bindR_ex, bindR_bad, ofM_ap, ofR_ok, ofR_ex, ofR_bad, seq_ap, seqR_nx, seqR_rt, seqR_rl, seqR_bk, seqR_ct, seqR_ex, seqR_bad, nil_ap, pass_ap, never_ap, brk_ap, cnt_ap, retN_ap, sret_ap, sretL_ap, drop_ap, site_ap, asg_ap, own_ap, par2_ap, par3_ap, asgT_ap, asgR_some, asgR_none, gnm_ap, gnil_ap, gcons_ap, gtup_ap, andV_ap, orV_ap, andT_ap, orT_ap, notT_ap, test_ap, op1_ap, op2_ap, chain_ap, mite_ap, ite_apR, ite_apS, argN_ap, argD_ap, argS_ap, slotR_some, tup_ap, lst_ap, known_ap, call_ap, callL_ap, listL_ap, seqOf_l, seqOf_t, items_ap, part_ap, slice_ap, catL_ap, frz_ap, borrow_ap, borrowR_ok, borrowT_ap, borrowTR_ok, subO_ap, app_ap, setIx_ap, retO_ap, for_ap, lc_ap, lcR_ok, fn_ap, fnL_ap, fnR_some, fnLR_some, retR_ret, retR_retL, retLR_retL, putR_some, putO_none, putO_s0, putO_s1, putO_s2, putO_s3, putO_s4, endR_rt, endR_rl, endR_nx, endR_bad, bindR_ite, ofR_ite, seqR_ite, endR_ite, lift_ite, pop_ap, popR_snoc, dctAt_ap, dctL_k, dctL_o, dctL_d, dctL_n, inK_ap, subK_ap, slotKR_some, setK_ap, slotKF_some, setKR_some, parN_ap, parR_ok, setN_nil, setN_cons, nC_ap, nL_ap, nD_ap, dict1_ap, new_ap, repL_ap, addD_ii, addD_ss, addD_tt, subD_ii, mulD_ii, fdivD_ii, modD_ii, powD_ii, negD_i, ltD_ii, leD_ii, gtD_ii, geD_ii, ixD_l, ixD_t, catD_ll, itemsD_l, itemsD_t, lenD_l, lenD_t, lenD_s, absD_i, maxD_ii, minD_ii, intD_i, intD_b, tupleD_l, tupleD_t, notD_b, asB_b, asI_i, eqD_ii, eqD_ss, eqD_bb, eqD_si, eqD_is, eqD_nn, eqD_nb, eqD_ni, eqD_ns, eqD_bn, eqD_in, eqD_sn, tInt_none, tInt_bool, tInt_int, tInt_str, tInt_tuple, tInt_list, tInt_dict, tBool_none, tBool_bool, tBool_int, tBool_str, tBool_tuple, tBool_list, tBool_dict, tStr_none, tStr_bool, tStr_int, tStr_str, tStr_tuple, tStr_list, tStr_dict, tTuple_none, tTuple_bool, tTuple_int, tTuple_str, tTuple_tuple, tTuple_list, tTuple_dict, tList_none, tList_bool, tList_int, tList_str, tList_tuple, tList_list, tList_dict, tSeq_none, tSeq_bool, tSeq_int, tSeq_str, tSeq_tuple, tSeq_list, tSeq_dict, isNoneB_none, scalarD_none, isNoneB_bool, scalarD_bool, isNoneB_int, scalarD_int, isNoneB_str, scalarD_str, isNoneB_tuple, scalarD_tuple, isNoneB_list, scalarD_list, isNoneB_dict, scalarD_dict, ixT0, ixT1, ixT2, ixT3, ixT4, ixT5, ixT6, ixT7, ixT8, ixT9, ixL0, ixL1, ixL2, ixL3, ixL4, ixL5, ixL6, ixL7, ixL8, ixL9, aI0, aI1, aI2, aI3, aI4, aI5, aI6, aI7, aI8, aI9, ixN1_0, ixN2_0, ixN2_1, ixN3_0, ixN3_1, ixN3_2, ixN4_0, ixN4_1, ixN4_2, ixN4_3, ixN5_0, ixN5_1, ixN5_2, ixN5_3, ixN5_4, ixN6_0, ixN6_1, ixN6_2, ixN6_3, ixN6_4, ixN6_5, List.map_cons, List.map_nil, List.cons_append, List.nil_append, List.replicate_zero, List.replicate_succ, List.length_cons, List.length_nil, List.getElem?_cons_zero, List.getElem?_cons_succ, List.set_cons_zero, List.set_cons_succ, List.getD_cons_zero, List.getD_cons_succ, Bool.and_true, Bool.true_and, Bool.not_false, Bool.not_true, Nat.sub_self, Nat.reduceSub, Nat.reduceAdd, Nat.zero_add, true_and, and_true, and_self, if_true, if_false, ite_true, ite_false, reduceCtorEq, false_implies, implies_true, forall_const, Bool.false_eq_true, Option.bind_some, Option.map_some, Option.bind_none, Option.map_none, runF_eq, okIo, datOf, lvsOf, argIo, isD, outO, isND, notND, vals2D, vals3D, eqDD, neDD, decide_true, decide_false, Bool.decide_eq_true, sz0, sz1, sz2, sz3, sz4, sz5, sz6, sz7, sz8, sz9, sz10, sz11, sz12, sz13, sz14, sz15, sz16, sz17, sz18, sz19, sz20, sz21, sz22, sz23, sz24, sz25, sz26, sz27, sz28, sz29, sz30, sz31, sz32, sz33, sz34, sz35, sz36, sz37, sz38, sz39, sz40, slice_t, all_t, all_l, any_l, all_lm, all_tm, any_lm, Function.comp_def, step_nx, step_ct, step_bk, step_rt, step_rl, step_ite, decide_eq_true_eq, Int.cast_ofNat_Int, Int.reduceLE, Int.reduceLT, Int.reduceAdd, Int.reduceSub, Int.reduceMul, Int.reduceNeg, Int.reduceEq, Int.reduceGT, Nat.reduceEqDiff, ne_eq, not_false_eq_true, Option.some.injEq, forall_eq', Nat.reduceLT, Bool.and_false, Bool.or_false, Bool.false_or, Bool.true_or, Bool.false_and, Bool.or_true, $a,*])
/-! ### stands, tick by tick -/
def stsD (r : Rec) (f : Nat → Bool) (n : Nat) : List D := (List.range n).map fun j => encS (Sat r f j)
theorem sts_snoc (r : Rec) (f : Nat → Bool) (n : Nat) : stsD r f (n + 1) = stsD r f n ++ [encS (Sat r f n)] := by
  unfold stsD
  rw [List.range_succ, List.map_append]
  rfl
theorem atI_snoc (Y : List D) (e : D) : atI (Y ++ [e]) (-1) = some e := by
  rw [atI_last (by simp), List.getLast_concat]
theorem led_turn {r : Rec} (hr : r.Ok) (f : Nat → Bool) (t : Nat) (ht : t ≤ 100) (a1 : Option LV) : B_led_1 [some (.d (encR r)), a1, some (.own (stsD r f (t + 1))), some (.d (.bool (f t)))] = .nx [some (.d (encR r)), a1, some (.own (stsD r f (t + 2))), some (.d (.bool (f t)))] := by
  have e1 := F_step_eq r hr (Sat r f t) (f t) ((Sat_ok hr f t).short hr)
  have es : Sat r f (t + 1) = (stepS r (Sat r f t) (f t)).1 := rfl
  have hl : (stsD r f t ++ [encS (Sat r f t)]).length < sizeLine := by
    unfold stsD
    rw [List.length_append, List.length_map, List.length_range, sizeLine_eq]
    show t + 1 < 16777216
    omega
  rw [sts_snoc r f (t + 1), sts_snoc r f t, es]
  have ea := atI_snoc (stsD r f t) (encS (Sat r f t))
  unfold B_led_1
  generalize stsD r f t = Y at *
  generalize encS (stepS r (Sat r f t) (f t)).1 = E2 at *
  generalize encS (Sat r f t) = E1 at *
  generalize encR r = ER at *
  generalize Y ++ [E1] = Z at *
  simp_arith only [ea, e1, hl]
theorem F_led_ok {r : Rec} (hr : r.Ok) {l : List Bool} (hl : l.length ≤ 60) : F_led [.d (encR r), .d (encB l)] = .retL (stsD r (rowF l) (l.length + 1)) none := by
  have il : itemsD (encB l) = some (l.map .bool) := rfl
  obtain ⟨ρ', e1, b3, e2⟩ := forD_invN (G := G.nm 3) (g := B_led_1) (fun i ρ => ∃ b3, ρ = [some (.d (encR r)), some (.d (encB l)), some (.own (stsD r (rowF l) (i + 1))), b3]) (l.map .bool) [some (.d (encR r)), some (.d (encB l)), some (.own [cst_FRESH]), none] ⟨_, rfl⟩ (fun i x ρ hx ⟨b3, e⟩ => by
    subst e
    rw [List.getElem?_map] at hx
    cases hb : l[i]? with
    | none => rw [hb] at hx; cases hx
    | some b =>
      rw [hb] at hx
      cases hx
      have hi : i < l.length := (List.getElem?_eq_some_iff.mp hb).1
      refine ⟨_, rfl, ?_⟩
      have e3 := led_turn hr (rowF l) i (by omega) (some (.d (encB l)))
      rw [rowF_at hb] at e3
      show StepR _ _ (B_led_1 [some (.d (encR r)), some (.d (encB l)), some (.own (stsD r (rowF l) (i + 1))), some (.d (.bool b))])
      rw [e3]
      exact ⟨_, rfl⟩)
  rw [e2, List.length_map] at e1
  unfold F_led
  simp_arith only [true_and]
  unfold g_led
  generalize stsD r (rowF l) (l.length + 1) = S at *
  generalize encB l = EL at *
  generalize encR r = ER at *
  generalize cst_FRESH = CF at *
  simp_arith only [il]
  rw [e1]
  simp_arith only [true_and]
theorem F_stand_behind_ok {r : Rec} (hr : r.Ok) {l : List Bool} (hl : l.length ≤ 60) : F_stand_behind [.d (encR r), .d (encB l)] = .ret (encS (Sat r (rowF l) l.length)) none := by
  have e1 := F_led_ok hr hl
  rw [sts_snoc] at e1
  have e2 := F_look_at_recorder_ok hr
  have e3 := F_look_at_row_ok hl
  have e4 := atI_snoc (stsD r (rowF l) l.length) (encS (Sat r (rowF l) l.length))
  unfold F_stand_behind
  simp_arith only [true_and]
  unfold g_stand_behind
  generalize stsD r (rowF l) l.length ++ [encS (Sat r (rowF l) l.length)] = Z at *
  generalize encS (Sat r (rowF l) l.length) = E at *
  generalize encB l = EL at *
  generalize encR r = ER at *
  simp_arith only [e1, e2, e3, e4]
theorem F_recordings_ok {r : Rec} (hr : r.Ok) {l : List Bool} (hl : l.length ≤ 60) : F_recordings [.d (encR r), .d (encB l)] = .ret (tpsD (tapesOf r l)) none := by
  have e1 := F_recordings_of_ok hr hl
  have e2 := F_look_at_recorder_ok hr
  have e3 := F_look_at_row_ok hl
  unfold F_recordings
  simp_arith only [true_and]
  unfold g_recordings
  generalize tpsD (tapesOf r l) = T at *
  generalize encB l = EL at *
  generalize encR r = ER at *
  simp_arith only [e1, e2, e3]
theorem F_sounds_ok {l : List Bool} (hl : l.length ≤ 60) : F_sounds [.d (encB l)] = .ret (tpsD (Snd (rowF l) l.length)) none := by
  have e1 := F_sounds_of_ok hl
  have e3 := F_look_at_row_ok hl
  unfold F_sounds
  simp_arith only [true_and]
  unfold g_sounds
  generalize tpsD (Snd (rowF l) l.length) = T at *
  generalize encB l = EL at *
  simp_arith only [e1, e3]
end K2

set_option maxRecDepth 100000
set_option maxHeartbeats 4000000
set_option synthInstance.maxSize 8000
set_option synthInstance.maxHeartbeats 400000
namespace K2
open PySem PySem.Spec L2 PD
local macro_rules
  | `(tactic| simp_arith only [$a,*]) => `(tactic| simp only [ret_ap, lift_some, lift_none, var_ap, varR_d, ownAt_ap, ownL_own, ownL_d, ownL_n, frzAt_ap, frzL_own, frzL_d, frz_nil, frz_cons, frz1_own, frz1_d, frz1_n, wipe_nil, wipe_cons, restore_nil, restore_cons, clean_nil, clean_cons, isOwnL_own, isOwnL_d, isOwnL_k, frz1_k, frzL_k, ownL_k, isOwnL_n, bind_ap, bindR_ok, bindR_ex, bindR_bad, ofM_ap, ofR_ok, ofR_ex, ofR_bad, seq_ap, seqR_nx, seqR_rt, seqR_rl, seqR_bk, seqR_ct, seqR_ex, seqR_bad, nil_ap, pass_ap, never_ap, brk_ap, cnt_ap, retN_ap, sret_ap, sretL_ap, drop_ap, site_ap, asg_ap, own_ap, par2_ap, par3_ap, asgT_ap, asgR_some, asgR_none, gnm_ap, gnil_ap, gcons_ap, gtup_ap, andV_ap, orV_ap, andT_ap, orT_ap, notT_ap, test_ap, op1_ap, op2_ap, chain_ap, mite_ap, ite_apR, ite_apS, argN_ap, argD_ap, argS_ap, slotR_some, tup_ap, lst_ap, known_ap, call_ap, callL_ap, listL_ap, seqOf_l, seqOf_t, items_ap, part_ap, slice_ap, catL_ap, frz_ap, borrow_ap, borrowR_ok, borrowT_ap, borrowTR_ok, subO_ap, app_ap, setIx_ap, retO_ap, for_ap, lc_ap, lcR_ok, fn_ap, fnL_ap, fnR_some, fnLR_some, retR_ret, retR_retL, retLR_retL, putR_some, putO_none, putO_s0, putO_s1, putO_s2, putO_s3, putO_s4, endR_rt, endR_rl, endR_nx, endR_bad, bindR_ite, ofR_ite, seqR_ite, endR_ite, lift_ite, pop_ap, popR_snoc, dctAt_ap, dctL_k, dctL_o, dctL_d, dctL_n, inK_ap, subK_ap, slotKR_some, setK_ap, slotKF_some, setKR_some, parN_ap, parR_ok, setN_nil, setN_cons, nC_ap, nL_ap, nD_ap, dict1_ap, new_ap, repL_ap, addD_ii, addD_ss, addD_tt, subD_ii, mulD_ii, fdivD_ii, modD_ii, powD_ii, negD_i, ltD_ii, leD_ii, gtD_ii, geD_ii, ixD_l, ixD_t, catD_ll, itemsD_l, itemsD_t, lenD_l, lenD_t, lenD_s, absD_i, maxD_ii, minD_ii, intD_i, intD_b, tupleD_l, tupleD_t, notD_b, asB_b, asI_i, eqD_ii, eqD_ss, eqD_bb, eqD_si, eqD_is, eqD_nn, eqD_nb, eqD_ni, eqD_ns, eqD_bn, eqD_in, eqD_sn, tInt_none, tInt_bool, tInt_int, tInt_str, tInt_tuple, tInt_list, tInt_dict, tBool_none, tBool_bool, tBool_int, tBool_str, tBool_tuple, tBool_list, tBool_dict, tStr_none, tStr_bool, tStr_int, tStr_str, tStr_tuple, tStr_list, tStr_dict, tTuple_none, tTuple_bool, tTuple_int, tTuple_str, tTuple_tuple, tTuple_list, tTuple_dict, tList_none, tList_bool, tList_int, tList_str, tList_tuple, tList_list, tList_dict, tSeq_none, tSeq_bool, tSeq_int, tSeq_str, tSeq_tuple, tSeq_list, tSeq_dict, isNoneB_none, scalarD_none, isNoneB_bool, scalarD_bool, isNoneB_int, scalarD_int, isNoneB_str, scalarD_str, isNoneB_tuple, scalarD_tuple, isNoneB_list, scalarD_list, isNoneB_dict, scalarD_dict, ixT0, ixT1, ixT2, ixT3, ixT4, ixT5, ixT6, ixT7, ixT8, ixT9, ixL0, ixL1, ixL2, ixL3, ixL4, ixL5, ixL6, ixL7, ixL8, ixL9, aI0, aI1, aI2, aI3, aI4, aI5, aI6, aI7, aI8, aI9, ixN1_0, ixN2_0, ixN2_1, ixN3_0, ixN3_1, ixN3_2, ixN4_0, ixN4_1, ixN4_2, ixN4_3, ixN5_0, ixN5_1, ixN5_2, ixN5_3, ixN5_4, ixN6_0, ixN6_1, ixN6_2, ixN6_3, ixN6_4, ixN6_5, List.map_cons, List.map_nil, List.cons_append, List.nil_append, List.replicate_zero, List.replicate_succ, List.length_cons, List.length_nil, List.getElem?_cons_zero, List.getElem?_cons_succ, List.set_cons_zero, List.set_cons_succ, List.getD_cons_zero, List.getD_cons_succ, Bool.and_true, Bool.true_and, Bool.not_false, Bool.not_true, Nat.sub_self, Nat.reduceSub, Nat.reduceAdd, Nat.zero_add, true_and, and_true, and_self, if_true, if_false, ite_true, ite_false, reduceCtorEq, false_implies, implies_true, forall_const, Bool.false_eq_true, Option.bind_some, Option.map_some, Option.bind_none, Option.map_none, runF_eq, okIo, datOf, lvsOf, argIo, isD, outO, isND, notND, vals2D, vals3D, eqDD, neDD, decide_true, decide_false, Bool.decide_eq_true, sz0, sz1, sz2, sz3, sz4, sz5, sz6, sz7, sz8, sz9, sz10, sz11, sz12, sz13, sz14, sz15, sz16, sz17, sz18, sz19, sz20, sz21, sz22, sz23, sz24, sz25, sz26, sz27, sz28, sz29, sz30, sz31, sz32, sz33, sz34, sz35, sz36, sz37, sz38, sz39, sz40, slice_t, all_t, all_l, any_l, all_lm, all_tm, any_lm, Function.comp_def, step_nx, step_ct, step_bk, step_rt, step_rl, step_ite, decide_eq_true_eq, Int.cast_ofNat_Int, Int.reduceLE, Int.reduceLT, Int.reduceAdd, Int.reduceSub, Int.reduceMul, Int.reduceNeg, Int.reduceEq, Int.reduceGT, Nat.reduceEqDiff, ne_eq, not_false_eq_true, Option.some.injEq, forall_eq', Nat.reduceLT, Bool.and_false, Bool.or_false, Bool.false_or, Bool.true_or, Bool.false_and, Bool.or_true, $a,*])
/-! ### harms of a row: the parts -/
def meetB (a b : Tp) : Bool := decide (a.1 ≤ b.2) && decide (b.1 ≤ a.2)
def inB (t : Int) (p : Tp) : Bool := decide (p.1 ≤ t) && decide (t ≤ p.2)
theorem F_meet_ok (a b : Tp) : F_meet [.d (tpD a), .d (tpD b)] = .ret (.bool (meetB a b)) none := by
  have a0 := tpD_0 a
  have a1 := tpD_1 a
  have b0 := tpD_0 b
  have b1 := tpD_1 b
  unfold F_meet g_meet meetB
  generalize tpD a = A at *
  generalize tpD b = B at *
  by_cases h1 : a.1 ≤ b.2
  · by_cases h2 : b.1 ≤ a.2 <;> simp_arith only [a0, a1, b0, b1, h1, h2]
  · simp_arith only [a0, a1, b0, b1, h1]
theorem any_bools {α : Type} (p : α → Bool) (L : List α) : anyD [.list (L.map fun x => PyData.bool (p x))] = some (.bool (L.any p)) := by
  have e : boolsOf (L.map fun x => PyData.bool (p x)) = some (L.map p) := by
    induction L with
    | nil => rfl
    | cons x L ih => show (boolsOf (L.map fun x => PyData.bool (p x))).map (p x :: ·) = _; rw [ih]; rfl
  show (boolsOf _).map _ = _
  rw [e, Option.map_some, List.any_map]
  rfl
theorem F_is_in_ok (t : Int) (L : List Tp) (hL : L.length ≤ 100) : F_is_in [.d (.int t), .d (tpsD L)] = .ret (.bool (L.any (inB t))) none := by
  have il : itemsD (tpsD L) = some (L.map tpD) := rfl
  have k := lcLoop_mapT (vs := [2, 3]) (G := G.tup 2 (G.cons (G.nm 2) (G.cons (G.nm 3) G.nil))) (te := E_is_in_1) (ρ := [some (.d (.int t)), some (.d (tpsD L)), none, none]) tpD (inB t) L (by rw [sizeLine_eq]; omega) fun p _ => by
    refine ⟨_, [some (.d (.int t)), some (.d (tpsD L)), some (.d (.int p.1)), some (.d (.int p.2))], rfl, ?_, rfl⟩
    unfold E_is_in_1 inB
    generalize tpsD L = X at *
    by_cases h1 : p.1 ≤ t
    · by_cases h2 : t ≤ p.2 <;> simp_arith only [h1, h2]
    · simp_arith only [h1]
  have a := any_bools (inB t) L
  generalize (L.map fun x => PyData.bool (inB t x)) = BL at *
  generalize L.any (inB t) = b at *
  generalize L.map tpD = X at *
  generalize tpsD L = T at *
  unfold F_is_in
  simp_arith only [true_and]
  unfold g_is_in
  simp_arith only [il, k, a]
end K2

set_option maxRecDepth 100000
set_option maxHeartbeats 4000000
set_option synthInstance.maxSize 8000
set_option synthInstance.maxHeartbeats 400000
namespace K2
open PySem PySem.Spec L2 PD
local macro_rules
  | `(tactic| simp_arith only [$a,*]) => `(tactic| simp only [ret_ap, lift_some, lift_none, var_ap, varR_d, ownAt_ap, ownL_own, ownL_d, ownL_n, frzAt_ap, frzL_own, frzL_d, frz_nil, frz_cons, frz1_own, frz1_d, frz1_n, wipe_nil, wipe_cons, restore_nil, restore_cons, clean_nil, clean_cons, isOwnL_own, isOwnL_d, isOwnL_k, frz1_k, frzL_k, ownL_k, isOwnL_n, bind_ap, bindR_ok, bindR_ex, bindR_bad, ofM_ap, ofR_ok, ofR_ex, ofR_bad, seq_ap, seqR_nx, seqR_rt, seqR_rl, seqR_bk, seqR_ct, seqR_ex, seqR_bad, nil_ap, pass_ap, never_ap, brk_ap, cnt_ap, retN_ap, sret_ap, sretL_ap, drop_ap, site_ap, asg_ap, own_ap, par2_ap, par3_ap, asgT_ap, asgR_some, asgR_none, gnm_ap, gnil_ap, gcons_ap, gtup_ap, andV_ap, orV_ap, andT_ap, orT_ap, notT_ap, test_ap, op1_ap, op2_ap, chain_ap, mite_ap, ite_apR, ite_apS, argN_ap, argD_ap, argS_ap, slotR_some, tup_ap, lst_ap, known_ap, call_ap, callL_ap, listL_ap, seqOf_l, seqOf_t, items_ap, part_ap, slice_ap, catL_ap, frz_ap, borrow_ap, borrowR_ok, borrowT_ap, borrowTR_ok, subO_ap, app_ap, setIx_ap, retO_ap, for_ap, lc_ap, lcR_ok, fn_ap, fnL_ap, fnR_some, fnLR_some, retR_ret, retR_retL, retLR_retL, putR_some, putO_none, putO_s0, putO_s1, putO_s2, putO_s3, putO_s4, endR_rt, endR_rl, endR_nx, endR_bad, bindR_ite, ofR_ite, seqR_ite, endR_ite, lift_ite, pop_ap, popR_snoc, dctAt_ap, dctL_k, dctL_o, dctL_d, dctL_n, inK_ap, subK_ap, slotKR_some, setK_ap, slotKF_some, setKR_some, parN_ap, parR_ok, setN_nil, setN_cons, nC_ap, nL_ap, nD_ap, dict1_ap, new_ap, repL_ap, addD_ii, addD_ss, addD_tt, subD_ii, mulD_ii, fdivD_ii, modD_ii, powD_ii, negD_i, ltD_ii, leD_ii, gtD_ii, geD_ii, ixD_l, ixD_t, catD_ll, itemsD_l, itemsD_t, lenD_l, lenD_t, lenD_s, absD_i, maxD_ii, minD_ii, intD_i, intD_b, tupleD_l, tupleD_t, notD_b, asB_b, asI_i, eqD_ii, eqD_ss, eqD_bb, eqD_si, eqD_is, eqD_nn, eqD_nb, eqD_ni, eqD_ns, eqD_bn, eqD_in, eqD_sn, tInt_none, tInt_bool, tInt_int, tInt_str, tInt_tuple, tInt_list, tInt_dict, tBool_none, tBool_bool, tBool_int, tBool_str, tBool_tuple, tBool_list, tBool_dict, tStr_none, tStr_bool, tStr_int, tStr_str, tStr_tuple, tStr_list, tStr_dict, tTuple_none, tTuple_bool, tTuple_int, tTuple_str, tTuple_tuple, tTuple_list, tTuple_dict, tList_none, tList_bool, tList_int, tList_str, tList_tuple, tList_list, tList_dict, tSeq_none, tSeq_bool, tSeq_int, tSeq_str, tSeq_tuple, tSeq_list, tSeq_dict, isNoneB_none, scalarD_none, isNoneB_bool, scalarD_bool, isNoneB_int, scalarD_int, isNoneB_str, scalarD_str, isNoneB_tuple, scalarD_tuple, isNoneB_list, scalarD_list, isNoneB_dict, scalarD_dict, ixT0, ixT1, ixT2, ixT3, ixT4, ixT5, ixT6, ixT7, ixT8, ixT9, ixL0, ixL1, ixL2, ixL3, ixL4, ixL5, ixL6, ixL7, ixL8, ixL9, aI0, aI1, aI2, aI3, aI4, aI5, aI6, aI7, aI8, aI9, ixN1_0, ixN2_0, ixN2_1, ixN3_0, ixN3_1, ixN3_2, ixN4_0, ixN4_1, ixN4_2, ixN4_3, ixN5_0, ixN5_1, ixN5_2, ixN5_3, ixN5_4, ixN6_0, ixN6_1, ixN6_2, ixN6_3, ixN6_4, ixN6_5, List.map_cons, List.map_nil, List.cons_append, List.nil_append, List.replicate_zero, List.replicate_succ, List.length_cons, List.length_nil, List.getElem?_cons_zero, List.getElem?_cons_succ, List.set_cons_zero, List.set_cons_succ, List.getD_cons_zero, List.getD_cons_succ, Bool.and_true, Bool.true_and, Bool.not_false, Bool.not_true, Nat.sub_self, Nat.reduceSub, Nat.reduceAdd, Nat.zero_add, true_and, and_true, and_self, if_true, if_false, ite_true, ite_false, reduceCtorEq, false_implies, implies_true, forall_const, Bool.false_eq_true, Option.bind_some, Option.map_some, Option.bind_none, Option.map_none, runF_eq, okIo, datOf, lvsOf, argIo, isD, outO, isND, notND, vals2D, vals3D, eqDD, neDD, decide_true, decide_false, Bool.decide_eq_true, sz0, sz1, sz2, sz3, sz4, sz5, sz6, sz7, sz8, sz9, sz10, sz11, sz12, sz13, sz14, sz15, sz16, sz17, sz18, sz19, sz20, sz21, sz22, sz23, sz24, sz25, sz26, sz27, sz28, sz29, sz30, sz31, sz32, sz33, sz34, sz35, sz36, sz37, sz38, sz39, sz40, slice_t, all_t, all_l, any_l, all_lm, all_tm, any_lm, Function.comp_def, step_nx, step_ct, step_bk, step_rt, step_rl, step_ite, decide_eq_true_eq, Int.cast_ofNat_Int, Int.reduceLE, Int.reduceLT, Int.reduceAdd, Int.reduceSub, Int.reduceMul, Int.reduceNeg, Int.reduceEq, Int.reduceGT, Nat.reduceEqDiff, ne_eq, not_false_eq_true, Option.some.injEq, forall_eq', Nat.reduceLT, Bool.and_false, Bool.or_false, Bool.false_or, Bool.true_or, Bool.false_and, Bool.or_true, $a,*])
/-! ### the marks of the law -/
def encMk (o : Option Nat) : D := match o with
  | none => .none
  | some j => .int (j : Nat)
def marksD (n : Nat) (m : Nat → Option Nat) : List D := (List.range n).map fun t => encMk (m t)
theorem marks_set (n : Nat) (m : Nat → Option Nat) {t j : Nat} (ht : t < n) : (marksD n m).set t (.int (j : Nat)) = marksD n fun i => if i = t then some j else m i := by
  unfold marksD
  refine List.ext_getElem? fun i => ?_
  rw [List.getElem?_set]
  by_cases h : t = i
  · subst h
    rw [if_pos rfl, List.length_map, List.length_range, if_pos ht, List.getElem?_map, List.getElem?_range ht, Option.map_some]
    show some (PyData.int (j : Nat)) = some (encMk (if t = t then some j else m t))
    rw [if_pos rfl]
    rfl
  · rw [if_neg h, List.getElem?_map, List.getElem?_map]
    cases q : (List.range n)[i]? with
    | none => rfl
    | some y =>
      rw [Option.map_some, Option.map_some]
      obtain ⟨h1, h2⟩ := List.getElem?_eq_some_iff.mp q
      rw [List.getElem_range] at h2
      subst h2
      show some (encMk (m i)) = some (encMk (if i = t then some j else m i))
      rw [if_neg (fun z : i = t => h z.symm)]
theorem marks_len (n : Nat) (m : Nat → Option Nat) : (marksD n m).length = n := by unfold marksD; rw [List.length_map, List.length_range]
theorem mark_turn (n : Nat) (m : Nat → Option Nat) {t j : Nat} (ht : t < n) (a0 a1 a4 a5 : Option LV) : B_f_law_kept_2 [a0, a1, some (.own (marksD n m)), some (.d (.int (j : Nat))), a4, a5, some (.d (.int (t : Nat)))] =
    .nx [a0, a1, some (.own (marksD n fun i => if i = t then some j else m i)), some (.d (.int (j : Nat))), a4, a5, some (.d (.int (t : Nat)))] := by
  have e1 := marks_set n m (j := j) ht
  have e2 : ixN (marksD n m).length (t : Int) = some t := by
    unfold ixN
    rw [if_pos (by omega), if_pos (by rw [marks_len]; omega), Int.toNat_natCast]
  rw [← e1]
  unfold B_f_law_kept_2
  generalize marksD n m = X at *
  simp_arith only [e2]
theorem marks_congr {n : Nat} {m m' : Nat → Option Nat} (h : ∀ t, t < n → m t = m' t) : marksD n m = marksD n m' := by
  unfold marksD
  exact List.map_congr_left fun t ht => by rw [h t (List.mem_range.mp ht)]
/-- a tape's ticks take its number -/
def putMk (j : Nat) (p : Tp) (m : Nat → Option Nat) : Nat → Option Nat := fun t => if inB (t : Int) p = true then some j else m t
theorem kept_turn (r : Rec) {l : List Bool} (hl : l.length ≤ 60) (m : Nat → Option Nat) (j : Nat) (p : Tp) (h0 : 0 ≤ p.1) (h1 : p.1 ≤ p.2) (h2 : p.2 ≤ 1000) (a0 a6 : Option LV) : ∃ b6, B_f_law_kept_1 [a0, some (.d (encB l)), some (.own (marksD l.length m)), some (.d (.int (j : Nat))), some (.d (.int p.1)), some (.d (.int p.2)), a6] =
    .nx [a0, some (.d (encB l)), some (.own (marksD l.length (putMk j p m))), some (.d (.int (j : Nat))), some (.d (.int p.1)), some (.d (.int p.2)), b6] := by
  obtain ⟨b, hb⟩ := Int.eq_ofNat_of_zero_le h0
  have el := len_encB l
  let u : Int := if p.2 + 1 < (l.length : Int) then p.2 + 1 else (l.length : Int)
  have eu : minD [.int (p.2 + 1), .int (l.length : Int)] = some (.int u) := by
    rw [minD_ii]
    congr 2
    show _ = (if p.2 + 1 < (l.length : Int) then p.2 + 1 else (l.length : Int))
    split <;> split <;> omega
  have hu : u ≤ (l.length : Int) ∧ u ≤ p.2 + 1 ∧ (u = p.2 + 1 ∨ u = (l.length : Int)) := by
    show (if p.2 + 1 < (l.length : Int) then p.2 + 1 else (l.length : Int)) ≤ _ ∧ (if p.2 + 1 < (l.length : Int) then p.2 + 1 else (l.length : Int)) ≤ _ ∧ ((if p.2 + 1 < (l.length : Int) then p.2 + 1 else (l.length : Int)) = _ ∨ (if p.2 + 1 < (l.length : Int) then p.2 + 1 else (l.length : Int)) = _)
    split <;> omega
  generalize u = u at eu hu
  have rg : range2D [.int p.1, .int u] = some (rangeD p.1 (u - p.1).toNat) := range2_ok (by omega) (by omega) (by omega) (by omega)
  obtain ⟨ρ', e1, b6, e2⟩ := forD_invN (G := G.nm 6) (g := B_f_law_kept_2) (fun i ρ => ∃ b6, ρ = [a0, some (.d (encB l)), some (.own (marksD l.length fun t => if b ≤ t ∧ t < b + i then some j else m t)), some (.d (.int (j : Nat))), some (.d (.int p.1)), some (.d (.int p.2)), b6]) (rangeD p.1 (u - p.1).toNat)
    [a0, some (.d (encB l)), some (.own (marksD l.length m)), some (.d (.int (j : Nat))), some (.d (.int p.1)), some (.d (.int p.2)), a6] ⟨a6, by
      have q : marksD l.length m = marksD l.length (fun t => if b ≤ t ∧ t < b + 0 then some j else m t) := marks_congr fun t _ => by rw [if_neg (by omega)]
      rw [q]⟩ (fun i x ρ hx ⟨b6, e⟩ => by
      subst e
      obtain ⟨rfl, hi⟩ := get_rangeD hx
      refine ⟨_, rfl, ?_⟩
      have hlt : b + i < l.length := by omega
      have e3 := mark_turn l.length (fun t => if b ≤ t ∧ t < b + i then some j else m t) (j := j) hlt a0 (some (.d (encB l))) (some (.d (.int p.1))) (some (.d (.int p.2)))
      have et : (((b + i : Nat)) : Int) = p.1 + (i : Int) := by omega
      rw [et] at e3
      show StepR _ _ (B_f_law_kept_2 [a0, some (.d (encB l)), some (.own (marksD l.length fun t => if b ≤ t ∧ t < b + i then some j else m t)), some (.d (.int (j : Nat))), some (.d (.int p.1)), some (.d (.int p.2)), some (.d (.int (p.1 + (i : Int))))])
      have em : marksD l.length (fun k => if k = b + i then some j else if b ≤ k ∧ k < b + i then some j else m k) = marksD l.length (fun t => if b ≤ t ∧ t < b + (i + 1) then some j else m t) := marks_congr fun t _ => by
        by_cases q : t = b + i
        · rw [if_pos q, if_pos (by omega)]
        · rw [if_neg q]
          by_cases q2 : b ≤ t ∧ t < b + i
          · rw [if_pos q2, if_pos (by omega)]
          · rw [if_neg q2, if_neg (by omega)]
      rw [e3, em]
      exact ⟨_, rfl⟩)
  have em : marksD l.length (fun t => if b ≤ t ∧ t < b + (u - p.1).toNat then some j else m t) = marksD l.length (putMk j p m) := marks_congr fun t ht => by
    unfold putMk inB
    by_cases q : b ≤ t ∧ t < b + (u - p.1).toNat
    · rw [if_pos q, if_pos (by rw [Bool.and_eq_true, decide_eq_true_eq, decide_eq_true_eq]; omega)]
    · rw [if_neg q, if_neg (by rw [Bool.and_eq_true, decide_eq_true_eq, decide_eq_true_eq]; omega)]
  rw [e2, rangeD_length, em] at e1
  unfold B_f_law_kept_1
  generalize marksD l.length (putMk j p m) = M2 at *
  generalize marksD l.length m = M1 at *
  generalize encB l = EL at *
  generalize rangeD p.1 (u - p.1).toNat = RG at *
  simp_arith only [el, eu, rg]
  rw [e1]
  exact ⟨_, rfl⟩
/-- the marks behind the first k tapes -/
def markU (T : List Tp) : Nat → Nat → Option Nat
  | 0 => fun _ => none
  | k + 1 => match T[k]? with
    | some p => putMk k p (markU T k)
    | none => markU T k
theorem kept_loop (r : Rec) {l : List Bool} (hl : l.length ≤ 60) (T : List Tp) (hT : ∀ p ∈ T, 0 ≤ p.1 ∧ p.1 ≤ p.2 ∧ p.2 ≤ 1000) (a0 a3 a4 a5 a6 : Option LV) : ∃ b3 b4 b5 b6, forD (G.tup 2 (G.cons (G.nm 3) (G.cons (G.tup 2 (G.cons (G.nm 4) (G.cons (G.nm 5) G.nil))) G.nil))) B_f_law_kept_1 (enumL (T.map tpD)) [a0, some (.d (encB l)), some (.own (marksD l.length fun _ => none)), a3, a4, a5, a6] =
    .nx [a0, some (.d (encB l)), some (.own (marksD l.length (markU T T.length))), b3, b4, b5, b6] := by
  obtain ⟨ρ', e1, b3, b4, b5, b6, e2⟩ := forD_invN (G := G.tup 2 (G.cons (G.nm 3) (G.cons (G.tup 2 (G.cons (G.nm 4) (G.cons (G.nm 5) G.nil))) G.nil))) (g := B_f_law_kept_1)
    (fun i ρ => ∃ b3 b4 b5 b6, ρ = [a0, some (.d (encB l)), some (.own (marksD l.length (markU T i))), b3, b4, b5, b6]) (enumL (T.map tpD)) [a0, some (.d (encB l)), some (.own (marksD l.length fun _ => none)), a3, a4, a5, a6] ⟨_, _, _, _, rfl⟩ (fun i x ρ hx ⟨b3, b4, b5, b6, e⟩ => by
      subst e
      obtain ⟨y, hy, rfl⟩ := enumL_get hx
      rw [List.getElem?_map] at hy
      cases hp : T[i]? with
      | none => rw [hp] at hy; cases hy
      | some p =>
        rw [hp] at hy
        cases hy
        obtain ⟨h0, h1, h2⟩ := hT p (List.mem_of_getElem? hp)
        refine ⟨_, rfl, ?_⟩
        obtain ⟨c6, e3⟩ := kept_turn r hl (markU T i) i p h0 h1 h2 a0 b6
        have em : markU T (i + 1) = putMk i p (markU T i) := by
          show (match T[i]? with | some p => putMk i p (markU T i) | none => markU T i) = _
          rw [hp]
        rw [em]
        show StepR _ _ (B_f_law_kept_1 [a0, some (.d (encB l)), some (.own (marksD l.length (markU T i))), some (.d (.int (i : Nat))), some (.d (.int p.1)), some (.d (.int p.2)), b6])
        rw [e3]
        exact ⟨_, _, _, _, rfl⟩)
  rw [e1, e2, enumL_len, List.length_map]
  exact ⟨_, _, _, _, rfl⟩
theorem repNone (n : Nat) (hn : n ≤ 60) : repO [.none] (.int (n : Int)) = some (List.replicate n PyData.none) := by
  have e : repO [PyData.none] (.int (n : Int)) = if -(2 ^ 63) ≤ (n : Int) ∧ (n : Int) < 2 ^ 63 ∧ [PyData.none].length * ((n : Int)).toNat ≤ sizeLine then some (List.replicate ((n : Int)).toNat [PyData.none]).flatten else none := rfl
  rw [e, if_pos ⟨by omega, by omega, by rw [sizeLine_eq, Int.toNat_natCast]; show 1 * n ≤ 16777216; omega⟩, Int.toNat_natCast, List.flatten_replicate_singleton]
theorem marks_none (n : Nat) : List.replicate n PyData.none = marksD n fun _ => none := by
  unfold marksD
  show _ = List.map (fun _ => PyData.none) _
  rw [List.map_const', List.length_range]
theorem kept_eval (ER EL : D) (n : Int) (TL M0 M1 XS : List D) (el : lenD [EL] = some (.int n)) (e0 : repO [.none] (.int n) = some M0) (et : F_f_law_tapes [.d ER, .d EL] = .retL TL none) (ee : enumD [.list TL] = some XS)
    (b3 b4 b5 b6 : Option LV) (k : forD (G.tup 2 (G.cons (G.nm 3) (G.cons (G.tup 2 (G.cons (G.nm 4) (G.cons (G.nm 5) G.nil))) G.nil))) B_f_law_kept_1 XS [some (.d ER), some (.d EL), some (.own M0), none, none, none, none] = .nx [some (.d ER), some (.d EL), some (.own M1), b3, b4, b5, b6]) :
    F_f_law_kept [.d ER, .d EL] = .retL M1 none := by
  unfold F_f_law_kept
  simp_arith only [true_and]
  unfold g_f_law_kept
  simp_arith only [el, e0, et, ee]
  rw [k]
  simp_arith only [true_and]
theorem F_kept_ok {r : Rec} (hr : r.Ok) {l : List Bool} (hl : l.length ≤ 60) : F_f_law_kept [.d (encR r), .d (encB l)] = .retL (marksD l.length (markU (tapesOf r l) (tapesOf r l).length)) none := by
  obtain ⟨e1, hT, _⟩ := F_tapes_all hr hl
  obtain ⟨b3, b4, b5, b6, k⟩ := kept_loop r hl (tapesOf r l) hT (some (.d (encR r))) none none none none
  rw [← marks_none] at k
  exact kept_eval _ _ _ _ _ _ _ (len_encB l) (repNone _ hl) e1 rfl b3 b4 b5 b6 k
end K2

set_option maxRecDepth 100000
set_option maxHeartbeats 4000000
set_option synthInstance.maxSize 8000
set_option synthInstance.maxHeartbeats 400000
namespace K2
open PySem PySem.Spec L2 PD
local macro_rules
  | `(tactic| simp_arith only [$a,*]) => `(tactic| simp only [ret_ap, lift_some, lift_none, var_ap, varR_d, ownAt_ap, ownL_own, ownL_d, ownL_n, frzAt_ap, frzL_own, frzL_d, frz_nil, frz_cons, frz1_own, frz1_d, frz1_n, wipe_nil, wipe_cons, restore_nil, restore_cons, clean_nil, clean_cons, isOwnL_own, isOwnL_d, isOwnL_k, frz1_k, frzL_k, ownL_k, isOwnL_n, bind_ap, bindR_ok, bindR_ex, bindR_bad, ofM_ap, ofR_ok, ofR_ex, ofR_bad, seq_ap, seqR_nx, seqR_rt, seqR_rl, seqR_bk, seqR_ct, seqR_ex, seqR_bad, nil_ap, pass_ap, never_ap, brk_ap, cnt_ap, retN_ap, sret_ap, sretL_ap, drop_ap, site_ap, asg_ap, own_ap, par2_ap, par3_ap, asgT_ap, asgR_some, asgR_none, gnm_ap, gnil_ap, gcons_ap, gtup_ap, andV_ap, orV_ap, andT_ap, orT_ap, notT_ap, test_ap, op1_ap, op2_ap, chain_ap, mite_ap, ite_apR, ite_apS, argN_ap, argD_ap, argS_ap, slotR_some, tup_ap, lst_ap, known_ap, call_ap, callL_ap, listL_ap, seqOf_l, seqOf_t, items_ap, part_ap, slice_ap, catL_ap, frz_ap, borrow_ap, borrowR_ok, borrowT_ap, borrowTR_ok, subO_ap, app_ap, setIx_ap, retO_ap, for_ap, lc_ap, lcR_ok, fn_ap, fnL_ap, fnR_some, fnLR_some, retR_ret, retR_retL, retLR_retL, putR_some, putO_none, putO_s0, putO_s1, putO_s2, putO_s3, putO_s4, endR_rt, endR_rl, endR_nx, endR_bad, bindR_ite, ofR_ite, seqR_ite, endR_ite, lift_ite, pop_ap, popR_snoc, dctAt_ap, dctL_k, dctL_o, dctL_d, dctL_n, inK_ap, subK_ap, slotKR_some, setK_ap, slotKF_some, setKR_some, parN_ap, parR_ok, setN_nil, setN_cons, nC_ap, nL_ap, nD_ap, dict1_ap, new_ap, repL_ap, addD_ii, addD_ss, addD_tt, subD_ii, mulD_ii, fdivD_ii, modD_ii, powD_ii, negD_i, ltD_ii, leD_ii, gtD_ii, geD_ii, ixD_l, ixD_t, catD_ll, itemsD_l, itemsD_t, lenD_l, lenD_t, lenD_s, absD_i, maxD_ii, minD_ii, intD_i, intD_b, tupleD_l, tupleD_t, notD_b, asB_b, asI_i, eqD_ii, eqD_ss, eqD_bb, eqD_si, eqD_is, eqD_nn, eqD_nb, eqD_ni, eqD_ns, eqD_bn, eqD_in, eqD_sn, tInt_none, tInt_bool, tInt_int, tInt_str, tInt_tuple, tInt_list, tInt_dict, tBool_none, tBool_bool, tBool_int, tBool_str, tBool_tuple, tBool_list, tBool_dict, tStr_none, tStr_bool, tStr_int, tStr_str, tStr_tuple, tStr_list, tStr_dict, tTuple_none, tTuple_bool, tTuple_int, tTuple_str, tTuple_tuple, tTuple_list, tTuple_dict, tList_none, tList_bool, tList_int, tList_str, tList_tuple, tList_list, tList_dict, tSeq_none, tSeq_bool, tSeq_int, tSeq_str, tSeq_tuple, tSeq_list, tSeq_dict, isNoneB_none, scalarD_none, isNoneB_bool, scalarD_bool, isNoneB_int, scalarD_int, isNoneB_str, scalarD_str, isNoneB_tuple, scalarD_tuple, isNoneB_list, scalarD_list, isNoneB_dict, scalarD_dict, ixT0, ixT1, ixT2, ixT3, ixT4, ixT5, ixT6, ixT7, ixT8, ixT9, ixL0, ixL1, ixL2, ixL3, ixL4, ixL5, ixL6, ixL7, ixL8, ixL9, aI0, aI1, aI2, aI3, aI4, aI5, aI6, aI7, aI8, aI9, ixN1_0, ixN2_0, ixN2_1, ixN3_0, ixN3_1, ixN3_2, ixN4_0, ixN4_1, ixN4_2, ixN4_3, ixN5_0, ixN5_1, ixN5_2, ixN5_3, ixN5_4, ixN6_0, ixN6_1, ixN6_2, ixN6_3, ixN6_4, ixN6_5, List.map_cons, List.map_nil, List.cons_append, List.nil_append, List.replicate_zero, List.replicate_succ, List.length_cons, List.length_nil, List.getElem?_cons_zero, List.getElem?_cons_succ, List.set_cons_zero, List.set_cons_succ, List.getD_cons_zero, List.getD_cons_succ, Bool.and_true, Bool.true_and, Bool.not_false, Bool.not_true, Nat.sub_self, Nat.reduceSub, Nat.reduceAdd, Nat.zero_add, true_and, and_true, and_self, if_true, if_false, ite_true, ite_false, reduceCtorEq, false_implies, implies_true, forall_const, Bool.false_eq_true, Option.bind_some, Option.map_some, Option.bind_none, Option.map_none, runF_eq, okIo, datOf, lvsOf, argIo, isD, outO, isND, notND, vals2D, vals3D, eqDD, neDD, decide_true, decide_false, Bool.decide_eq_true, sz0, sz1, sz2, sz3, sz4, sz5, sz6, sz7, sz8, sz9, sz10, sz11, sz12, sz13, sz14, sz15, sz16, sz17, sz18, sz19, sz20, sz21, sz22, sz23, sz24, sz25, sz26, sz27, sz28, sz29, sz30, sz31, sz32, sz33, sz34, sz35, sz36, sz37, sz38, sz39, sz40, slice_t, all_t, all_l, any_l, all_lm, all_tm, any_lm, Function.comp_def, step_nx, step_ct, step_bk, step_rt, step_rl, step_ite, decide_eq_true_eq, Int.cast_ofNat_Int, Int.reduceLE, Int.reduceLT, Int.reduceAdd, Int.reduceSub, Int.reduceMul, Int.reduceNeg, Int.reduceEq, Int.reduceGT, Nat.reduceEqDiff, ne_eq, not_false_eq_true, Option.some.injEq, forall_eq', Nat.reduceLT, Bool.and_false, Bool.or_false, Bool.false_or, Bool.true_or, Bool.false_and, Bool.or_true, $a,*])
/-! ### the program's harms of a row -/
def wS (n : Nat) : Str := match n with
  | 0 => ("early" : Str)
  | 1 => ("joined" : Str)
  | 2 => ("late" : Str)
  | 3 => ("lost" : Str)
  | _ => ("parted" : Str)
def mineP (T : List Tp) (s : Tp) : List Tp := T.filter fun t => meetB t s
def when (b : Bool) (x : Str) : List Str := if b = true then [x] else []
def wordsP (T : List Tp) (s : Tp) : List Str := if (mineP T s).isEmpty = true then [wS 3] else when (!(mineP T s).any (inB s.1)) (wS 2) ++ when (!(mineP T s).any (inB s.2)) (wS 0) ++ when (decide (1 < (mineP T s).length)) (wS 4)
def joinP (S : List Tp) (t : Tp) : List Str := when (decide (1 < (S.filter fun s => meetB t s).length)) (wS 1)
def foundP (T S : List Tp) : List Str := S.flatMap (wordsP T) ++ T.flatMap (joinP S)
theorem rep01 (d : D) (c : Bool) : repO [d] (.int (if c = true then 1 else 0)) = some (if c = true then [d] else []) := by
  have e : ∀ k : Int, repO [d] (.int k) = if -(2 ^ 63) ≤ k ∧ k < 2 ^ 63 ∧ [d].length * k.toNat ≤ sizeLine then some (List.replicate k.toNat [d]).flatten else none := fun _ => rfl
  cases c
  · show repO [d] (.int 0) = some []
    rw [e, if_pos ⟨by decide, by decide, by rw [sizeLine_eq]; show 1 * 0 ≤ 16777216; decide⟩]
    rfl
  · show repO [d] (.int 1) = some [d]
    rw [e, if_pos ⟨by decide, by decide, by rw [sizeLine_eq]; show 1 * 1 ≤ 16777216; decide⟩]
    rfl
theorem mine_loop (T : List Tp) (hT : T.length ≤ 100) (s : Tp) (a0 a1 a2 a3 a4 a6 : Option LV) : lcLoop [7] (G.nm 7) T_harms_of_4 E_harms_of_4 (T.map tpD) [] [a0, a1, a2, a3, a4, some (.d (tpD s)), a6, none] = .ok ((mineP T s).map tpD) [a0, a1, a2, a3, a4, some (.d (tpD s)), a6, none] := by
  have key : ∀ (L : List Tp) (acc : List D), acc.length + L.length ≤ 1000 → lcLoop [7] (G.nm 7) T_harms_of_4 E_harms_of_4 (L.map tpD) acc [a0, a1, a2, a3, a4, some (.d (tpD s)), a6, none] = .ok (acc ++ (L.filter fun t => meetB t s).map tpD) [a0, a1, a2, a3, a4, some (.d (tpD s)), a6, none] := by
    intro L
    induction L with
    | nil => intro acc _; simp [lcLoop]
    | cons t L ih =>
      intro acc hl
      rw [List.length_cons] at hl
      have e1 := F_meet_ok t s
      have e2 : T_harms_of_4 [a0, a1, a2, a3, a4, some (.d (tpD s)), a6, some (.d (tpD t))] = .ok (meetB t s) [a0, a1, a2, a3, a4, some (.d (tpD s)), a6, some (.d (tpD t))] := by
        unfold T_harms_of_4
        generalize tpD t = TT at *
        generalize tpD s = SS at *
        simp_arith only [e1]
      rw [List.map_cons]
      unfold lcLoop
      have e3 : (G.nm 7) (tpD t) [a0, a1, a2, a3, a4, some (.d (tpD s)), a6, none] = some [a0, a1, a2, a3, a4, some (.d (tpD s)), a6, some (.d (tpD t))] := rfl
      have e4 : E_harms_of_4 [a0, a1, a2, a3, a4, some (.d (tpD s)), a6, some (.d (tpD t))] = .ok (tpD t) [a0, a1, a2, a3, a4, some (.d (tpD s)), a6, some (.d (tpD t))] := rfl
      have e5 : wipeD [a0, a1, a2, a3, a4, some (.d (tpD s)), a6, some (.d (tpD t))] [7] = [a0, a1, a2, a3, a4, some (.d (tpD s)), a6, none] := rfl
      simp only [e3, e2]
      cases hm : meetB t s with
      | true =>
        simp only [if_true, e4, e5]
        rw [if_pos (by rw [sizeLine_eq]; omega), ih _ (by rw [List.length_append, List.length_singleton]; omega), List.filter_cons_of_pos (p := fun t => meetB t s) hm, List.append_assoc]
        rfl
      | false =>
        simp only [Bool.false_eq_true, if_false, e5]
        rw [ih _ (by omega), List.filter_cons_of_neg (p := fun t => meetB t s) (by rw [hm]; decide)]
  rw [key T [] (by simpa using (by omega : T.length ≤ 1000)), List.nil_append]
  rfl
theorem sortset_ap (f : M D) (ρ : DE) : M.sortset f ρ = M.bind f (fun x => M.lift (sortsetD x)) ρ := rfl
theorem any_false {b : Bool} (h : ¬ b = true) : b = false := by simpa using h
/-- one sound's words, told over opaque data -/
theorem hp_eval (A0 A1 TD SD s : D) (X : List D) (FL : List D) (hF : FL.length ≤ 900) (i0 i1 : Int) (b0 b1 em : Bool) (TL : List D) (a6 : Option LV) (it : itemsD TD = some TL)
    (k : lcLoop [7] (G.nm 7) T_harms_of_4 E_harms_of_4 TL [] [some (.d A0), some (.d A1), some (.d TD), some (.d SD), some (.d (.list FL)), some (.d s), a6, none] = .ok X [some (.d A0), some (.d A1), some (.d TD), some (.d SD), some (.d (.list FL)), some (.d s), a6, none])
    (e0 : ixD s (.int 0) = some (.int i0)) (e1 : ixD s (.int 1) = some (.int i1)) (em' : eqD (.list X) (.list []) = some em) (h0 : F_is_in [.d (.int i0), .d (.list X)] = .ret (.bool b0) none) (h1 : F_is_in [.d (.int i1), .d (.list X)] = .ret (.bool b1) none) :
    B_harms_of_3 [some (.d A0), some (.d A1), some (.d TD), some (.d SD), some (.d (.list FL)), some (.d s), a6, none] =
      .nx [some (.d A0), some (.d A1), some (.d TD), some (.d SD), some (.d (.list (FL ++ (if em = true then [.str ("lost" : Str)] else (if (!b0) = true then [.str ("late" : Str)] else []) ++ (if (!b1) = true then [.str ("early" : Str)] else []) ++ (if (decide (1 < X.length)) = true then [.str ("parted" : Str)] else []))))), some (.d s), some (.d (.list X)), none] := by
  have r := rep01
  have c1 : ∀ a : D, FL.length + 1 ≤ sizeLine := fun _ => by rw [sizeLine_eq]; omega
  have c1 := c1 s
  unfold B_harms_of_3
  cases em with
  | true => simp_arith only [it, k, em', c1]
  | false =>
    have ed : decide ((X.length : Int) > 1) = decide (1 < X.length) := by
      refine decide_eq_decide.mpr ?_
      omega
    have ed' : decide ((1 : Int) < (X.length : Int)) = decide (1 < X.length) := ed
    have rl := r (.str ("late" : Str)) (!b0)
    have re := r (.str ("early" : Str)) (!b1)
    have rp := r (.str ("parted" : Str)) (decide (1 < X.length))
    generalize hc : decide (1 < X.length) = bp at *
    have g1 : (if (!b0) = true then [PyData.str ("late" : Str)] else []).length ≤ 1 := by split <;> decide
    have g2 : (if (!b1) = true then [PyData.str ("early" : Str)] else []).length ≤ 1 := by split <;> decide
    have g3 : (if bp = true then [PyData.str ("parted" : Str)] else []).length ≤ 1 := by split <;> decide
    simp only [Bool.false_eq_true, if_false]
    generalize (if (!b0) = true then [PyData.str ("late" : Str)] else []) = L1 at *
    generalize (if (!b1) = true then [PyData.str ("early" : Str)] else []) = L2 at *
    generalize (if bp = true then [PyData.str ("parted" : Str)] else []) = L3 at *
    have k1 : FL.length + L1.length ≤ sizeLine := by rw [sizeLine_eq]; omega
    have k2 : (FL ++ L1).length + L2.length ≤ sizeLine := by rw [List.length_append, sizeLine_eq]; omega
    have k3 : (FL ++ L1 ++ L2).length + L3.length ≤ sizeLine := by rw [List.length_append, List.length_append, sizeLine_eq]; omega
    have ez : FL ++ (L1 ++ L2 ++ L3) = FL ++ L1 ++ L2 ++ L3 := by simp only [List.append_assoc]
    rw [ez]
    simp_arith only [it, k, em', e0, e1, h0, h1, rl, re, rp, ed', k1, k2, k3]

theorem tps_empty (L : List Tp) : eqD (.list (L.map tpD)) (.list []) = some L.isEmpty := by
  have h := eqD_lnil (n := 2) (xs := L.map tpD) (sh_lst (n := 1) fun x hx => by
    obtain ⟨p, _, rfl⟩ := List.mem_map.mp hx
    exact sh_tup fun y hy => by
      simp only [List.mem_cons, List.not_mem_nil, or_false] at hy
      rcases hy with rfl | rfl
      · exact sh_int _
      · exact sh_int _) (by decide)
  rw [h]
  cases L <;> rfl
theorem when_map (b : Bool) (x : Str) : (when b x).map PyData.str = if b = true then [.str x] else [] := by
  unfold when
  cases b <;> rfl
theorem words_map (T : List Tp) (s : Tp) : (wordsP T s).map PyData.str = if (mineP T s).isEmpty = true then [.str ("lost" : Str)] else (if (!(mineP T s).any (inB s.1)) = true then [.str ("late" : Str)] else []) ++ (if (!(mineP T s).any (inB s.2)) = true then [.str ("early" : Str)] else []) ++ (if (decide (1 < (mineP T s).length)) = true then [.str ("parted" : Str)] else []) := by
  unfold wordsP
  split
  · rfl
  · rw [List.map_append, List.map_append, when_map, when_map, when_map]
    rfl
theorem words_len (T : List Tp) (s : Tp) : (wordsP T s).length ≤ 3 := by
  have h : ∀ b x, (when b x).length ≤ 1 := fun b x => by unfold when; split <;> simp
  unfold wordsP
  split
  · decide
  · rw [List.length_append, List.length_append]
    have := h (!(mineP T s).any (inB s.1)) (wS 2)
    have := h (!(mineP T s).any (inB s.2)) (wS 0)
    have := h (decide (1 < (mineP T s).length)) (wS 4)
    omega
theorem hp_turn {T : List Tp} (hT : T.length ≤ 100) (S : List Tp) (s : Tp) (F : List Str) (hF : F.length ≤ 900) (A0 A1 : D) (a6 : Option LV) : ∃ b6,
    B_harms_of_3 [some (.d A0), some (.d A1), some (.d (tpsD T)), some (.d (tpsD S)), some (.d (.list (F.map .str))), some (.d (tpD s)), a6, none] =
      .nx [some (.d A0), some (.d A1), some (.d (tpsD T)), some (.d (tpsD S)), some (.d (.list ((F ++ wordsP T s).map .str))), some (.d (tpD s)), b6, none] := by
  have hm : (mineP T s).length ≤ 100 := Nat.le_trans (List.length_filter_le _ _) hT
  have e := hp_eval A0 A1 (tpsD T) (tpsD S) (tpD s) ((mineP T s).map tpD) (F.map .str) (by rw [List.length_map]; exact hF) s.1 s.2 _ _ _ (T.map tpD) a6 rfl (mine_loop T hT s _ _ _ _ _ _) (tpD_0 s) (tpD_1 s) (tps_empty _) (F_is_in_ok s.1 (mineP T s) hm) (F_is_in_ok s.2 (mineP T s) hm)
  rw [List.length_map, ← words_map, ← List.map_append] at e
  exact ⟨_, e⟩
/-- the sounds that a tape meets -/
theorem join_loop (S : List Tp) (hS : S.length ≤ 100) (t : Tp) (a0 a1 a2 a3 a4 a6 : Option LV) : lcLoop [5] (G.nm 5) T_harms_of_2 E_harms_of_2 (S.map tpD) [] [a0, a1, a2, a3, a4, none, a6, some (.d (tpD t))] = .ok ((S.filter fun s => meetB t s).map tpD) [a0, a1, a2, a3, a4, none, a6, some (.d (tpD t))] := by
  have key : ∀ (L : List Tp) (acc : List D), acc.length + L.length ≤ 1000 → lcLoop [5] (G.nm 5) T_harms_of_2 E_harms_of_2 (L.map tpD) acc [a0, a1, a2, a3, a4, none, a6, some (.d (tpD t))] = .ok (acc ++ (L.filter fun s => meetB t s).map tpD) [a0, a1, a2, a3, a4, none, a6, some (.d (tpD t))] := by
    intro L
    induction L with
    | nil => intro acc _; simp [lcLoop]
    | cons s L ih =>
      intro acc hl
      rw [List.length_cons] at hl
      have e1 := F_meet_ok t s
      have e2 : T_harms_of_2 [a0, a1, a2, a3, a4, some (.d (tpD s)), a6, some (.d (tpD t))] = .ok (meetB t s) [a0, a1, a2, a3, a4, some (.d (tpD s)), a6, some (.d (tpD t))] := by
        unfold T_harms_of_2
        generalize tpD t = TT at *
        generalize tpD s = SS at *
        simp_arith only [e1]
      rw [List.map_cons]
      unfold lcLoop
      have e3 : (G.nm 5) (tpD s) [a0, a1, a2, a3, a4, none, a6, some (.d (tpD t))] = some [a0, a1, a2, a3, a4, some (.d (tpD s)), a6, some (.d (tpD t))] := rfl
      have e4 : E_harms_of_2 [a0, a1, a2, a3, a4, some (.d (tpD s)), a6, some (.d (tpD t))] = .ok (tpD s) [a0, a1, a2, a3, a4, some (.d (tpD s)), a6, some (.d (tpD t))] := rfl
      have e5 : wipeD [a0, a1, a2, a3, a4, some (.d (tpD s)), a6, some (.d (tpD t))] [5] = [a0, a1, a2, a3, a4, none, a6, some (.d (tpD t))] := rfl
      simp only [e3, e2]
      cases hm : meetB t s with
      | true =>
        simp only [if_true, e4, e5]
        rw [if_pos (by rw [sizeLine_eq]; omega), ih _ (by rw [List.length_append, List.length_singleton]; omega), List.filter_cons_of_pos (p := fun s => meetB t s) hm, List.append_assoc]
        rfl
      | false =>
        simp only [Bool.false_eq_true, if_false, e5]
        rw [ih _ (by omega), List.filter_cons_of_neg (p := fun s => meetB t s) (by rw [hm]; decide)]
  rw [key S [] (by simpa using (by omega : S.length ≤ 1000)), List.nil_append]
theorem jp_eval (A0 A1 A2 SD t : D) (X : List D) (FL : List D) (hF : FL.length ≤ 900) (SL : List D) (a5 a6 : Option LV) (h5 : isOwnL (some a5) = false) (is : itemsD SD = some SL)
    (k : lcLoop [5] (G.nm 5) T_harms_of_2 E_harms_of_2 SL [] [some (.d A0), some (.d A1), some (.d A2), some (.d SD), some (.d (.list FL)), none, a6, some (.d t)] = .ok X [some (.d A0), some (.d A1), some (.d A2), some (.d SD), some (.d (.list FL)), none, a6, some (.d t)]) :
    B_harms_of_1 [some (.d A0), some (.d A1), some (.d A2), some (.d SD), some (.d (.list FL)), a5, a6, some (.d t)] =
      .nx [some (.d A0), some (.d A1), some (.d A2), some (.d SD), some (.d (.list (FL ++ (if (decide (1 < X.length)) = true then [.str ("joined" : Str)] else [])))), a5, a6, some (.d t)] := by
  have c1 : FL.length + 1 ≤ sizeLine := by rw [sizeLine_eq]; omega
  unfold B_harms_of_1
  by_cases h : 1 < X.length
  · have h' : (1 : Int) < (X.length : Int) := by omega
    simp_arith only [is, h5, k, h, h', c1]
  · have h' : ¬ (1 : Int) < (X.length : Int) := by omega
    rw [decide_eq_false h]
    simp_arith only [is, h5, k, h', List.append_nil]

theorem join_map (S : List Tp) (t : Tp) : (joinP S t).map PyData.str = if (decide (1 < (S.filter fun s => meetB t s).length)) = true then [.str ("joined" : Str)] else [] := by
  unfold joinP
  rw [when_map]
  rfl
theorem join_len (S : List Tp) (t : Tp) : (joinP S t).length ≤ 1 := by unfold joinP when; split <;> simp
theorem jp_turn {S : List Tp} (hS : S.length ≤ 100) (T : List Tp) (t : Tp) (F : List Str) (hF : F.length ≤ 900) (A0 A1 : D) (a5 a6 : Option LV) (h5 : isOwnL (some a5) = false) :
    B_harms_of_1 [some (.d A0), some (.d A1), some (.d (tpsD T)), some (.d (tpsD S)), some (.d (.list (F.map .str))), a5, a6, some (.d (tpD t))] =
      .nx [some (.d A0), some (.d A1), some (.d (tpsD T)), some (.d (tpsD S)), some (.d (.list ((F ++ joinP S t).map .str))), a5, a6, some (.d (tpD t))] := by
  have e := jp_eval A0 A1 (tpsD T) (tpsD S) (tpD t) ((S.filter fun s => meetB t s).map tpD) (F.map .str) (by rw [List.length_map]; exact hF) (S.map tpD) a5 a6 h5 rfl (join_loop S hS t _ _ _ _ _ _)
  rw [List.length_map, ← join_map, ← List.map_append] at e
  exact e
theorem fm_len {f : Tp → List Str} {c : Nat} (h : ∀ s, (f s).length ≤ c) : ∀ L : List Tp, (L.flatMap f).length ≤ c * L.length
  | [] => Nat.zero_le _
  | p :: L => by
    have := h p
    have := fm_len h L
    rw [List.flatMap_cons, List.length_append, List.length_cons, Nat.mul_succ]
    omega
theorem hp_loop {T : List Tp} (hT : T.length ≤ 61) {S : List Tp} (hS : S.length ≤ 60) (A0 A1 : D) : ∃ b5 b6, isOwnL (some b5) = false ∧
    forD (G.nm 5) B_harms_of_3 (S.map tpD) [some (.d A0), some (.d A1), some (.d (tpsD T)), some (.d (tpsD S)), some (.d (.list [])), none, none, none] =
      .nx [some (.d A0), some (.d A1), some (.d (tpsD T)), some (.d (tpsD S)), some (.d (.list ((S.flatMap (wordsP T)).map .str))), b5, b6, none] := by
  obtain ⟨ρ', e1, b5, b6, h5, e2⟩ := forD_invN (G := G.nm 5) (g := B_harms_of_3) (fun i ρ => ∃ b5 b6, isOwnL (some b5) = false ∧ ρ = [some (.d A0), some (.d A1), some (.d (tpsD T)), some (.d (tpsD S)), some (.d (.list (((S.take i).flatMap (wordsP T)).map .str))), b5, b6, none]) (S.map tpD)
    [some (.d A0), some (.d A1), some (.d (tpsD T)), some (.d (tpsD S)), some (.d (.list [])), none, none, none] ⟨none, none, rfl, rfl⟩ (fun i x ρ hx ⟨b5, b6, h5, e⟩ => by
    subst e
    rw [List.getElem?_map] at hx
    cases hq : S[i]? with
    | none => rw [hq] at hx; cases hx
    | some s =>
      rw [hq] at hx
      cases hx
      have hi : i < S.length := (List.getElem?_eq_some_iff.mp hq).1
      refine ⟨_, rfl, ?_⟩
      have hf := fm_len (words_len T) (S.take i)
      rw [List.length_take] at hf
      obtain ⟨c6, e3⟩ := hp_turn (T := T) (by omega) S s ((S.take i).flatMap (wordsP T)) (by omega) A0 A1 b6
      show StepR _ _ (B_harms_of_3 [some (.d A0), some (.d A1), some (.d (tpsD T)), some (.d (tpsD S)), some (.d (.list (((S.take i).flatMap (wordsP T)).map .str))), some (.d (tpD s)), b6, none])
      rw [e3]
      refine ⟨some (.d (tpD s)), c6, rfl, ?_⟩
      rw [List.take_add_one, hq, List.flatMap_append]
      show _ = [_, _, _, _, some (LV.d (.list ((_ ++ List.flatMap (wordsP T) [s]).map PyData.str))), _, _, _]
      rw [List.flatMap_cons, List.flatMap_nil, List.append_nil])
  rw [e2, List.length_map, List.take_length] at e1
  exact ⟨b5, b6, h5, e1⟩
theorem jp_loop {T : List Tp} (hT : T.length ≤ 61) {S : List Tp} (hS : S.length ≤ 60) (F : List Str) (hF : F.length ≤ 600) (A0 A1 : D) (a5 a6 : Option LV) (h5 : isOwnL (some a5) = false) : ∃ b7,
    forD (G.nm 7) B_harms_of_1 (T.map tpD) [some (.d A0), some (.d A1), some (.d (tpsD T)), some (.d (tpsD S)), some (.d (.list (F.map .str))), a5, a6, none] =
      .nx [some (.d A0), some (.d A1), some (.d (tpsD T)), some (.d (tpsD S)), some (.d (.list ((F ++ T.flatMap (joinP S)).map .str))), a5, a6, b7] := by
  obtain ⟨ρ', e1, b7, e2⟩ := forD_invN (G := G.nm 7) (g := B_harms_of_1) (fun i ρ => ∃ b7, ρ = [some (.d A0), some (.d A1), some (.d (tpsD T)), some (.d (tpsD S)), some (.d (.list ((F ++ (T.take i).flatMap (joinP S)).map .str))), a5, a6, b7]) (T.map tpD)
    [some (.d A0), some (.d A1), some (.d (tpsD T)), some (.d (tpsD S)), some (.d (.list (F.map .str))), a5, a6, none] ⟨none, by rw [List.take_zero, List.flatMap_nil, List.append_nil]⟩ (fun i x ρ hx ⟨b7, e⟩ => by
    subst e
    rw [List.getElem?_map] at hx
    cases hq : T[i]? with
    | none => rw [hq] at hx; cases hx
    | some t =>
      rw [hq] at hx
      cases hx
      have hi : i < T.length := (List.getElem?_eq_some_iff.mp hq).1
      refine ⟨_, rfl, ?_⟩
      have hf := fm_len (join_len S) (T.take i)
      rw [List.length_take] at hf
      have e3 := jp_turn (S := S) (by omega) T t (F ++ (T.take i).flatMap (joinP S)) (by rw [List.length_append]; omega) A0 A1 a5 a6 h5
      show StepR _ _ (B_harms_of_1 [some (.d A0), some (.d A1), some (.d (tpsD T)), some (.d (tpsD S)), some (.d (.list ((F ++ (T.take i).flatMap (joinP S)).map .str))), a5, a6, some (.d (tpD t))])
      rw [e3]
      refine ⟨some (.d (tpD t)), ?_⟩
      rw [List.take_add_one, hq, List.flatMap_append, List.append_assoc]
      show _ = [_, _, _, _, some (LV.d (.list ((_ ++ (_ ++ List.flatMap (joinP S) [t])).map PyData.str))), _, _, _]
      rw [List.flatMap_cons, List.flatMap_nil, List.append_nil])
  rw [e2, List.length_map, List.take_length] at e1
  exact ⟨b7, e1⟩
theorem hp_fin (ER EL TD SD : D) (TL SL FL GL Y : List D) (b5 b6 b7 : Option LV) (hr : F_recordings_of [.d ER, .d EL] = .ret TD none) (hs : F_sounds_of [.d EL] = .ret SD none) (it : itemsD TD = some TL) (is : itemsD SD = some SL)
    (k1 : forD (G.nm 5) B_harms_of_3 SL [some (.d ER), some (.d EL), some (.d TD), some (.d SD), some (.d (.list [])), none, none, none] = .nx [some (.d ER), some (.d EL), some (.d TD), some (.d SD), some (.d (.list FL)), b5, b6, none])
    (k2 : forD (G.nm 7) B_harms_of_1 TL [some (.d ER), some (.d EL), some (.d TD), some (.d SD), some (.d (.list FL)), b5, b6, none] = .nx [some (.d ER), some (.d EL), some (.d TD), some (.d SD), some (.d (.list GL)), b5, b6, b7])
    (ss : sortsetD (.list GL) = some Y) : F_harms_of [.d ER, .d EL] = .ret (.list Y) none := by
  unfold F_harms_of
  simp_arith only [true_and]
  unfold g_harms_of
  simp_arith only [hr, hs, is]
  rw [k1]
  simp_arith only [it]
  rw [k2]
  simp_arith only [sortset_ap, ss]
end K2

set_option maxRecDepth 100000
set_option maxHeartbeats 4000000
set_option synthInstance.maxSize 8000
set_option synthInstance.maxHeartbeats 400000
namespace K2
open PySem PySem.Spec L2 PD
local macro_rules
  | `(tactic| simp_arith only [$a,*]) => `(tactic| simp only [ret_ap, lift_some, lift_none, var_ap, varR_d, ownAt_ap, ownL_own, ownL_d, ownL_n, frzAt_ap, frzL_own, frzL_d, frz_nil, frz_cons, frz1_own, frz1_d, frz1_n, wipe_nil, wipe_cons, restore_nil, restore_cons, clean_nil, clean_cons, isOwnL_own, isOwnL_d, isOwnL_k, frz1_k, frzL_k, ownL_k, isOwnL_n, bind_ap, bindR_ok, bindR_ex, bindR_bad, ofM_ap, ofR_ok, ofR_ex, ofR_bad, seq_ap, seqR_nx, seqR_rt, seqR_rl, seqR_bk, seqR_ct, seqR_ex, seqR_bad, nil_ap, pass_ap, never_ap, brk_ap, cnt_ap, retN_ap, sret_ap, sretL_ap, drop_ap, site_ap, asg_ap, own_ap, par2_ap, par3_ap, asgT_ap, asgR_some, asgR_none, gnm_ap, gnil_ap, gcons_ap, gtup_ap, andV_ap, orV_ap, andT_ap, orT_ap, notT_ap, test_ap, op1_ap, op2_ap, chain_ap, mite_ap, ite_apR, ite_apS, argN_ap, argD_ap, argS_ap, slotR_some, tup_ap, lst_ap, known_ap, call_ap, callL_ap, listL_ap, seqOf_l, seqOf_t, items_ap, part_ap, slice_ap, catL_ap, frz_ap, borrow_ap, borrowR_ok, borrowT_ap, borrowTR_ok, subO_ap, app_ap, setIx_ap, retO_ap, for_ap, lc_ap, lcR_ok, fn_ap, fnL_ap, fnR_some, fnLR_some, retR_ret, retR_retL, retLR_retL, putR_some, putO_none, putO_s0, putO_s1, putO_s2, putO_s3, putO_s4, endR_rt, endR_rl, endR_nx, endR_bad, bindR_ite, ofR_ite, seqR_ite, endR_ite, lift_ite, pop_ap, popR_snoc, dctAt_ap, dctL_k, dctL_o, dctL_d, dctL_n, inK_ap, subK_ap, slotKR_some, setK_ap, slotKF_some, setKR_some, parN_ap, parR_ok, setN_nil, setN_cons, nC_ap, nL_ap, nD_ap, dict1_ap, new_ap, repL_ap, addD_ii, addD_ss, addD_tt, subD_ii, mulD_ii, fdivD_ii, modD_ii, powD_ii, negD_i, ltD_ii, leD_ii, gtD_ii, geD_ii, ixD_l, ixD_t, catD_ll, itemsD_l, itemsD_t, lenD_l, lenD_t, lenD_s, absD_i, maxD_ii, minD_ii, intD_i, intD_b, tupleD_l, tupleD_t, notD_b, asB_b, asI_i, eqD_ii, eqD_ss, eqD_bb, eqD_si, eqD_is, eqD_nn, eqD_nb, eqD_ni, eqD_ns, eqD_bn, eqD_in, eqD_sn, tInt_none, tInt_bool, tInt_int, tInt_str, tInt_tuple, tInt_list, tInt_dict, tBool_none, tBool_bool, tBool_int, tBool_str, tBool_tuple, tBool_list, tBool_dict, tStr_none, tStr_bool, tStr_int, tStr_str, tStr_tuple, tStr_list, tStr_dict, tTuple_none, tTuple_bool, tTuple_int, tTuple_str, tTuple_tuple, tTuple_list, tTuple_dict, tList_none, tList_bool, tList_int, tList_str, tList_tuple, tList_list, tList_dict, tSeq_none, tSeq_bool, tSeq_int, tSeq_str, tSeq_tuple, tSeq_list, tSeq_dict, isNoneB_none, scalarD_none, isNoneB_bool, scalarD_bool, isNoneB_int, scalarD_int, isNoneB_str, scalarD_str, isNoneB_tuple, scalarD_tuple, isNoneB_list, scalarD_list, isNoneB_dict, scalarD_dict, ixT0, ixT1, ixT2, ixT3, ixT4, ixT5, ixT6, ixT7, ixT8, ixT9, ixL0, ixL1, ixL2, ixL3, ixL4, ixL5, ixL6, ixL7, ixL8, ixL9, aI0, aI1, aI2, aI3, aI4, aI5, aI6, aI7, aI8, aI9, ixN1_0, ixN2_0, ixN2_1, ixN3_0, ixN3_1, ixN3_2, ixN4_0, ixN4_1, ixN4_2, ixN4_3, ixN5_0, ixN5_1, ixN5_2, ixN5_3, ixN5_4, ixN6_0, ixN6_1, ixN6_2, ixN6_3, ixN6_4, ixN6_5, List.map_cons, List.map_nil, List.cons_append, List.nil_append, List.replicate_zero, List.replicate_succ, List.length_cons, List.length_nil, List.getElem?_cons_zero, List.getElem?_cons_succ, List.set_cons_zero, List.set_cons_succ, List.getD_cons_zero, List.getD_cons_succ, Bool.and_true, Bool.true_and, Bool.not_false, Bool.not_true, Nat.sub_self, Nat.reduceSub, Nat.reduceAdd, Nat.zero_add, true_and, and_true, and_self, if_true, if_false, ite_true, ite_false, reduceCtorEq, false_implies, implies_true, forall_const, Bool.false_eq_true, Option.bind_some, Option.map_some, Option.bind_none, Option.map_none, runF_eq, okIo, datOf, lvsOf, argIo, isD, outO, isND, notND, vals2D, vals3D, eqDD, neDD, decide_true, decide_false, Bool.decide_eq_true, sz0, sz1, sz2, sz3, sz4, sz5, sz6, sz7, sz8, sz9, sz10, sz11, sz12, sz13, sz14, sz15, sz16, sz17, sz18, sz19, sz20, sz21, sz22, sz23, sz24, sz25, sz26, sz27, sz28, sz29, sz30, sz31, sz32, sz33, sz34, sz35, sz36, sz37, sz38, sz39, sz40, slice_t, all_t, all_l, any_l, all_lm, all_tm, any_lm, Function.comp_def, step_nx, step_ct, step_bk, step_rt, step_rl, step_ite, decide_eq_true_eq, Int.cast_ofNat_Int, Int.reduceLE, Int.reduceLT, Int.reduceAdd, Int.reduceSub, Int.reduceMul, Int.reduceNeg, Int.reduceEq, Int.reduceGT, Nat.reduceEqDiff, ne_eq, not_false_eq_true, Option.some.injEq, forall_eq', Nat.reduceLT, Bool.and_false, Bool.or_false, Bool.false_or, Bool.true_or, Bool.false_and, Bool.or_true, $a,*])
/-! ### the law's harms of a row: owners -/
abbrev Ow := List (Nat × List Nat)
def numsD (l : List Nat) : D := .list (l.map fun k : Nat => PyData.int (k : Int))
def encO (O : Ow) : List (D × D) := O.map fun p => (.int (p.1 : Nat), numsD p.2)
def getO : Ow → Nat → Option (List Nat)
  | [], _ => none
  | p :: O, j => if p.1 = j then some p.2 else getO O j
def putO1 (O : Ow) (j : Nat) (l : List Nat) : Ow := if (getO O j).isSome = true then O.map (fun p => if p.1 = j then (p.1, l) else p) else O ++ [(j, l)]
def addO (O : Ow) (j k : Nat) : Ow := putO1 O j ((getO O j).getD [] ++ [k])
theorem nk_int_inj {i j : Nat} : nk (.int (i : Int)) = nk (.int (j : Int)) ↔ i = j := by
  show (some (NestedKey.num (i : Int)) = some (NestedKey.num (j : Int))) ↔ _
  constructor
  · intro h
    injection h with h
    injection h with h
    omega
  · rintro rfl; rfl
theorem getO_enc (j : Nat) : ∀ O : Ow, getK (encO O) (.int (j : Nat)) = (getO O j).map numsD
  | [] => rfl
  | p :: O => by
    show (if nk (.int (p.1 : Int)) = nk (.int (j : Int)) then some (numsD p.2) else getK (encO O) (.int (j : Nat))) = (if p.1 = j then some p.2 else getO O j).map numsD
    by_cases h : p.1 = j
    · rw [if_pos (nk_int_inj.mpr h), if_pos h]; rfl
    · rw [if_neg (fun z => h (nk_int_inj.mp z)), if_neg h, getO_enc j O]
theorem putO_enc (O : Ow) (j : Nat) (l : List Nat) : putKD (encO O) (.int (j : Nat)) (numsD l) = encO (putO1 O j l) := by
  unfold putKD putO1
  rw [getO_enc, Option.isSome_map]
  by_cases h : (getO O j).isSome = true
  · rw [if_pos h, if_pos h]
    unfold encO
    rw [List.map_map, List.map_map]
    refine List.map_congr_left fun p _ => ?_
    show (if nk (.int (p.1 : Int)) = nk (.int (j : Int)) then ((.int (p.1 : Int) : D), numsD l) else (.int (p.1 : Int), numsD p.2)) = ((.int ((if p.1 = j then (p.1, l) else p).1 : Int) : D), numsD (if p.1 = j then (p.1, l) else p).2)
    by_cases q : p.1 = j
    · rw [if_pos (nk_int_inj.mpr q), if_pos q]
    · rw [if_neg (fun z => q (nk_int_inj.mp z)), if_neg q]
  · rw [if_neg h, if_neg h]
    unfold encO
    rw [List.map_append]
    rfl
theorem getO_app (O : Ow) (j i : Nat) (l : List Nat) (h : getO O j = none) : getO (O ++ [(j, l)]) i = if i = j then some l else getO O i := by
  induction O with
  | nil =>
    show (if j = i then some l else none) = _
    by_cases q : i = j
    · rw [if_pos q.symm, if_pos q]
    · rw [if_neg (fun z => q z.symm), if_neg q]; rfl
  | cons p O ih =>
    have hp : p.1 ≠ j := fun z => by
      have h : (if p.1 = j then some p.2 else getO O j) = none := h
      rw [if_pos z] at h; cases h
    have h' : getO O j = none := by
      have h : (if p.1 = j then some p.2 else getO O j) = none := h
      rwa [if_neg hp] at h
    show (if p.1 = i then some p.2 else getO (O ++ [(j, l)]) i) = if i = j then some l else (if p.1 = i then some p.2 else getO O i)
    rw [ih h']
    by_cases q : p.1 = i
    · rw [if_pos q, if_pos q, if_neg (fun z => hp (q.trans z))]
    · rw [if_neg q, if_neg q]
theorem getO_map (O : Ow) (j i : Nat) (l : List Nat) (h : (getO O j).isSome = true) : getO (O.map fun p => if p.1 = j then (p.1, l) else p) i = if i = j then some l else getO O i := by
  have gen : ∀ O : Ow, getO (O.map fun p => if p.1 = j then (p.1, l) else p) i = if i = j then (getO O j).map (fun _ => l) else getO O i := by
    intro O
    induction O with
    | nil => show (none : Option (List Nat)) = _; split <;> rfl
    | cons p O ih =>
      show (if (if p.1 = j then (p.1, l) else p).1 = i then some (if p.1 = j then (p.1, l) else p).2 else getO (O.map fun p => if p.1 = j then (p.1, l) else p) i) = if i = j then (if p.1 = j then some p.2 else getO O j).map (fun _ => l) else (if p.1 = i then some p.2 else getO O i)
      rw [ih]
      by_cases q : p.1 = j
      · rw [if_pos q, if_pos q]
        by_cases q2 : i = j
        · rw [if_pos q2, if_pos q2, if_pos (q.trans q2.symm)]; rfl
        · rw [if_neg q2, if_neg q2, if_neg (fun z : p.1 = i => q2 (z.symm.trans q)), if_neg (fun z : p.1 = i => q2 (z.symm.trans q))]
      · rw [if_neg q, if_neg q]
        by_cases q2 : p.1 = i
        · rw [if_pos q2, if_neg (fun z : i = j => q (q2.trans z)), if_pos q2]
        · rw [if_neg q2, if_neg q2]
  rw [gen O]
  by_cases q : i = j
  · rw [if_pos q, if_pos q]
    cases e : getO O j with
    | none => rw [e] at h; cases h
    | some x => rfl
  · rw [if_neg q, if_neg q]
theorem getO_put (O : Ow) (j i : Nat) (l : List Nat) : getO (putO1 O j l) i = if i = j then some l else getO O i := by
  unfold putO1
  by_cases h : (getO O j).isSome = true
  · rw [if_pos h, getO_map O j i l h]
  · rw [if_neg h, getO_app O j i l (by simpa using h)]
theorem put_len (O : Ow) (j : Nat) (l : List Nat) : (putO1 O j l).length ≤ O.length + 1 := by
  unfold putO1
  split
  · rw [List.length_map]; omega
  · rw [List.length_append]; exact Nat.le_refl _
theorem encO_scal (O : Ow) : ((encO O).all fun p => scalK p.1) = true := by
  unfold encO
  rw [List.all_map, List.all_eq_true]
  intro p _
  rfl
theorem encO_len (O : Ow) : (encO O).length = O.length := by unfold encO; rw [List.length_map]
/-- one tape takes one more sound -/
def addD' (O : Ow) (j k : Nat) : List (D × D) := encO (addO O j k)
theorem getK_ap (i : Nat) (f g : M D) (ρ : DE) : M.getK i f g ρ = (match dctAt ρ i with
  | some kvs0 => if (kvs0.all fun p => scalK p.1) = true then M.bind f (fun x => M.bind g fun y ρ2 => M.lift ((dctAt ρ2 i).bind fun kvs => if (scalK x && kvs.all fun p => scalK p.1) = true then some ((PD.getK kvs x).getD y) else none) ρ2) ρ else .bad
  | none => .bad) := rfl
theorem own_eval (O1 O2 : List (D × D)) (NL : List D) (k : Int) (j : Nat) (a0 a1 a2 a3 a6 a7 a8 a9 : Option LV) (hs : (O1.all fun p => scalK p.1) = true) (hg : (getK O1 (.int (j : Nat))).getD (.list []) = .list NL) (hn : NL.length ≤ 1000) (ho : O1.length ≤ 10000)
    (hp : putKD O1 (.int (j : Nat)) (.list (NL ++ [.int k])) = O2) :
    B_f_law_harms_2 [a0, a1, a2, a3, some (.dct O1), some (.d (.int k)), a6, a7, a8, a9, some (.d (.int (j : Nat)))] = .nx [a0, a1, a2, a3, some (.dct O2), some (.d (.int k)), a6, a7, a8, a9, some (.d (.int (j : Nat)))] := by
  have c1 : NL.length + 1 ≤ sizeLine := by rw [sizeLine_eq]; omega
  have c2 : O1.length < sizeLine := by rw [sizeLine_eq]; omega
  have ok : okKey O1 (.int (j : Nat)) = true := by
    unfold okKey
    rw [hs]
    rfl
  have sk : scalK (.int (j : Nat)) = true := rfl
  unfold B_f_law_harms_2
  simp_arith only [getK_ap, hs, sk, hg, c1, setKO, ok, c2, hp]
theorem own_turn (O : Ow) (k j : Nat) (hn : ((getO O j).getD []).length ≤ 1000) (ho : O.length ≤ 10000) (a0 a1 a2 a3 a6 a7 a8 a9 : Option LV) :
    B_f_law_harms_2 [a0, a1, a2, a3, some (.dct (encO O)), some (.d (.int (k : Nat))), a6, a7, a8, a9, some (.d (.int (j : Nat)))] = .nx [a0, a1, a2, a3, some (.dct (encO (addO O j k))), some (.d (.int (k : Nat))), a6, a7, a8, a9, some (.d (.int (j : Nat)))] := by
  refine own_eval (encO O) _ (((getO O j).getD []).map fun k : Nat => PyData.int (k : Int)) k j a0 a1 a2 a3 a6 a7 a8 a9 (encO_scal O) ?_ (by rw [List.length_map]; exact hn) (by rw [encO_len]; exact ho) ?_
  · rw [getO_enc]
    cases getO O j <;> rfl
  · have := putO_enc O j ((getO O j).getD [] ++ [k])
    have e : numsD ((getO O j).getD [] ++ [k]) = .list (((getO O j).getD []).map (fun k : Nat => PyData.int (k : Int)) ++ [.int (k : Nat)]) := by
      unfold numsD
      rw [List.map_append]
      rfl
    rw [← e]
    exact this
/-- some tapes take one more sound -/
def addAll (O : Ow) (k : Nat) (js : List Nat) : Ow := js.foldl (fun O j => addO O j k) O
theorem addAll_snoc (O : Ow) (k : Nat) (js : List Nat) (j : Nat) : addAll O k (js ++ [j]) = addO (addAll O k js) j k := by
  unfold addAll
  rw [List.foldl_append]
  rfl
theorem addAll_len (O : Ow) (k : Nat) (js : List Nat) : (addAll O k js).length ≤ O.length + js.length := by
  induction js generalizing O with
  | nil => exact Nat.le_refl _
  | cons j js ih =>
    have h := put_len O j ((getO O j).getD [] ++ [k])
    have h2 := ih (addO O j k)
    show (addAll (addO O j k) k js).length ≤ _
    unfold addO at h2 ⊢
    rw [List.length_cons]
    omega
theorem addAll_get (k : Nat) : ∀ (js : List Nat) (O : Ow) (i : Nat), js.Nodup → (getO (addAll O k js) i).getD [] = if i ∈ js then (getO O i).getD [] ++ [k] else (getO O i).getD []
  | [], O, i, _ => by simp [addAll]
  | j :: js, O, i, nd => by
    have nd0 := List.nodup_cons.mp nd
    show (getO (addAll (addO O j k) k js) i).getD [] = _
    rw [addAll_get k js _ i nd0.2]
    unfold addO
    rw [getO_put]
    by_cases h : i = j
    · subst h
      rw [if_neg nd0.1, if_pos rfl, if_pos List.mem_cons_self]
      rfl
    · rw [if_neg h]
      by_cases h2 : i ∈ js
      · rw [if_pos h2, if_pos (List.mem_cons_of_mem _ h2)]
      · rw [if_neg h2, if_neg (by rw [List.mem_cons]; rintro (z | z); exact h z; exact h2 z)]
theorem own_loop (O : Ow) (k : Nat) (js : List Nat) (nd : js.Nodup) (hj : js.length ≤ 100) (hn : ∀ i, ((getO O i).getD []).length ≤ 900) (ho : O.length ≤ 9000) (a0 a1 a2 a3 a6 a7 a8 a9 a10 : Option LV) : ∃ b10,
    forD (G.nm 10) B_f_law_harms_2 (js.map fun j : Nat => PyData.int (j : Int)) [a0, a1, a2, a3, some (.dct (encO O)), some (.d (.int (k : Nat))), a6, a7, a8, a9, a10] = .nx [a0, a1, a2, a3, some (.dct (encO (addAll O k js))), some (.d (.int (k : Nat))), a6, a7, a8, a9, b10] ∧ (isOwnL (some a10) = false → isOwnL (some b10) = false) := by
  obtain ⟨ρ', e1, b10, h10, e2⟩ := forD_invN (G := G.nm 10) (g := B_f_law_harms_2) (fun i ρ => ∃ b10, (isOwnL (some a10) = false → isOwnL (some b10) = false) ∧ ρ = [a0, a1, a2, a3, some (.dct (encO (addAll O k (js.take i)))), some (.d (.int (k : Nat))), a6, a7, a8, a9, b10]) (js.map fun j : Nat => PyData.int (j : Int))
    [a0, a1, a2, a3, some (.dct (encO O)), some (.d (.int (k : Nat))), a6, a7, a8, a9, a10] ⟨a10, fun h => h, by rw [List.take_zero]; rfl⟩ (fun i x ρ hx ⟨b10, _, e⟩ => by
    subst e
    rw [List.getElem?_map] at hx
    cases hq : js[i]? with
    | none => rw [hq] at hx; cases hx
    | some j =>
      rw [hq] at hx
      cases hx
      refine ⟨_, rfl, ?_⟩
      have h1 := addAll_get k (js.take i) O j (nd.sublist (List.take_sublist _ _))
      have h2 := addAll_len O k (js.take i)
      have h3 : (js.take i).length ≤ js.length := by rw [List.length_take]; omega
      have e3 := own_turn (addAll O k (js.take i)) k j (by
        rw [h1]
        have := hn j
        split
        · rw [List.length_append]; show _ + 1 ≤ _; omega
        · omega) (by omega) a0 a1 a2 a3 a6 a7 a8 a9
      rw [← addAll_snoc] at e3
      have et : js.take (i + 1) = js.take i ++ [j] := by rw [List.take_add_one, hq]; rfl
      rw [et]
      show StepR _ _ (B_f_law_harms_2 [a0, a1, a2, a3, some (.dct (encO (addAll O k (js.take i)))), some (.d (.int (k : Nat))), a6, a7, a8, a9, some (.d (.int (j : Nat)))])
      rw [e3]
      exact ⟨_, fun _ => rfl, rfl⟩)
  rw [e2, List.length_map, List.take_length] at e1
  exact ⟨b10, e1, h10⟩
/-! ### one sound -/
def rep1 (b : Bool) (x : Str) : List D := if b = true then [PyData.str x] else []
theorem rep1_len (b : Bool) (x : Str) : (rep1 b x).length ≤ 1 := by unfold rep1; split <;> simp
theorem hl_eval (A0 A1 : D) (MK FL : List D) (O O2 : List (D × D)) (k b e : Int) (X Y0 Y : List D) (a8 a9 a10 b10 : Option LV) (h10 : isOwnL (some a10) = false) (hF : FL.length ≤ 900) (em d0 d1 : Bool) (D0 D1 : D)
    (cut : cutD MK (some b) (some (e + 1)) = X)
    (k1 : lcLoop [10] (G.nm 10) T_f_law_harms_3 E_f_law_harms_3 X [] [some (.d A0), some (.d A1), some (.d (.list MK)), some (.d (.list FL)), some (.dct O), some (.d (.int k)), some (.d (.int b)), some (.d (.int e)), some (.d (.list X)), a9, none] = .ok Y0 [some (.d A0), some (.d A1), some (.d (.list MK)), some (.d (.list FL)), some (.dct O), some (.d (.int k)), some (.d (.int b)), some (.d (.int e)), some (.d (.list X)), a9, none])
    (ss : sortsetD (.list Y0) = some Y)
    (k2 : forD (G.nm 10) B_f_law_harms_2 Y [some (.d A0), some (.d A1), some (.d (.list MK)), some (.d (.list FL)), some (.dct O), some (.d (.int k)), some (.d (.int b)), some (.d (.int e)), some (.d (.list X)), some (.d (.list Y)), a10] = .nx [some (.d A0), some (.d A1), some (.d (.list MK)), some (.d (.list FL)), some (.dct O2), some (.d (.int k)), some (.d (.int b)), some (.d (.int e)), some (.d (.list X)), some (.d (.list Y)), b10])
    (em' : eqD (.list Y) (.list []) = some em) (x0 : atI X 0 = some D0) (x1 : atI X (-1) = some D1) (n0 : isNoneB D0 = d0) (n1 : isNoneB D1 = d1) :
    B_f_law_harms_1 [some (.d A0), some (.d A1), some (.d (.list MK)), some (.d (.list FL)), some (.dct O), some (.d (.int k)), some (.d (.int b)), some (.d (.int e)), a8, a9, a10] =
      .nx [some (.d A0), some (.d A1), some (.d (.list MK)), some (.d (.list (FL ++ rep1 em ("lost" : Str) ++ rep1 (decide (1 < Y.length)) ("parted" : Str) ++ rep1 (!em && d0) ("late" : Str) ++ rep1 (!em && d1) ("early" : Str)))), some (.dct O2), some (.d (.int k)), some (.d (.int b)), some (.d (.int e)), some (.d (.list X)), some (.d (.list Y)), b10] := by
  have ed : decide ((1 : Int) < (Y.length : Int)) = decide (1 < Y.length) := decide_eq_decide.mpr (by omega)
  have r1 : repO [.str ("lost" : Str)] (.int (if em = true then 1 else 0)) = some (rep1 em ("lost" : Str)) := rep01 _ _
  have r2 : repO [.str ("parted" : Str)] (.int (if decide (1 < Y.length) = true then 1 else 0)) = some (rep1 (decide (1 < Y.length)) ("parted" : Str)) := rep01 _ _
  have r3 : ∀ q, repO [.str ("late" : Str)] (.int (if q = true then 1 else 0)) = some (rep1 q ("late" : Str)) := fun q => rep01 _ _
  have r4 : ∀ q, repO [.str ("early" : Str)] (.int (if q = true then 1 else 0)) = some (rep1 q ("early" : Str)) := fun q => rep01 _ _
  generalize decide (1 < Y.length) = bp at *
  have g1 := rep1_len em ("lost" : Str)
  have g2 := rep1_len bp ("parted" : Str)
  have g3 := rep1_len (!em && d0) ("late" : Str)
  have g4 := rep1_len (!em && d1) ("early" : Str)
  have r3a := r3 false
  have r4a := r4 false
  have r3b := r3 d0
  have r4b := r4 d1
  have r0 : ((if False then 1 else 0 : Int)) = 0 := rfl
  simp only [Bool.false_eq_true, if_false] at r3a r4a
  cases em with
  | true =>
    simp only [Bool.not_true, Bool.false_and] at g3 g4 ⊢
    simp only [if_true] at r1
    generalize rep1 true ("lost" : Str) = L1 at *
    generalize rep1 bp ("parted" : Str) = L2 at *
    generalize rep1 false ("late" : Str) = L3 at *
    generalize rep1 false ("early" : Str) = L4 at *
    have k3 : FL.length + L1.length ≤ sizeLine := by rw [sizeLine_eq]; omega
    have k4 : (FL ++ L1).length + L2.length ≤ sizeLine := by rw [List.length_append, sizeLine_eq]; omega
    have k5 : (FL ++ L1 ++ L2).length + L3.length ≤ sizeLine := by rw [List.length_append, List.length_append, sizeLine_eq]; omega
    have k6 : (FL ++ L1 ++ L2 ++ L3).length + L4.length ≤ sizeLine := by rw [List.length_append, List.length_append, List.length_append, sizeLine_eq]; omega
    unfold B_f_law_harms_1
    simp_arith only [sliceL_ap', cut, h10, k1, sortset_ap, ss, k2, em', r1, ed, r2, r3a, r4a, x0, x1, k3, k4, k5, k6]
  | false =>
    simp only [Bool.not_false, Bool.true_and] at g3 g4 ⊢
    simp only [Bool.false_eq_true, if_false] at r1
    generalize rep1 false ("lost" : Str) = L1 at *
    generalize rep1 bp ("parted" : Str) = L2 at *
    generalize rep1 d0 ("late" : Str) = L3 at *
    generalize rep1 d1 ("early" : Str) = L4 at *
    have k3 : FL.length + L1.length ≤ sizeLine := by rw [sizeLine_eq]; omega
    have k4 : (FL ++ L1).length + L2.length ≤ sizeLine := by rw [List.length_append, sizeLine_eq]; omega
    have k5 : (FL ++ L1 ++ L2).length + L3.length ≤ sizeLine := by rw [List.length_append, List.length_append, sizeLine_eq]; omega
    have k6 : (FL ++ L1 ++ L2 ++ L3).length + L4.length ≤ sizeLine := by rw [List.length_append, List.length_append, List.length_append, sizeLine_eq]; omega
    unfold B_f_law_harms_1
    simp_arith only [sliceL_ap', cut, h10, k1, sortset_ap, ss, k2, em', r1, ed, r2, r3b, r4b, x0, x1, n0, n1, k3, k4, k5, k6]
end K2

set_option maxRecDepth 100000
set_option maxHeartbeats 4000000
set_option synthInstance.maxSize 8000
set_option synthInstance.maxHeartbeats 400000
namespace K2
open PySem PySem.Spec L2 PD
/-! ### marks, told over places -/
def Apart (T : List Tp) : Prop := (∀ p ∈ T, 0 ≤ p.1 ∧ p.1 ≤ p.2 ∧ p.2 ≤ 1000) ∧ T.Pairwise fun p q => p.2 < q.1
theorem apart_ix {T : List Tp} (h : Apart T) {t : Int} {i j : Nat} {p q : Tp} (hi : T[i]? = some p) (hj : T[j]? = some q) (h1 : inB t p = true) (h2 : inB t q = true) : i = j := by
  have lt : ∀ {i j : Nat} {p q : Tp}, T[i]? = some p → T[j]? = some q → i < j → p.2 < q.1 := fun {i j p q} hi hj hlt => by
    obtain ⟨a1, a2⟩ := List.getElem?_eq_some_iff.mp hi
    obtain ⟨b1, b2⟩ := List.getElem?_eq_some_iff.mp hj
    have := List.pairwise_iff_getElem.mp h.2 i j a1 b1 hlt
    rw [a2, b2] at this
    exact this
  unfold inB at h1 h2
  rw [Bool.and_eq_true, decide_eq_true_eq, decide_eq_true_eq] at h1 h2
  by_cases h3 : i < j
  · have := lt hi hj h3; omega
  · by_cases h4 : j < i
    · have := lt hj hi h4; omega
    · omega
theorem mark_iff {T : List Tp} (h : Apart T) (t j : Nat) : ∀ k, markU T k t = some j ↔ j < k ∧ ∃ p, T[j]? = some p ∧ inB (t : Int) p = true
  | 0 => by
    constructor
    · intro e; cases e
    · rintro ⟨e, _⟩; omega
  | k + 1 => by
    have ih := mark_iff h t j k
    show (match T[k]? with | some p => putMk k p (markU T k) | none => markU T k) t = some j ↔ _
    cases hk : T[k]? with
    | none =>
      show markU T k t = some j ↔ _
      rw [ih]
      constructor
      · rintro ⟨a, b⟩; exact ⟨by omega, b⟩
      · rintro ⟨a, p, b, c⟩
        refine ⟨?_, p, b, c⟩
        by_cases q : j = k
        · rw [q, hk] at b; cases b
        · omega
    | some p =>
      show (if inB (t : Int) p = true then some k else markU T k t) = some j ↔ _
      by_cases hp : inB (t : Int) p = true
      · rw [if_pos hp]
        constructor
        · intro e; cases e; exact ⟨Nat.lt_succ_self _, p, hk, hp⟩
        · rintro ⟨_, q, b, c⟩; rw [apart_ix h hk b hp c]
      · rw [if_neg hp, ih]
        constructor
        · rintro ⟨a, b⟩; exact ⟨by omega, b⟩
        · rintro ⟨a, q, b, c⟩
          refine ⟨?_, q, b, c⟩
          by_cases e : j = k
          · rw [e, hk] at b; cases b; exact absurd c hp
          · omega
theorem mark_all {T : List Tp} (h : Apart T) (t j : Nat) : markU T T.length t = some j ↔ ∃ p, T[j]? = some p ∧ inB (t : Int) p = true := by
  rw [mark_iff h]
  exact ⟨fun z => z.2, fun ⟨p, a, b⟩ => ⟨(List.getElem?_eq_some_iff.mp a).1, p, a, b⟩⟩
theorem mark_none {T : List Tp} (h : Apart T) (t : Nat) : (markU T T.length t).isNone = !T.any (inB (t : Int)) := by
  cases e : markU T T.length t with
  | some j =>
    obtain ⟨p, a, b⟩ := (mark_all h t j).mp e
    have : T.any (inB (t : Int)) = true := List.any_eq_true.mpr ⟨p, List.mem_of_getElem? a, b⟩
    rw [this]; rfl
  | none =>
    have : T.any (inB (t : Int)) = false := by
      cases q : T.any (inB (t : Int)) with
      | false => rfl
      | true =>
        obtain ⟨p, a, b⟩ := List.any_eq_true.mp q
        obtain ⟨j, hj⟩ := List.getElem?_of_mem a
        rw [(mark_all h t j).mpr ⟨p, hj, b⟩] at e
        cases e
    rw [this]; rfl
/-- a sound: its ticks -/
structure IsSnd (n : Nat) (s : Tp) (b e : Nat) : Prop where
  eq : s = ((b : Int), (e : Int))
  le : b ≤ e
  lt : e < n
theorem snd_mem (f : Nat → Bool) : ∀ (t : Nat), ∀ s ∈ Snd f t, ∃ b e, IsSnd t s b e
  | 0, s, h => by cases h
  | t + 1, s, h => by
    have ih := snd_mem f t
    have old : s ∈ Snd f t → ∃ b e, IsSnd (t + 1) s b e := fun h => by
      obtain ⟨b, e, h1⟩ := ih s h
      exact ⟨b, e, h1.eq, h1.le, Nat.lt_succ_of_lt h1.lt⟩
    have h : s ∈ (if f t = true then (if 0 < t ∧ f (t - 1) = true then (Snd f t).dropLast ++ [(((Snd f t).getLast?.getD (0, 0)).1, (t : Int))] else Snd f t ++ [((t : Int), (t : Int))]) else Snd f t) := h
    split at h
    · split at h
      · rename_i h2
        rcases List.mem_append.mp h with h | h
        · exact old ((List.dropLast_sublist _).subset h)
        · rw [List.mem_singleton] at h
          have hne := snd_ne f h2.1 h2.2
          rw [List.getLast?_eq_some_getLast hne] at h
          obtain ⟨b, e, h1⟩ := ih _ (List.getLast_mem hne)
          have hl := h1.le
          have ht := h1.lt
          refine ⟨b, t, ?_, by omega, by omega⟩
          rw [h]
          show (((Snd f t).getLast hne).1, (t : Int)) = _
          rw [h1.eq]
      · rcases List.mem_append.mp h with h | h
        · exact old h
        · rw [List.mem_singleton] at h
          exact ⟨t, t, h, Nat.le_refl _, Nat.lt_succ_self _⟩
    · exact old h
theorem tapes_len (r : Rec) (l : List Bool) : (tapesOf r l).length ≤ l.length + 1 := by
  have h := recs_len r (rowF l) l.length
  unfold tapesOf adjR
  split
  · rw [List.length_append, List.length_dropLast]; show _ + 1 ≤ _; omega
  · omega
/-! ### the tapes that a sound meets, by their numbers -/
def atP (p : Tp → Bool) (T : List Tp) (j : Nat) : Bool := match T[j]? with
  | some q => p q
  | none => false
def nums (p : Tp → Bool) (T : List Tp) : List Nat := (List.range T.length).filter (atP p T)
theorem nums_len (p : Tp → Bool) (T : List Tp) : (nums p T).length = (T.filter p).length := by
  have key : ∀ n, n ≤ T.length → ((List.range n).filter (atP p T)).length = ((T.take n).filter p).length := by
    intro n
    induction n with
    | zero => intro _; rfl
    | succ n ih =>
      intro h
      have hn : T[n]? = some T[n] := List.getElem?_eq_getElem h
      rw [filt_snoc, List.length_append, ih (by omega), List.take_add_one, hn, List.filter_append, List.length_append]
      congr 1
      have e : atP p T n = p T[n] := by unfold atP; rw [hn]
      rw [e]
      show _ = (List.filter p [T[n]]).length
      cases q : p T[n] with
      | true => rw [List.filter_cons_of_pos q]; rfl
      | false => rw [List.filter_cons_of_neg (by rw [q]; decide)]; rfl
  have := key T.length (Nat.le_refl _)
  rw [List.take_length] at this
  exact this
theorem nums_mem {p : Tp → Bool} {T : List Tp} {j : Nat} : j ∈ nums p T ↔ ∃ q, T[j]? = some q ∧ p q = true := by
  unfold nums
  rw [List.mem_filter, List.mem_range]
  unfold atP
  constructor
  · rintro ⟨a, b⟩
    rw [List.getElem?_eq_getElem a] at b ⊢
    exact ⟨_, rfl, b⟩
  · rintro ⟨q, a, b⟩
    rw [a]
    exact ⟨(List.getElem?_eq_some_iff.mp a).1, b⟩
theorem nums_asc (p : Tp → Bool) (T : List Tp) : (nums p T).Pairwise fun a b => a < b := List.Pairwise.filter _ (List.pairwise_lt_range)
theorem nums_nodup (p : Tp → Bool) (T : List Tp) : (nums p T).Nodup := List.Pairwise.imp (fun h e => by omega) (nums_asc p T)
/-- the marks of a sound's ticks -/
def valsOf (m : Nat → Option Nat) (b w : Nat) : List Nat := (List.range' b w).filterMap m
theorem meet_tick {n : Nat} {s p : Tp} {b e : Nat} (hs : IsSnd n s b e) (hp : 0 ≤ p.1 ∧ p.1 ≤ p.2 ∧ p.2 ≤ 1000) : meetB p s = true ↔ ∃ t : Nat, b ≤ t ∧ t ≤ e ∧ inB (t : Int) p = true := by
  have hle := hs.le
  unfold meetB inB
  rw [hs.eq, Bool.and_eq_true, decide_eq_true_eq, decide_eq_true_eq]
  dsimp only
  constructor
  · rintro ⟨h1, h2⟩
    by_cases h : (b : Int) ≤ p.1
    · exact ⟨p.1.toNat, by omega, by omega, by rw [Bool.and_eq_true, decide_eq_true_eq, decide_eq_true_eq]; omega⟩
    · exact ⟨b, Nat.le_refl _, hle, by rw [Bool.and_eq_true, decide_eq_true_eq, decide_eq_true_eq]; omega⟩
  · rintro ⟨t, h1, h2, h3⟩
    rw [Bool.and_eq_true, decide_eq_true_eq, decide_eq_true_eq] at h3
    omega
theorem vals_nums {T : List Tp} (h : Apart T) {n : Nat} {s : Tp} {b e : Nat} (hs : IsSnd n s b e) (j : Nat) : j ∈ valsOf (markU T T.length) b (e + 1 - b) ↔ j ∈ nums (fun p => meetB p s) T := by
  rw [nums_mem]
  unfold valsOf
  rw [List.mem_filterMap]
  constructor
  · rintro ⟨t, h1, h2⟩
    rw [List.mem_range'_1] at h1
    obtain ⟨p, a, c⟩ := (mark_all h t j).mp h2
    exact ⟨p, a, (meet_tick hs (h.1 p (List.mem_of_getElem? a))).mpr ⟨t, h1.1, by omega, c⟩⟩
  · rintro ⟨p, a, c⟩
    obtain ⟨t, h1, h2, h3⟩ := (meet_tick hs (h.1 p (List.mem_of_getElem? a))).mp c
    exact ⟨t, by rw [List.mem_range'_1]; omega, (mark_all h t j).mpr ⟨p, a, h3⟩⟩
theorem asc_vals {T : List Tp} (h : Apart T) {n : Nat} {s : Tp} {b e : Nat} (hs : IsSnd n s b e) : ascA liI ((valsOf (markU T T.length) b (e + 1 - b)).map fun j : Nat => (j : Int)) = (nums (fun p => meetB p s) T).map fun j : Nat => (j : Int) := by
  refine asc_uniq slin_I (ascA_asc slin_I _) ?_ fun z => ?_
  · refine List.Pairwise.map _ (fun a b h => ?_) (nums_asc _ T)
    unfold liI
    rw [decide_eq_true_eq]
    omega
  · rw [mem_ascA, List.mem_map, List.mem_map]
    constructor
    · rintro ⟨j, a, c⟩; exact ⟨j, (vals_nums h hs j).mp a, c⟩
    · rintro ⟨j, a, c⟩; exact ⟨j, (vals_nums h hs j).mpr a, c⟩
theorem ksI_map (ns : List Int) : ksI (ns.map .int) = some ns := by
  induction ns with
  | nil => rfl
  | cons n ns ih => show (ksI (ns.map .int)).map (n :: ·) = _; rw [ih]; rfl
theorem ksS_map (ns : List Str) : ksS (ns.map .str) = some ns := by
  induction ns with
  | nil => rfl
  | cons n ns ih => show (ksS (ns.map .str)).map (n :: ·) = _; rw [ih]; rfl
theorem sortset_ints (ns : List Int) (h1 : ns.length < 1000) (h2 : (ascA liI ns).length < 64) : sortsetD (.list (ns.map .int)) = some ((ascA liI ns).map .int) := by
  show sortsetL _ = _
  unfold sortsetL
  rw [List.length_map, if_pos h1, ksI_map]
  simp only
  rw [if_pos h2]
theorem sortset_strs (ns : List Str) (h1 : ns.length < 1000) (h2 : (ascA liS ns).length < 64) : sortsetD (.list (ns.map .str)) = some ((ascA liS ns).map .str) := by
  show sortsetL _ = _
  unfold sortsetL
  rw [List.length_map, if_pos h1]
  cases ns with
  | nil => rfl
  | cons n ns =>
    have e : ksI ((n :: ns).map PyData.str) = none := rfl
    rw [e, ksS_map]
    simp only [Option.bind_some]
    rw [if_pos h2]
/-- the marks of a sound's ticks, as a list -/
theorem marks_cut {n : Nat} (m : Nat → Option Nat) {s : Tp} {b e : Nat} (hs : IsSnd n s b e) : cutD (marksD n m) (some (b : Int)) (some ((e : Int) + 1)) = (List.range' b (e + 1 - b)).map fun t => encMk (m t) := by
  have hle := hs.le
  have hlt := hs.lt
  rw [cut_ft (a := b) (b := e + 1) rfl (by omega)]
  unfold marksD
  rw [← List.map_drop, ← List.map_take]
  congr 1
  refine List.ext_getElem? fun i => ?_
  rw [List.getElem?_take, List.getElem?_drop]
  by_cases hi : i < e + 1 - b
  · rw [if_pos hi, List.getElem?_range (by omega), List.getElem?_range' hi, Nat.one_mul]
  · rw [if_neg hi, List.getElem?_eq_none (by rw [List.length_range']; omega)]
theorem marks_first {n : Nat} (m : Nat → Option Nat) {s : Tp} {b e : Nat} (hs : IsSnd n s b e) : atI ((List.range' b (e + 1 - b)).map fun t => encMk (m t)) 0 = some (encMk (m b)) := by
  have hle := hs.le
  refine atI_nat (j := 0) ?_
  rw [List.getElem?_map, List.getElem?_range' (by omega)]
  rfl
theorem marks_last {n : Nat} (m : Nat → Option Nat) {s : Tp} {b e : Nat} (hs : IsSnd n s b e) : atI ((List.range' b (e + 1 - b)).map fun t => encMk (m t)) (-1) = some (encMk (m e)) := by
  have hle := hs.le
  have e1 : (List.range' b (e + 1 - b)).map (fun t => encMk (m t)) = (List.range' b (e - b)).map (fun t => encMk (m t)) ++ [encMk (m e)] := by
    rw [show e + 1 - b = (e - b) + 1 by omega, List.range'_concat, List.map_append, List.map_cons, List.map_nil, show b + 1 * (e - b) = e by omega]
  rw [e1, atI_snoc]
theorem none_mk (o : Option Nat) : isNoneB (encMk o) = o.isNone := by cases o <;> rfl
theorem filt_mk (m : Nat → Option Nat) : ∀ L : List Nat, (L.map fun t => encMk (m t)).filter (fun d => !isNoneB d) = (L.filterMap m).map fun j : Nat => PyData.int (j : Int)
  | [] => rfl
  | t :: L => by
    rw [List.map_cons]
    cases e : m t with
    | none => rw [List.filter_cons_of_neg (by show ¬ (!true) = true; decide), List.filterMap_cons_none e, filt_mk m L]
    | some j => rw [List.filter_cons_of_pos (by rfl), List.filterMap_cons_some e, filt_mk m L]; rfl
end K2

set_option maxRecDepth 100000
set_option maxHeartbeats 4000000
set_option synthInstance.maxSize 8000
set_option synthInstance.maxHeartbeats 400000
namespace K2
open PySem PySem.Spec L2 PD
local macro_rules
  | `(tactic| simp_arith only [$a,*]) => `(tactic| simp only [ret_ap, lift_some, lift_none, var_ap, varR_d, ownAt_ap, ownL_own, ownL_d, ownL_n, frzAt_ap, frzL_own, frzL_d, frz_nil, frz_cons, frz1_own, frz1_d, frz1_n, wipe_nil, wipe_cons, restore_nil, restore_cons, clean_nil, clean_cons, isOwnL_own, isOwnL_d, isOwnL_k, frz1_k, frzL_k, ownL_k, isOwnL_n, bind_ap, bindR_ok, bindR_ex, bindR_bad, ofM_ap, ofR_ok, ofR_ex, ofR_bad, seq_ap, seqR_nx, seqR_rt, seqR_rl, seqR_bk, seqR_ct, seqR_ex, seqR_bad, nil_ap, pass_ap, never_ap, brk_ap, cnt_ap, retN_ap, sret_ap, sretL_ap, drop_ap, site_ap, asg_ap, own_ap, par2_ap, par3_ap, asgT_ap, asgR_some, asgR_none, gnm_ap, gnil_ap, gcons_ap, gtup_ap, andV_ap, orV_ap, andT_ap, orT_ap, notT_ap, test_ap, op1_ap, op2_ap, chain_ap, mite_ap, ite_apR, ite_apS, argN_ap, argD_ap, argS_ap, slotR_some, tup_ap, lst_ap, known_ap, call_ap, callL_ap, listL_ap, seqOf_l, seqOf_t, items_ap, part_ap, slice_ap, catL_ap, frz_ap, borrow_ap, borrowR_ok, borrowT_ap, borrowTR_ok, subO_ap, app_ap, setIx_ap, retO_ap, for_ap, lc_ap, lcR_ok, fn_ap, fnL_ap, fnR_some, fnLR_some, retR_ret, retR_retL, retLR_retL, putR_some, putO_none, putO_s0, putO_s1, putO_s2, putO_s3, putO_s4, endR_rt, endR_rl, endR_nx, endR_bad, bindR_ite, ofR_ite, seqR_ite, endR_ite, lift_ite, pop_ap, popR_snoc, dctAt_ap, dctL_k, dctL_o, dctL_d, dctL_n, inK_ap, subK_ap, slotKR_some, setK_ap, slotKF_some, setKR_some, parN_ap, parR_ok, setN_nil, setN_cons, nC_ap, nL_ap, nD_ap, dict1_ap, new_ap, repL_ap, addD_ii, addD_ss, addD_tt, subD_ii, mulD_ii, fdivD_ii, modD_ii, powD_ii, negD_i, ltD_ii, leD_ii, gtD_ii, geD_ii, ixD_l, ixD_t, catD_ll, itemsD_l, itemsD_t, lenD_l, lenD_t, lenD_s, absD_i, maxD_ii, minD_ii, intD_i, intD_b, tupleD_l, tupleD_t, notD_b, asB_b, asI_i, eqD_ii, eqD_ss, eqD_bb, eqD_si, eqD_is, eqD_nn, eqD_nb, eqD_ni, eqD_ns, eqD_bn, eqD_in, eqD_sn, tInt_none, tInt_bool, tInt_int, tInt_str, tInt_tuple, tInt_list, tInt_dict, tBool_none, tBool_bool, tBool_int, tBool_str, tBool_tuple, tBool_list, tBool_dict, tStr_none, tStr_bool, tStr_int, tStr_str, tStr_tuple, tStr_list, tStr_dict, tTuple_none, tTuple_bool, tTuple_int, tTuple_str, tTuple_tuple, tTuple_list, tTuple_dict, tList_none, tList_bool, tList_int, tList_str, tList_tuple, tList_list, tList_dict, tSeq_none, tSeq_bool, tSeq_int, tSeq_str, tSeq_tuple, tSeq_list, tSeq_dict, isNoneB_none, scalarD_none, isNoneB_bool, scalarD_bool, isNoneB_int, scalarD_int, isNoneB_str, scalarD_str, isNoneB_tuple, scalarD_tuple, isNoneB_list, scalarD_list, isNoneB_dict, scalarD_dict, ixT0, ixT1, ixT2, ixT3, ixT4, ixT5, ixT6, ixT7, ixT8, ixT9, ixL0, ixL1, ixL2, ixL3, ixL4, ixL5, ixL6, ixL7, ixL8, ixL9, aI0, aI1, aI2, aI3, aI4, aI5, aI6, aI7, aI8, aI9, ixN1_0, ixN2_0, ixN2_1, ixN3_0, ixN3_1, ixN3_2, ixN4_0, ixN4_1, ixN4_2, ixN4_3, ixN5_0, ixN5_1, ixN5_2, ixN5_3, ixN5_4, ixN6_0, ixN6_1, ixN6_2, ixN6_3, ixN6_4, ixN6_5, List.map_cons, List.map_nil, List.cons_append, List.nil_append, List.replicate_zero, List.replicate_succ, List.length_cons, List.length_nil, List.getElem?_cons_zero, List.getElem?_cons_succ, List.set_cons_zero, List.set_cons_succ, List.getD_cons_zero, List.getD_cons_succ, Bool.and_true, Bool.true_and, Bool.not_false, Bool.not_true, Nat.sub_self, Nat.reduceSub, Nat.reduceAdd, Nat.zero_add, true_and, and_true, and_self, if_true, if_false, ite_true, ite_false, reduceCtorEq, false_implies, implies_true, forall_const, Bool.false_eq_true, Option.bind_some, Option.map_some, Option.bind_none, Option.map_none, runF_eq, okIo, datOf, lvsOf, argIo, isD, outO, isND, notND, vals2D, vals3D, eqDD, neDD, decide_true, decide_false, Bool.decide_eq_true, sz0, sz1, sz2, sz3, sz4, sz5, sz6, sz7, sz8, sz9, sz10, sz11, sz12, sz13, sz14, sz15, sz16, sz17, sz18, sz19, sz20, sz21, sz22, sz23, sz24, sz25, sz26, sz27, sz28, sz29, sz30, sz31, sz32, sz33, sz34, sz35, sz36, sz37, sz38, sz39, sz40, slice_t, all_t, all_l, any_l, all_lm, all_tm, any_lm, Function.comp_def, step_nx, step_ct, step_bk, step_rt, step_rl, step_ite, decide_eq_true_eq, Int.cast_ofNat_Int, Int.reduceLE, Int.reduceLT, Int.reduceAdd, Int.reduceSub, Int.reduceMul, Int.reduceNeg, Int.reduceEq, Int.reduceGT, Nat.reduceEqDiff, ne_eq, not_false_eq_true, Option.some.injEq, forall_eq', Nat.reduceLT, Bool.and_false, Bool.or_false, Bool.false_or, Bool.true_or, Bool.false_and, Bool.or_true, $a,*])
/-! ### the law's harms of a row -/
theorem some_loop (m : Nat → Option Nat) (L : List Nat) (hL : L.length ≤ 1000) (a0 a1 a2 a3 a4 a5 a6 a7 a8 a9 : Option LV) : lcLoop [10] (G.nm 10) T_f_law_harms_3 E_f_law_harms_3 (L.map fun t => encMk (m t)) [] [a0, a1, a2, a3, a4, a5, a6, a7, a8, a9, none] =
    .ok ((L.filterMap m).map fun j : Nat => PyData.int (j : Int)) [a0, a1, a2, a3, a4, a5, a6, a7, a8, a9, none] := by
  rw [← filt_mk]
  refine lcLoop_filter (fun d => !isNoneB d) _ (by rw [List.length_map, sizeLine_eq]; omega) fun x hx => ?_
  obtain ⟨t, _, rfl⟩ := List.mem_map.mp hx
  refine ⟨[a0, a1, a2, a3, a4, a5, a6, a7, a8, a9, some (.d (encMk (m t)))], [a0, a1, a2, a3, a4, a5, a6, a7, a8, a9, some (.d (encMk (m t)))], rfl, ?_, fun _ => ⟨_, rfl, rfl⟩, fun _ => rfl⟩
  unfold T_f_law_harms_3
  generalize encMk (m t) = X
  simp_arith only [true_and]
def wordsL (T : List Tp) (s : Tp) : List Str := when (mineP T s).isEmpty (wS 3) ++ when (decide (1 < (mineP T s).length)) (wS 4) ++ when (!(mineP T s).isEmpty && !T.any (inB s.1)) (wS 2) ++ when (!(mineP T s).isEmpty && !T.any (inB s.2)) (wS 0)
theorem wordsL_map (T : List Tp) (s : Tp) : (wordsL T s).map PyData.str = rep1 (mineP T s).isEmpty ("lost" : Str) ++ rep1 (decide (1 < (mineP T s).length)) ("parted" : Str) ++ rep1 (!(mineP T s).isEmpty && !T.any (inB s.1)) ("late" : Str) ++ rep1 (!(mineP T s).isEmpty && !T.any (inB s.2)) ("early" : Str) := by
  unfold wordsL
  rw [List.map_append, List.map_append, List.map_append, when_map, when_map, when_map, when_map]
  rfl
theorem wordsL_len (T : List Tp) (s : Tp) : (wordsL T s).length ≤ 4 := by
  have h : ∀ b x, (when b x).length ≤ 1 := fun b x => by unfold when; split <;> simp
  unfold wordsL
  rw [List.length_append, List.length_append, List.length_append]
  have := h (mineP T s).isEmpty (wS 3)
  have := h (decide (1 < (mineP T s).length)) (wS 4)
  have := h (!(mineP T s).isEmpty && !T.any (inB s.1)) (wS 2)
  have := h (!(mineP T s).isEmpty && !T.any (inB s.2)) (wS 0)
  omega
theorem ints_empty (L : List Nat) : eqD (.list (L.map fun j : Nat => PyData.int (j : Int))) (.list []) = some L.isEmpty := by
  have h := eqD_lnil (n := 1) (xs := L.map fun j : Nat => PyData.int (j : Int)) (sh_lst (n := 0) fun x hx => by
    obtain ⟨p, _, rfl⟩ := List.mem_map.mp hx
    exact sh_int _) (by decide)
  rw [h]
  cases L <;> rfl
theorem isEmpty_len {α β : Type} {L : List α} {M : List β} (h : L.length = M.length) : L.isEmpty = M.isEmpty := by
  cases L <;> cases M <;> first | rfl | cases h
theorem hl_turn {T : List Tp} (hT : Apart T) (hT2 : T.length ≤ 61) {n : Nat} (hn : n ≤ 60) {s : Tp} {b e : Nat} (hs : IsSnd n s b e) (k : Nat) (O : Ow) (F : List Str) (hF : F.length ≤ 900) (hO1 : ∀ i, ((getO O i).getD []).length ≤ 900) (hO2 : O.length ≤ 9000) (A0 A1 : D) (a8 a9 a10 : Option LV) (h10 : isOwnL (some a10) = false) :
    ∃ b8 b9 b10, isOwnL (some b10) = false ∧ B_f_law_harms_1 [some (.d A0), some (.d A1), some (.d (.list (marksD n (markU T T.length)))), some (.d (.list (F.map .str))), some (.dct (encO O)), some (.d (.int (k : Nat))), some (.d (.int s.1)), some (.d (.int s.2)), a8, a9, a10] =
      .nx [some (.d A0), some (.d A1), some (.d (.list (marksD n (markU T T.length)))), some (.d (.list ((F ++ wordsL T s).map .str))), some (.dct (encO (addAll O k (nums (fun p => meetB p s) T)))), some (.d (.int (k : Nat))), some (.d (.int s.1)), some (.d (.int s.2)), b8, b9, b10] := by
  have hle := hs.le
  have hlt := hs.lt
  have e1 : s.1 = (b : Int) := by rw [hs.eq]
  have e2 : s.2 = (e : Int) := by rw [hs.eq]
  have nl : (nums (fun p => meetB p s) T).length = (mineP T s).length := nums_len _ T
  have ml : (mineP T s).length ≤ 61 := Nat.le_trans (List.length_filter_le _ _) hT2
  have av := asc_vals hT hs
  have vl : (valsOf (markU T T.length) b (e + 1 - b)).length ≤ 60 := by
    unfold valsOf
    have := List.length_filterMap_le (markU T T.length) (List.range' b (e + 1 - b))
    rw [List.length_range'] at this
    omega
  have ss : sortsetD (.list ((valsOf (markU T T.length) b (e + 1 - b)).map fun j : Nat => PyData.int (j : Int))) = some ((nums (fun p => meetB p s) T).map fun j : Nat => PyData.int (j : Int)) := by
    have := sortset_ints ((valsOf (markU T T.length) b (e + 1 - b)).map fun j : Nat => (j : Int)) (by rw [List.length_map]; omega) (by rw [av, List.length_map]; omega)
    rw [av, List.map_map, List.map_map] at this
    exact this
  have a10' : ∀ (Y : List D), ∃ b10, isOwnL (some b10) = false ∧ True := fun _ => ⟨none, rfl, trivial⟩
  obtain ⟨b10, k2, h10'⟩ := own_loop O k (nums (fun p => meetB p s) T) (nums_nodup _ T) (by omega) hO1 hO2 (some (.d A0)) (some (.d A1)) (some (.d (.list (marksD n (markU T T.length))))) (some (.d (.list (F.map .str)))) (some (.d (.int (b : Int)))) (some (.d (.int (e : Int))))
    (some (.d (.list ((List.range' b (e + 1 - b)).map fun t => encMk (markU T T.length t))))) (some (.d (.list ((nums (fun p => meetB p s) T).map fun j : Nat => PyData.int (j : Int))))) a10
  have main := hl_eval A0 A1 (marksD n (markU T T.length)) (F.map .str) (encO O) _ (k : Nat) (b : Int) (e : Int) _ _ _ a8 a9 a10 b10 h10 (by rw [List.length_map]; exact hF) _ _ _ _ _ (marks_cut _ hs) (some_loop _ _ (by rw [List.length_range']; omega) _ _ _ _ _ _ _ _ _ _) ss k2 (ints_empty _) (marks_first _ hs) (marks_last _ hs) (none_mk _) (none_mk _)
  rw [List.length_map, nl, isEmpty_len nl, mark_none hT, mark_none hT, ← e1, ← e2] at main
  have q : F.map PyData.str ++ rep1 (mineP T s).isEmpty ("lost" : Str) ++ rep1 (decide (1 < (mineP T s).length)) ("parted" : Str) ++ rep1 (!(mineP T s).isEmpty && !T.any (inB s.1)) ("late" : Str) ++ rep1 (!(mineP T s).isEmpty && !T.any (inB s.2)) ("early" : Str) = (F ++ wordsL T s).map PyData.str := by
    rw [List.map_append, wordsL_map]
    simp only [List.append_assoc]
  rw [q] at main
  exact ⟨_, _, b10, h10' h10, main⟩
/-- the numbers of the sounds that a tape meets, of the first k -/
def ownS (T S : List Tp) (k j : Nat) : List Nat := (List.range k).filter fun i => match T[j]?, S[i]? with
  | some t, some s => meetB t s
  | _, _ => false
theorem ownS_step (T S : List Tp) (k j : Nat) {s : Tp} (h : S[k]? = some s) : ownS T S (k + 1) j = if j ∈ nums (fun p => meetB p s) T then ownS T S k j ++ [k] else ownS T S k j := by
  unfold ownS
  rw [List.range_succ, List.filter_append]
  have e : (List.filter (fun i => match T[j]?, S[i]? with | some t, some s => meetB t s | _, _ => false) [k]) = if j ∈ nums (fun p => meetB p s) T then [k] else [] := by
    by_cases q : j ∈ nums (fun p => meetB p s) T
    · rw [if_pos q]
      obtain ⟨t, a, b⟩ := nums_mem.mp q
      rw [List.filter_cons_of_pos (by rw [a, h]; exact b)]
      rfl
    · rw [if_neg q, List.filter_cons_of_neg]
      · rfl
      · intro z
        apply q
        rw [h] at z
        cases a : T[j]? with
        | none => rw [a] at z; cases z
        | some t => rw [a] at z; exact nums_mem.mpr ⟨t, a, z⟩
  rw [e]
  split
  · rfl
  · rw [List.append_nil]
theorem ownS_len (T S : List Tp) (k j : Nat) : (ownS T S k j).length ≤ k := by
  have := List.length_filter_le (fun i => match T[j]?, S[i]? with | some t, some s => meetB t s | _, _ => false) (List.range k)
  rw [List.length_range] at this
  exact this
/-- the keys stay apart, and are tapes' numbers -/
structure OwOk (N : Nat) (O : Ow) : Prop where
  nd : (O.map (·.1)).Nodup
  lt : ∀ p ∈ O, p.1 < N
theorem getO_key {O : Ow} {j : Nat} : (getO O j).isSome = true ↔ j ∈ O.map (·.1) := by
  induction O with
  | nil => show false = true ↔ _; simp
  | cons p O ih =>
    show (if p.1 = j then some p.2 else getO O j).isSome = true ↔ _
    rw [List.map_cons, List.mem_cons]
    by_cases h : p.1 = j
    · rw [if_pos h]; exact ⟨fun _ => .inl h.symm, fun _ => rfl⟩
    · rw [if_neg h, ih]
      exact ⟨.inr, fun z => z.elim (fun z => absurd z.symm h) id⟩
theorem OwOk.put {N : Nat} {O : Ow} (h : OwOk N O) {j : Nat} (hj : j < N) (l : List Nat) : OwOk N (putO1 O j l) := by
  unfold putO1
  by_cases q : (getO O j).isSome = true
  · rw [if_pos q]
    have e : (O.map fun p => if p.1 = j then (p.1, l) else p).map (·.1) = O.map (·.1) := by
      rw [List.map_map]
      refine List.map_congr_left fun p _ => ?_
      show (if p.1 = j then (p.1, l) else p).1 = p.1
      split <;> rfl
    refine ⟨by rw [e]; exact h.nd, fun p hp => ?_⟩
    obtain ⟨p', h1, rfl⟩ := List.mem_map.mp hp
    show (if p'.1 = j then (p'.1, l) else p').1 < N
    split
    · show p'.1 < N; exact h.lt p' h1
    · exact h.lt p' h1
  · rw [if_neg q]
    refine ⟨?_, fun p hp => ?_⟩
    · rw [List.map_append, List.nodup_append]
      refine ⟨h.nd, by simp, fun a ha b hb e => ?_⟩
      rw [List.map_cons, List.map_nil, List.mem_singleton] at hb
      subst hb
      subst e
      exact q (getO_key.mpr ha)
    · rcases List.mem_append.mp hp with hp | hp
      · exact h.lt p hp
      · rw [List.mem_singleton.mp hp]; exact hj
theorem OwOk.all {N k : Nat} : ∀ {js : List Nat} {O : Ow}, OwOk N O → (∀ j ∈ js, j < N) → OwOk N (addAll O k js)
  | [], _, h, _ => h
  | j :: js, O, h, hj => OwOk.all (js := js) (h.put (hj j List.mem_cons_self) _) fun i hi => hj i (List.mem_cons_of_mem _ hi)
theorem OwOk.len {N : Nat} {O : Ow} (h : OwOk N O) : O.length ≤ N := by
  have p : (O.map (·.1)).Perm ((List.range N).filter fun j => decide (j ∈ O.map (·.1))) := (List.perm_ext_iff_of_nodup h.nd (List.Pairwise.filter _ List.nodup_range)).mpr fun j => by
    rw [List.mem_filter, List.mem_range, decide_eq_true_eq]
    refine ⟨fun hj => ⟨?_, hj⟩, fun hj => hj.2⟩
    obtain ⟨p, a, rfl⟩ := List.mem_map.mp hj
    exact h.lt p a
  have e := p.length_eq
  rw [List.length_map] at e
  have := List.length_filter_le (fun j => decide (j ∈ O.map (·.1))) (List.range N)
  rw [List.length_range] at this
  omega
/-- all sounds -/
theorem hl_loop {T : List Tp} (hT : Apart T) (hT2 : T.length ≤ 61) {n : Nat} (hn : n ≤ 60) (S : List Tp) (hS : ∀ s ∈ S, ∃ b e, IsSnd n s b e) (hS2 : S.length ≤ 60) (A0 A1 : D) (a8 a9 a10 : Option LV) (h10 : isOwnL (some a10) = false) :
    ∃ O b5 b6 b7 b8 b9 b10, isOwnL (some b10) = false ∧ OwOk T.length O ∧ (∀ j, (getO O j).getD [] = ownS T S S.length j) ∧
      forD (G.tup 2 (G.cons (G.nm 5) (G.cons (G.tup 2 (G.cons (G.nm 6) (G.cons (G.nm 7) G.nil))) G.nil))) B_f_law_harms_1 (enumL (S.map tpD)) [some (.d A0), some (.d A1), some (.d (.list (marksD n (markU T T.length)))), some (.d (.list [])), some (.dct []), none, none, none, a8, a9, a10] =
      .nx [some (.d A0), some (.d A1), some (.d (.list (marksD n (markU T T.length)))), some (.d (.list ((S.flatMap (wordsL T)).map .str))), some (.dct (encO O)), b5, b6, b7, b8, b9, b10] := by
  obtain ⟨ρ', e1, O, b5, b6, b7, b8, b9, b10, h1, h2, h3, e2⟩ := forD_invN (G := G.tup 2 (G.cons (G.nm 5) (G.cons (G.tup 2 (G.cons (G.nm 6) (G.cons (G.nm 7) G.nil))) G.nil))) (g := B_f_law_harms_1)
    (fun i ρ => ∃ O b5 b6 b7 b8 b9 b10, isOwnL (some b10) = false ∧ OwOk T.length O ∧ (∀ j, (getO O j).getD [] = ownS T S i j) ∧ ρ = [some (.d A0), some (.d A1), some (.d (.list (marksD n (markU T T.length)))), some (.d (.list (((S.take i).flatMap (wordsL T)).map .str))), some (.dct (encO O)), b5, b6, b7, b8, b9, b10])
    (enumL (S.map tpD)) [some (.d A0), some (.d A1), some (.d (.list (marksD n (markU T T.length)))), some (.d (.list [])), some (.dct []), none, none, none, a8, a9, a10]
    ⟨[], none, none, none, a8, a9, a10, h10, ⟨by simp, fun _ h => by simp at h⟩, fun j => rfl, rfl⟩ (fun i x ρ hx ⟨O, b5, b6, b7, b8, b9, b10, h1, h2, h3, e⟩ => by
      subst e
      obtain ⟨y, hy, rfl⟩ := enumL_get hx
      rw [List.getElem?_map] at hy
      cases hq : S[i]? with
      | none => rw [hq] at hy; cases hy
      | some s =>
        rw [hq] at hy
        cases hy
        have hi : i < S.length := (List.getElem?_eq_some_iff.mp hq).1
        obtain ⟨b, e, hs⟩ := hS s (List.mem_of_getElem? hq)
        refine ⟨_, rfl, ?_⟩
        have hf : ((S.take i).flatMap (wordsL T)).length ≤ 4 * i := by
          have key : ∀ L : List Tp, (L.flatMap (wordsL T)).length ≤ 4 * L.length := fun L => by
            induction L with
            | nil => exact Nat.le_refl _
            | cons p L ih =>
              have := wordsL_len T p
              rw [List.flatMap_cons, List.length_append, List.length_cons]
              omega
          have := key (S.take i)
          rw [List.length_take] at this
          omega
        have ol := h2.len
        obtain ⟨c8, c9, c10, q1, q2⟩ := hl_turn hT hT2 hn hs i O ((S.take i).flatMap (wordsL T)) (by omega) (fun j => by rw [h3]; have := ownS_len T S i j; omega) (by omega) A0 A1 b8 b9 b10 h1
        show StepR _ _ (B_f_law_harms_1 [some (.d A0), some (.d A1), some (.d (.list (marksD n (markU T T.length)))), some (.d (.list (((S.take i).flatMap (wordsL T)).map .str))), some (.dct (encO O)), some (.d (.int (i : Nat))), some (.d (.int s.1)), some (.d (.int s.2)), b8, b9, b10])
        rw [q2]
        refine ⟨addAll O i (nums (fun p => meetB p s) T), some (.d (.int (i : Nat))), some (.d (.int s.1)), some (.d (.int s.2)), c8, c9, c10, q1, h2.all (fun j hj => ?_), fun j => ?_, ?_⟩
        · obtain ⟨p, a, _⟩ := nums_mem.mp hj
          exact (List.getElem?_eq_some_iff.mp a).1
        · rw [addAll_get i _ O j (nums_nodup _ T), ownS_step T S i j hq, h3]
        · rw [List.take_add_one, hq, List.flatMap_append, Option.toList_some, List.flatMap_cons, List.flatMap_nil, List.append_nil])
  rw [e2, enumL_len, List.length_map, List.take_length] at e1
  rw [enumL_len, List.length_map] at h3
  exact ⟨O, b5, b6, b7, b8, b9, b10, h1, h2, h3, e1⟩
/-- the word of tapes with several sounds -/
def joinL (O : Ow) : List Str := (O.filter fun p => decide (1 < ((getO O p.1).getD []).length)).map fun _ => ("joined" : Str)
theorem long_enc (O : Ow) (j : Nat) : longL 1 (encO O) (.int (j : Nat)) = decide (1 < ((getO O j).getD []).length) := by
  unfold longL
  rw [getO_enc]
  cases getO O j with
  | none => rfl
  | some l =>
    show decide ((1 : Int) < (((l.map fun k : Nat => PyData.int (k : Int)).length : Nat) : Int)) = decide (1 < l.length)
    rw [List.length_map]
    exact decide_eq_decide.mpr (by omega)
theorem lck_enc (O : Ow) (hl : O.length ≤ 1000) (a0 a1 a2 a3 a5 a6 a7 a8 a9 a10 : Option LV) : M.lckJ 4 10 ("joined" : Str) 1 [a0, a1, a2, a3, some (.dct (encO O)), a5, a6, a7, a8, a9, a10] = .ok ((joinL O).map .str) [a0, a1, a2, a3, some (.dct (encO O)), a5, a6, a7, a8, a9, a10] := by
  have hall : ((encO O).all fun p => scalK p.1 && isLstO (PD.getK (encO O) p.1)) = true := by
    rw [List.all_eq_true]
    intro p hp
    obtain ⟨q, h1, rfl⟩ := List.mem_map.mp hp
    have h2 : (getO O q.1).isSome = true := getO_key.mpr (List.mem_map_of_mem h1)
    show (true && isLstO (PD.getK (encO O) (.int (q.1 : Nat)))) = true
    rw [getO_enc]
    cases e : getO O q.1 with
    | none => rw [e] at h2; cases h2
    | some l => rfl
  unfold M.lckJ
  rw [if_pos (by show 10 < 11; decide)]
  unfold M.lck
  have e : dctAt [a0, a1, a2, a3, some (.dct (encO O)), a5, a6, a7, a8, a9, a10] 4 = some (encO O) := rfl
  rw [e]
  simp only
  rw [if_pos ⟨hall, by rw [encO_len, sizeLine_eq]; omega⟩]
  congr 1
  unfold joinL encO
  rw [List.filter_map, List.map_map, List.map_map]
  have e2 : ((fun p : D × D => longL 1 (O.map fun p => ((.int (p.1 : Nat) : D), numsD p.2)) p.1) ∘ fun p : Nat × List Nat => ((.int (p.1 : Nat) : D), numsD p.2)) = fun p => decide (1 < ((getO O p.1).getD []).length) := by
    funext p
    exact long_enc O p.1
  rw [e2]
  rfl
theorem hl_fin (ER EL : D) (MK TS XS FL J Y : List D) (O : List (D × D)) (b5 b6 b7 b8 b9 b10 : Option LV) (hk : F_f_law_kept [.d ER, .d EL] = .retL MK none) (hs : F_f_law_sounds [.d EL] = .ret (.list TS) none) (he : enumD [.list TS] = some XS)
    (k : forD (G.tup 2 (G.cons (G.nm 5) (G.cons (G.tup 2 (G.cons (G.nm 6) (G.cons (G.nm 7) G.nil))) G.nil))) B_f_law_harms_1 XS [some (.d ER), some (.d EL), some (.d (.list MK)), some (.d (.list [])), some (.dct []), none, none, none, none, none, none] = .nx [some (.d ER), some (.d EL), some (.d (.list MK)), some (.d (.list FL)), some (.dct O), b5, b6, b7, b8, b9, b10])
    (lk : M.lckJ 4 10 ("joined" : Str) 1 [some (.d ER), some (.d EL), some (.d (.list MK)), some (.d (.list FL)), some (.dct O), b5, b6, b7, b8, b9, b10] = .ok J [some (.d ER), some (.d EL), some (.d (.list MK)), some (.d (.list FL)), some (.dct O), b5, b6, b7, b8, b9, b10])
    (hl : FL.length + J.length ≤ 1000) (ss : sortsetD (.list (FL ++ J)) = some Y) : F_f_law_harms [.d ER, .d EL] = .ret (.list Y) none := by
  have c1 : FL.length + J.length ≤ sizeLine := by rw [sizeLine_eq]; omega
  unfold F_f_law_harms
  simp_arith only [true_and]
  unfold g_f_law_harms
  simp_arith only [hk, hs, he]
  rw [k]
  simp_arith only [sortset_ap, lk, c1, ss]
end K2

set_option maxRecDepth 100000
set_option maxHeartbeats 4000000
set_option synthInstance.maxSize 8000
set_option synthInstance.maxHeartbeats 400000
namespace K2
open PySem PySem.Spec L2 PD
/-! ### the harms of a row: the program's and the law's -/
def fiveA : List Str := [wS 0, wS 1, wS 2, wS 3, wS 4]
theorem five_asc : fiveA.Pairwise fun a b => liS a b = true := by decide +kernel
theorem asc_five {F : List Str} (h : ∀ x ∈ F, x ∈ fiveA) : ascA liS F = fiveA.filter fun x => decide (x ∈ F) := by
  refine asc_uniq slin_S (ascA_asc slin_S F) (five_asc.filter _) fun z => ?_
  rw [mem_ascA, List.mem_filter, decide_eq_true_eq]
  exact ⟨fun z1 => ⟨h z z1, z1⟩, fun z1 => z1.2⟩
theorem asc_five_len {F : List Str} (h : ∀ x ∈ F, x ∈ fiveA) : (ascA liS F).length ≤ 5 := by
  rw [asc_five h]
  exact List.length_filter_le _ _
theorem mem_when {b : Bool} {x z : Str} : z ∈ when b x ↔ b = true ∧ z = x := by
  unfold when
  cases b with
  | true => rw [if_pos rfl, List.mem_singleton]; exact ⟨fun h => ⟨rfl, h⟩, fun h => h.2⟩
  | false => rw [if_neg (by decide)]; exact ⟨fun h => by simp at h, fun h => by cases h.1⟩
theorem wordsP_five (T : List Tp) (s : Tp) : ∀ x ∈ wordsP T s, x ∈ fiveA := by
  intro x hx
  unfold wordsP at hx
  have w0 : wS 0 ∈ fiveA := by unfold fiveA; simp
  have w2 : wS 2 ∈ fiveA := by unfold fiveA; simp
  have w3 : wS 3 ∈ fiveA := by unfold fiveA; simp
  have w4 : wS 4 ∈ fiveA := by unfold fiveA; simp
  split at hx
  · rw [List.mem_singleton.mp hx]; exact w3
  · rw [List.mem_append, List.mem_append, mem_when, mem_when, mem_when] at hx
    rcases hx with (⟨_, rfl⟩ | ⟨_, rfl⟩) | ⟨_, rfl⟩
    · exact w2
    · exact w0
    · exact w4
theorem joinP_five (S : List Tp) (t : Tp) : ∀ x ∈ joinP S t, x ∈ fiveA := by
  intro x hx
  unfold joinP at hx
  rw [mem_when] at hx
  rw [hx.2]
  unfold fiveA
  simp
theorem any_mine {T : List Tp} {n : Nat} {s : Tp} {b e : Nat} (hs : IsSnd n s b e) {t : Nat} (h1 : b ≤ t) (h2 : t ≤ e) : (mineP T s).any (inB (t : Int)) = T.any (inB (t : Int)) := by
  rw [Bool.eq_iff_iff, List.any_eq_true, List.any_eq_true]
  constructor
  · rintro ⟨p, a, c⟩; exact ⟨p, (List.mem_filter.mp a).1, c⟩
  · rintro ⟨p, a, c⟩
    refine ⟨p, List.mem_filter.mpr ⟨a, ?_⟩, c⟩
    unfold inB at c
    unfold meetB
    rw [Bool.and_eq_true, decide_eq_true_eq, decide_eq_true_eq] at c ⊢
    rw [hs.eq]
    dsimp only
    omega
theorem words_same {T : List Tp} {n : Nat} {s : Tp} {b e : Nat} (hs : IsSnd n s b e) (x : Str) : x ∈ wordsL T s ↔ x ∈ wordsP T s := by
  have hle := hs.le
  have e1 : s.1 = (b : Int) := by rw [hs.eq]
  have e2 : s.2 = (e : Int) := by rw [hs.eq]
  unfold wordsL wordsP
  rw [e1, e2, any_mine hs (Nat.le_refl _) hle, any_mine hs hle (Nat.le_refl _)]
  rw [List.mem_append, List.mem_append, List.mem_append, mem_when, mem_when, mem_when, mem_when]
  cases q : mineP T s with
  | nil =>
    simp
  | cons p L =>
    rw [if_neg (show ¬ (p :: L).isEmpty = true from fun z => by cases z), List.mem_append, List.mem_append, mem_when, mem_when, mem_when]
    simp only [List.isEmpty_cons, Bool.false_eq_true, false_and, false_or, Bool.not_false, Bool.true_and, decide_eq_true_eq]
    constructor
    · rintro ((h | h) | h)
      · exact .inr h
      · exact .inl (.inl h)
      · exact .inl (.inr h)
    · rintro ((h | h) | h)
      · exact .inl (.inr h)
      · exact .inr h
      · exact .inl (.inl h)
theorem ownS_len2 {T S : List Tp} {j : Nat} {t : Tp} (h : T[j]? = some t) : (ownS T S S.length j).length = (S.filter fun s => meetB t s).length := by
  rw [← nums_len (fun s => meetB t s) S]
  unfold ownS nums
  congr 1
  refine List.filter_congr fun i hi => ?_
  unfold atP
  rw [h]
  cases S[i]? <;> rfl
theorem join_same {T S : List Tp} {O : Ow} (h2 : OwOk T.length O) (h3 : ∀ j, (getO O j).getD [] = ownS T S S.length j) (x : Str) : x ∈ joinL O ↔ x ∈ T.flatMap (joinP S) := by
  unfold joinL
  rw [List.mem_map, List.mem_flatMap]
  constructor
  · rintro ⟨p, hp, rfl⟩
    rw [List.mem_filter, decide_eq_true_eq, h3] at hp
    have hlt := h2.lt p hp.1
    have hq := List.getElem?_eq_getElem hlt
    refine ⟨T[p.1], List.getElem_mem hlt, ?_⟩
    unfold joinP
    rw [mem_when, decide_eq_true_eq, ← ownS_len2 hq]
    exact ⟨hp.2, rfl⟩
  · rintro ⟨t, ht, hx⟩
    unfold joinP at hx
    rw [mem_when, decide_eq_true_eq] at hx
    obtain ⟨j, hj⟩ := List.getElem?_of_mem ht
    rw [← ownS_len2 hj, ← h3] at hx
    have hk : (getO O j).isSome = true := by
      cases q : getO O j with
      | none => rw [q] at hx; exact absurd hx.1 (by show ¬ 1 < 0; decide)
      | some l => rfl
    obtain ⟨p, hp, rfl⟩ := List.mem_map.mp (getO_key.mp hk)
    exact ⟨p, List.mem_filter.mpr ⟨hp, decide_eq_true hx.1⟩, hx.2.symm⟩
/-- the harms of a row -/
def harmsR (r : Rec) (l : List Bool) : List Str := ascA liS (foundP (tapesOf r l) (Snd (rowF l) l.length))
theorem found_five (T S : List Tp) : ∀ x ∈ foundP T S, x ∈ fiveA := by
  intro x hx
  unfold foundP at hx
  rw [List.mem_append, List.mem_flatMap, List.mem_flatMap] at hx
  rcases hx with ⟨s, _, h⟩ | ⟨t, _, h⟩
  · exact wordsP_five T s x h
  · exact joinP_five S t x h
theorem F_harms_of_ok {r : Rec} (hr : r.Ok) {l : List Bool} (hl : l.length ≤ 60) : F_harms_of [.d (encR r), .d (encB l)] = .ret (.list ((harmsR r l).map .str)) none := by
  have tl := tapes_len r l
  have sl := snd_len (rowF l) l.length
  obtain ⟨b5, b6, h5, k1⟩ := hp_loop (T := tapesOf r l) (by omega) (S := Snd (rowF l) l.length) (by omega) (encR r) (encB l)
  have hf := fm_len (words_len (tapesOf r l)) (Snd (rowF l) l.length)
  have hg := fm_len (join_len (Snd (rowF l) l.length)) (tapesOf r l)
  obtain ⟨b7, k2⟩ := jp_loop (T := tapesOf r l) (by omega) (S := Snd (rowF l) l.length) (by omega) ((Snd (rowF l) l.length).flatMap (wordsP (tapesOf r l))) (by omega) (encR r) (encB l) b5 b6 h5
  have h1 : (foundP (tapesOf r l) (Snd (rowF l) l.length)).length < 1000 := by
    unfold foundP
    rw [List.length_append]
    omega
  have h2 := asc_five_len (found_five (tapesOf r l) (Snd (rowF l) l.length))
  exact hp_fin (encR r) (encB l) _ _ _ _ _ _ _ b5 b6 b7 (F_recordings_of_ok hr hl) (F_sounds_of_ok hl) rfl rfl k1 k2 (sortset_strs (foundP (tapesOf r l) (Snd (rowF l) l.length)) h1 (by omega))
theorem F_law_harms_ok {r : Rec} (hr : r.Ok) {l : List Bool} (hl : l.length ≤ 60) : F_f_law_harms [.d (encR r), .d (encB l)] = .ret (.list ((harmsR r l).map .str)) none := by
  obtain ⟨_, ha⟩ := F_tapes_all hr hl
  have tl := tapes_len r l
  have sl := snd_len (rowF l) l.length
  have hS := snd_mem (rowF l) l.length
  obtain ⟨O, b5, b6, b7, b8, b9, b10, _, h2, h3, k⟩ := hl_loop (T := tapesOf r l) ha (by omega) hl (Snd (rowF l) l.length) hS (by omega) (encR r) (encB l) none none none rfl
  have ol := h2.len
  have hf := fm_len (wordsL_len (tapesOf r l)) (Snd (rowF l) l.length)
  have jl : (joinL O).length ≤ 61 := by
    unfold joinL
    rw [List.length_map]
    have := List.length_filter_le (fun p : Nat × List Nat => decide (1 < ((getO O p.1).getD []).length)) O
    omega
  have same : ascA liS ((Snd (rowF l) l.length).flatMap (wordsL (tapesOf r l)) ++ joinL O) = harmsR r l := by
    refine asc_uniq slin_S (ascA_asc slin_S _) (ascA_asc slin_S _) fun z => ?_
    unfold harmsR
    rw [mem_ascA, mem_ascA]
    unfold foundP
    have hw : z ∈ (Snd (rowF l) l.length).flatMap (wordsL (tapesOf r l)) ↔ z ∈ (Snd (rowF l) l.length).flatMap (wordsP (tapesOf r l)) := by
      rw [List.mem_flatMap, List.mem_flatMap]
      constructor
      · rintro ⟨s, a, c⟩
        obtain ⟨b, e, hs⟩ := hS s a
        exact ⟨s, a, (words_same hs z).mp c⟩
      · rintro ⟨s, a, c⟩
        obtain ⟨b, e, hs⟩ := hS s a
        exact ⟨s, a, (words_same hs z).mpr c⟩
    rw [List.mem_append, List.mem_append, join_same h2 h3, hw]
  have hl5 := asc_five_len (found_five (tapesOf r l) (Snd (rowF l) l.length))
  have ss := sortset_strs ((Snd (rowF l) l.length).flatMap (wordsL (tapesOf r l)) ++ joinL O) (by rw [List.length_append]; omega) (by rw [same]; unfold harmsR; omega)
  rw [same, List.map_append] at ss
  exact hl_fin (encR r) (encB l) _ _ _ _ _ _ _ b5 b6 b7 b8 b9 b10 (F_kept_ok hr hl) (F_law_sounds_ok hl) rfl k (lck_enc O (by omega) _ _ _ _ _ _ _ _ _ _) (by rw [List.length_map, List.length_map]; omega) ss
end K2

set_option maxRecDepth 100000
set_option maxHeartbeats 4000000
set_option synthInstance.maxSize 8000
set_option synthInstance.maxHeartbeats 400000
namespace K2
open PySem PySem.Spec L2 PD
local macro_rules
  | `(tactic| simp_arith only [$a,*]) => `(tactic| simp only [ret_ap, lift_some, lift_none, var_ap, varR_d, ownAt_ap, ownL_own, ownL_d, ownL_n, frzAt_ap, frzL_own, frzL_d, frz_nil, frz_cons, frz1_own, frz1_d, frz1_n, wipe_nil, wipe_cons, restore_nil, restore_cons, clean_nil, clean_cons, isOwnL_own, isOwnL_d, isOwnL_k, frz1_k, frzL_k, ownL_k, isOwnL_n, bind_ap, bindR_ok, bindR_ex, bindR_bad, ofM_ap, ofR_ok, ofR_ex, ofR_bad, seq_ap, seqR_nx, seqR_rt, seqR_rl, seqR_bk, seqR_ct, seqR_ex, seqR_bad, nil_ap, pass_ap, never_ap, brk_ap, cnt_ap, retN_ap, sret_ap, sretL_ap, drop_ap, site_ap, asg_ap, own_ap, par2_ap, par3_ap, asgT_ap, asgR_some, asgR_none, gnm_ap, gnil_ap, gcons_ap, gtup_ap, andV_ap, orV_ap, andT_ap, orT_ap, notT_ap, test_ap, op1_ap, op2_ap, chain_ap, mite_ap, ite_apR, ite_apS, argN_ap, argD_ap, argS_ap, slotR_some, tup_ap, lst_ap, known_ap, call_ap, callL_ap, listL_ap, seqOf_l, seqOf_t, items_ap, part_ap, slice_ap, catL_ap, frz_ap, borrow_ap, borrowR_ok, borrowT_ap, borrowTR_ok, subO_ap, app_ap, setIx_ap, retO_ap, for_ap, lc_ap, lcR_ok, fn_ap, fnL_ap, fnR_some, fnLR_some, retR_ret, retR_retL, retLR_retL, putR_some, putO_none, putO_s0, putO_s1, putO_s2, putO_s3, putO_s4, endR_rt, endR_rl, endR_nx, endR_bad, bindR_ite, ofR_ite, seqR_ite, endR_ite, lift_ite, pop_ap, popR_snoc, dctAt_ap, dctL_k, dctL_o, dctL_d, dctL_n, inK_ap, subK_ap, slotKR_some, setK_ap, slotKF_some, setKR_some, parN_ap, parR_ok, setN_nil, setN_cons, nC_ap, nL_ap, nD_ap, dict1_ap, new_ap, repL_ap, addD_ii, addD_ss, addD_tt, subD_ii, mulD_ii, fdivD_ii, modD_ii, powD_ii, negD_i, ltD_ii, leD_ii, gtD_ii, geD_ii, ixD_l, ixD_t, catD_ll, itemsD_l, itemsD_t, lenD_l, lenD_t, lenD_s, absD_i, maxD_ii, minD_ii, intD_i, intD_b, tupleD_l, tupleD_t, notD_b, asB_b, asI_i, eqD_ii, eqD_ss, eqD_bb, eqD_si, eqD_is, eqD_nn, eqD_nb, eqD_ni, eqD_ns, eqD_bn, eqD_in, eqD_sn, tInt_none, tInt_bool, tInt_int, tInt_str, tInt_tuple, tInt_list, tInt_dict, tBool_none, tBool_bool, tBool_int, tBool_str, tBool_tuple, tBool_list, tBool_dict, tStr_none, tStr_bool, tStr_int, tStr_str, tStr_tuple, tStr_list, tStr_dict, tTuple_none, tTuple_bool, tTuple_int, tTuple_str, tTuple_tuple, tTuple_list, tTuple_dict, tList_none, tList_bool, tList_int, tList_str, tList_tuple, tList_list, tList_dict, tSeq_none, tSeq_bool, tSeq_int, tSeq_str, tSeq_tuple, tSeq_list, tSeq_dict, isNoneB_none, scalarD_none, isNoneB_bool, scalarD_bool, isNoneB_int, scalarD_int, isNoneB_str, scalarD_str, isNoneB_tuple, scalarD_tuple, isNoneB_list, scalarD_list, isNoneB_dict, scalarD_dict, ixT0, ixT1, ixT2, ixT3, ixT4, ixT5, ixT6, ixT7, ixT8, ixT9, ixL0, ixL1, ixL2, ixL3, ixL4, ixL5, ixL6, ixL7, ixL8, ixL9, aI0, aI1, aI2, aI3, aI4, aI5, aI6, aI7, aI8, aI9, ixN1_0, ixN2_0, ixN2_1, ixN3_0, ixN3_1, ixN3_2, ixN4_0, ixN4_1, ixN4_2, ixN4_3, ixN5_0, ixN5_1, ixN5_2, ixN5_3, ixN5_4, ixN6_0, ixN6_1, ixN6_2, ixN6_3, ixN6_4, ixN6_5, List.map_cons, List.map_nil, List.cons_append, List.nil_append, List.replicate_zero, List.replicate_succ, List.length_cons, List.length_nil, List.getElem?_cons_zero, List.getElem?_cons_succ, List.set_cons_zero, List.set_cons_succ, List.getD_cons_zero, List.getD_cons_succ, Bool.and_true, Bool.true_and, Bool.not_false, Bool.not_true, Nat.sub_self, Nat.reduceSub, Nat.reduceAdd, Nat.zero_add, true_and, and_true, and_self, if_true, if_false, ite_true, ite_false, reduceCtorEq, false_implies, implies_true, forall_const, Bool.false_eq_true, Option.bind_some, Option.map_some, Option.bind_none, Option.map_none, runF_eq, okIo, datOf, lvsOf, argIo, isD, outO, isND, notND, vals2D, vals3D, eqDD, neDD, decide_true, decide_false, Bool.decide_eq_true, sz0, sz1, sz2, sz3, sz4, sz5, sz6, sz7, sz8, sz9, sz10, sz11, sz12, sz13, sz14, sz15, sz16, sz17, sz18, sz19, sz20, sz21, sz22, sz23, sz24, sz25, sz26, sz27, sz28, sz29, sz30, sz31, sz32, sz33, sz34, sz35, sz36, sz37, sz38, sz39, sz40, slice_t, all_t, all_l, any_l, all_lm, all_tm, any_lm, Function.comp_def, step_nx, step_ct, step_bk, step_rt, step_rl, step_ite, decide_eq_true_eq, Int.cast_ofNat_Int, Int.reduceLE, Int.reduceLT, Int.reduceAdd, Int.reduceSub, Int.reduceMul, Int.reduceNeg, Int.reduceEq, Int.reduceGT, Nat.reduceEqDiff, ne_eq, not_false_eq_true, Option.some.injEq, forall_eq', Nat.reduceLT, Bool.and_false, Bool.or_false, Bool.false_or, Bool.true_or, Bool.false_and, Bool.or_true, $a,*])
/-! ### the law -/
theorem F_row_harms_ok {r : Rec} (hr : r.Ok) {l : List Bool} (hl : l.length ≤ 60) : F_row_harms [.d (encR r), .d (encB l)] = .ret (.list ((harmsR r l).map .str)) none := by
  have e1 := F_harms_of_ok hr hl
  have e2 := F_look_at_recorder_ok hr
  have e3 := F_look_at_row_ok hl
  unfold F_row_harms
  simp_arith only [true_and]
  unfold g_row_harms
  generalize (harmsR r l).map PyData.str = H at *
  generalize encB l = EL at *
  generalize encR r = ER at *
  simp_arith only [e1, e2, e3]
theorem twins7 {k : Nat} {x : D} (h : Sh k x) (hk : k ≤ 7) : F_f_law_twins 8 [.d x, .d x] = .ret (.bool true) none := F_twins_self 7 x (h.up hk) (by decide)
theorem stand_turn {r : Rec} (hr : r.Ok) (f : Nat → Bool) (i : Nat) (a0 a1 a2 a4 a5 a6 a7 a8 a9 a10 a13 : Option LV) : ∃ b13,
    B_law_3 [a0, a1, a2, some (.d (encR r)), a4, a5, a6, a7, a8, a9, a10, some (.d (encS (Sat r f i))), some (.d (.bool (f i))), a13] = .nx [a0, a1, a2, some (.d (encR r)), a4, a5, a6, a7, a8, a9, a10, some (.d (encS (Sat r f (i + 1)))), some (.d (.bool (f i))), b13] := by
  have hs := Sat_ok hr f i
  have e1 := F_tick_eq hr hs (f i)
  have e2 := F_after_ok hr hs (f i)
  have es : Sat r f (i + 1) = (stepS r (Sat r f i) (f i)).1 := rfl
  have e3 := twins7 (sh_encS (stepS r (Sat r f i) (f i)).1) (by decide)
  rw [es]
  unfold B_law_3
  generalize encS (stepS r (Sat r f i) (f i)).1 = E2 at *
  generalize encS (Sat r f i) = E1 at *
  generalize encR r = ER at *
  simp_arith only [e1, e2, e3]
  exact ⟨_, rfl⟩
theorem stand_loop {r : Rec} (hr : r.Ok) (l : List Bool) (a0 a1 a2 a4 a5 a6 a7 a8 a9 a10 a12 a13 : Option LV) : ∃ b12 b13,
    forD (G.nm 12) B_law_3 (l.map .bool) [a0, a1, a2, some (.d (encR r)), a4, a5, a6, a7, a8, a9, a10, some (.d (encS (.aw []))), a12, a13] = .nx [a0, a1, a2, some (.d (encR r)), a4, a5, a6, a7, a8, a9, a10, some (.d (encS (Sat r (rowF l) l.length))), b12, b13] := by
  obtain ⟨ρ', e1, b12, b13, e2⟩ := forD_invN (G := G.nm 12) (g := B_law_3) (fun i ρ => ∃ b12 b13, ρ = [a0, a1, a2, some (.d (encR r)), a4, a5, a6, a7, a8, a9, a10, some (.d (encS (Sat r (rowF l) i))), b12, b13]) (l.map .bool)
    [a0, a1, a2, some (.d (encR r)), a4, a5, a6, a7, a8, a9, a10, some (.d (encS (.aw []))), a12, a13] ⟨_, _, rfl⟩ (fun i x ρ hx ⟨b12, b13, e⟩ => by
    subst e
    rw [List.getElem?_map] at hx
    cases hb : l[i]? with
    | none => rw [hb] at hx; cases hx
    | some b =>
      rw [hb] at hx
      cases hx
      refine ⟨_, rfl, ?_⟩
      obtain ⟨c13, e3⟩ := stand_turn hr (rowF l) i a0 a1 a2 a4 a5 a6 a7 a8 a9 a10 b13
      rw [rowF_at hb] at e3
      show StepR _ _ (B_law_3 [a0, a1, a2, some (.d (encR r)), a4, a5, a6, a7, a8, a9, a10, some (.d (encS (Sat r (rowF l) i))), some (.d (.bool b)), b13])
      rw [e3]
      exact ⟨_, _, rfl⟩)
  rw [e2, List.length_map] at e1
  exact ⟨b12, b13, e1⟩
theorem draw_turn {xs : List D} (hx : SpV xs) {l : List Bool} (hl : l.length ≤ 60) {o : Int} (ho : 1 ≤ o) (ho2 : o ≤ 6) (a0 a1 a3 a4 a8 a9 a10 a11 a12 a13 : Option LV) : ∃ b ys b8, SpV ys ∧
    B_law_4 [a0, a1, some (.own xs), a3, a4, some (.d (.int o)), some (.d (encB l)), some (.d (.int (l.length : Nat))), a8, a9, a10, a11, a12, a13] = .nx [a0, a1, some (.own ys), a3, a4, some (.d (.int o)), some (.d (encB (l ++ [b]))), some (.d (.int (l.length : Nat))), b8, a9, a10, a11, a12, a13] := by
  have hz : l.length + 1 ≤ sizeLine := by rw [sizeLine_eq]; omega
  have ad : ∀ b, addD (encB l) (.tuple [.bool b]) = some (encB (l ++ [b])) := fun b => add_one l b hz
  by_cases h0 : (0 : Int) < (l.length : Nat)
  · obtain ⟨i1, x1, e1, h1, p1, q1⟩ := F_pick_ok hx (m := o) (by omega) (by omega)
    by_cases hi : 0 < i1
    · have hne : l ≠ [] := fun z => by rw [z] at h0; exact absurd h0 (by decide)
      have ea : ixD (encB l) (.int (-1)) = some (.bool (l.getLast hne)) := by
        unfold encB
        rw [ixD_t, atI_last (by simpa using hne), List.getLast_map]
      have ad1 := ad (l.getLast hne)
      refine ⟨l.getLast hne, x1, some (.d (.bool true)), h1, ?_⟩
      generalize encB (l ++ [l.getLast hne]) = E2 at *
      generalize l.getLast hne = bl at *
      generalize hL : ((l.length : Nat) : Int) = L at *
      generalize encB l = E1 at *
      unfold B_law_4
      simp_arith only [h0, e1, hi, ea, ad1]
    · obtain ⟨i2, x2, e2, h2, p2, q2⟩ := F_pick_ok h1 (m := 2) (by decide) (by decide)
      have ad1 := ad (decide (i2 = 0))
      refine ⟨decide (i2 = 0), x2, some (.d (.bool false)), h2, ?_⟩
      generalize encB (l ++ [decide (i2 = 0)]) = E2 at *
      generalize hL : ((l.length : Nat) : Int) = L at *
      generalize encB l = E1 at *
      unfold B_law_4
      by_cases hi2 : i2 = 0
      · rw [decide_eq_true hi2] at ad1
        simp_arith only [h0, e1, hi, e2, hi2, ad1]
      · rw [decide_eq_false hi2] at ad1
        simp_arith only [h0, e1, hi, e2, hi2, ad1]
  · obtain ⟨i2, x2, e2, h2, p2, q2⟩ := F_pick_ok hx (m := 2) (by decide) (by decide)
    have ad1 := ad (decide (i2 = 0))
    refine ⟨decide (i2 = 0), x2, some (.d (.bool false)), h2, ?_⟩
    generalize encB (l ++ [decide (i2 = 0)]) = E2 at *
    generalize hL : ((l.length : Nat) : Int) = L at *
    generalize encB l = E1 at *
    unfold B_law_4
    by_cases hi2 : i2 = 0
    · rw [decide_eq_true hi2] at ad1
      simp_arith only [h0, e2, hi2, ad1]
    · rw [decide_eq_false hi2] at ad1
      simp_arith only [h0, e2, hi2, ad1]
theorem draw_loop {xs : List D} (hx : SpV xs) {n : Nat} (hn : n ≤ 60) {o : Int} (ho : 1 ≤ o) (ho2 : o ≤ 6) (a0 a1 a3 a4 a7 a8 a9 a10 a11 a12 a13 : Option LV) : ∃ l ys b7 b8, l.length = n ∧ SpV ys ∧
    forD (G.nm 7) B_law_4 (rangeD 0 n) [a0, a1, some (.own xs), a3, a4, some (.d (.int o)), some (.d (.tuple [])), a7, a8, a9, a10, a11, a12, a13] = .nx [a0, a1, some (.own ys), a3, a4, some (.d (.int o)), some (.d (encB l)), b7, b8, a9, a10, a11, a12, a13] := by
  obtain ⟨ρ', e1, l, ys, b7, b8, h1, h2, e2⟩ := forD_invN (G := G.nm 7) (g := B_law_4) (fun i ρ => ∃ l ys b7 b8, l.length = i ∧ SpV ys ∧ ρ = [a0, a1, some (.own ys), a3, a4, some (.d (.int o)), some (.d (encB l)), b7, b8, a9, a10, a11, a12, a13]) (rangeD 0 n)
    [a0, a1, some (.own xs), a3, a4, some (.d (.int o)), some (.d (.tuple [])), a7, a8, a9, a10, a11, a12, a13] ⟨[], xs, a7, a8, rfl, hx, rfl⟩ (fun i x ρ hx ⟨l, ys, b7, b8, h1, h2, e⟩ => by
    subst e
    obtain ⟨rfl, hi⟩ := get_rangeD hx
    subst h1
    refine ⟨_, rfl, ?_⟩
    obtain ⟨b, zs, c8, h3, e3⟩ := draw_turn h2 (l := l) (by omega) ho ho2 a0 a1 a3 a4 b8 a9 a10 a11 a12 a13
    rw [show ((0 : Int) + (l.length : Nat)) = ((l.length : Nat) : Int) by omega]
    show StepR _ _ (B_law_4 [a0, a1, some (.own ys), a3, a4, some (.d (.int o)), some (.d (encB l)), some (.d (.int (l.length : Nat))), b8, a9, a10, a11, a12, a13])
    rw [e3]
    exact ⟨_, zs, _, c8, by rw [List.length_append]; rfl, h3, rfl⟩)
  rw [rangeD_length] at h1
  rw [e2] at e1
  exact ⟨l, ys, b7, b8, h1, h2, e1⟩
theorem sh_tps (L : List Tp) : Sh 2 (tpsD L) := sh_lst (n := 1) fun x hx => by
  obtain ⟨p, _, rfl⟩ := List.mem_map.mp hx
  exact sh_tup fun y hy => by
    simp only [List.mem_cons, List.not_mem_nil, or_false] at hy
    rcases hy with rfl | rfl
    · exact sh_int _
    · exact sh_int _
theorem five_ok {x : Str} (h : x ∈ fiveA) : PyData.strOk x = true := by
  unfold fiveA at h
  simp only [List.mem_cons, List.not_mem_nil, or_false] at h
  rcases h with rfl | rfl | rfl | rfl | rfl <;> decide +kernel
theorem sh_harms (r : Rec) (l : List Bool) : Sh 1 (.list ((harmsR r l).map .str)) := sh_lst (n := 0) fun x hx => by
  obtain ⟨h, hm, rfl⟩ := List.mem_map.mp hx
  unfold harmsR at hm
  rw [mem_ascA] at hm
  exact sh_str (five_ok (found_five _ _ h hm))
/-- what a turn asks, told over opaque data -/
theorem ask_eval (ER EL EW ES0 ES TT SS : D) (HH BL XS TL : List D) (o i : Int) (bo : Bool) (xs x1 x2 x3 x4 x5 : List D) (a0 a1 a4 a5 a6 a7 a8 a9 a10 a11 a12 a13 b7 b8 b12 b13 : Option LV) (i0 i2 i3 m : Int)
    (p1 : F_f_law_pick [.own xs, .d (.int 6)] = .ret (.int i0) (some x1)) (p2 : F_f_law_pick [.own x1, .d (.int 3)] = .ret (.int i2) (some x2)) (hm : atI [PyData.int 9, PyData.int 25, PyData.int 61] i2 = some (.int m))
    (p3 : F_f_law_pick [.own x2, .d (.int m)] = .ret (.int i3) (some x3)) (rg : range1D [.int i3] = some XS)
    (k1 : forD (G.nm 7) B_law_4 XS [a0, a1, some (.own x3), some (.d ER), a4, some (.d (.int (1 + i0))), some (.d (.tuple [])), a7, a8, a9, a10, a11, a12, a13] = .nx [a0, a1, some (.own x4), some (.d ER), a4, some (.d (.int (1 + i0))), some (.d EL), b7, b8, a9, a10, a11, a12, a13])
    (e1 : F_recordings [.d ER, .d EL] = .ret TT none) (e2 : F_sounds [.d EL] = .ret SS none) (e3 : F_row_harms [.d ER, .d EL] = .ret (.list HH) none) (e4 : F_f_law_tapes [.d ER, .d EL] = .retL TL none) (e4' : PyData.list TL = TT) (e5 : F_f_law_sounds [.d EL] = .ret SS none) (e6 : F_f_law_harms [.d ER, .d EL] = .ret (.list HH) none)
    (t1 : F_f_law_twins 8 [.d (.list [TT, SS, .list HH]), .d (.list [TT, SS, .list HH])] = .ret (.bool true) none) (w1 : F_f_law_world [.own x4] = .ret EW (some x5)) (o1 : F_is_of [.d EW, .d EL] = .ret (.bool bo) none) (o2 : F_f_law_is_of [.d EW, .d EL] = .ret (.bool bo) none)
    (t2 : F_f_law_twins 8 [.d (.bool bo), .d (.bool bo)] = .ret (.bool true) none) (z : ES0 = .tuple [.str ("awake" : Str), .int 0, .int 0, .tuple []]) (il : itemsD EL = some BL)
    (k2 : forD (G.nm 12) B_law_3 BL [a0, a1, some (.own x5), some (.d ER), a4, some (.d (.int (1 + i0))), some (.d EL), b7, b8, some (.d (.list [TT, SS, .list HH])), some (.d EW), some (.d ES0), a12, a13] = .nx [a0, a1, some (.own x5), some (.d ER), a4, some (.d (.int (1 + i0))), some (.d EL), b7, b8, some (.d (.list [TT, SS, .list HH])), some (.d EW), some (.d ES), b12, b13])
    (e7 : F_stand_behind [.d ER, .d EL] = .ret ES none) (t3 : F_f_law_twins 8 [.d ES, .d ES] = .ret (.bool true) none) :
    B_law_2 [a0, a1, some (.own xs), some (.d ER), a4, a5, a6, a7, a8, a9, a10, a11, a12, a13] = .nx [a0, a1, some (.own x5), some (.d ER), a4, some (.d (.int (1 + i0))), some (.d EL), b7, b8, some (.d (.list [TT, SS, .list HH])), some (.d EW), some (.d ES), b12, b13] := by
  subst z
  subst e4'
  unfold B_law_2
  simp_arith only [p1, p2, hm, p3, rg]
  rw [k1]
  simp_arith only [e1, e2, e3, e4, e5, e6, t1, w1, o1, o2, t2, il]
  rw [k2]
  simp_arith only [e7, t3]
theorem ask_turn {r : Rec} (hr : r.Ok) {xs : List D} (hx : SpV xs) (a0 a1 a4 a5 a6 a7 a8 a9 a10 a11 a12 a13 : Option LV) : ∃ ys b5 b6 b7 b8 b9 b10 b11 b12 b13, SpV ys ∧
    B_law_2 [a0, a1, some (.own xs), some (.d (encR r)), a4, a5, a6, a7, a8, a9, a10, a11, a12, a13] = .nx [a0, a1, some (.own ys), some (.d (encR r)), a4, b5, b6, b7, b8, b9, b10, b11, b12, b13] := by
  obtain ⟨i0, x1, p1, h1, q1, q1'⟩ := F_pick_ok hx (m := 6) (by decide) (by decide)
  obtain ⟨i2, x2, p2, h2, q2, q2'⟩ := F_pick_ok h1 (m := 3) (by decide) (by decide)
  have hm : ∃ m : Int, atI [PyData.int 9, PyData.int 25, PyData.int 61] i2 = some (.int m) ∧ 0 < m ∧ m ≤ 61 := by
    have : i2 = 0 ∨ i2 = 1 ∨ i2 = 2 := by omega
    rcases this with h | h | h <;> subst h <;> exact ⟨_, rfl, by decide, by decide⟩
  obtain ⟨m, hm, m0, m1⟩ := hm
  obtain ⟨i3, x3, p3, h3, q3, q3'⟩ := F_pick_ok h2 (m := m) m0 (by omega)
  have rg : range1D [.int i3] = some (rangeD 0 i3.toNat) := range1_ok (by omega) (by omega)
  obtain ⟨l, x4, b7, b8, hl, h4, k1⟩ := draw_loop h3 (n := i3.toNat) (by omega) (o := 1 + i0) (by omega) (by omega) a0 a1 (some (.d (encR r))) a4 a7 a8 a9 a10 a11 a12 a13
  have hl : l.length ≤ 60 := by omega
  obtain ⟨w, x5, w1, hw, h5⟩ := F_world_ok h4
  obtain ⟨b12, b13, k2⟩ := stand_loop hr l a0 a1 (some (.own x5)) a4 (some (.d (.int (1 + i0)))) (some (.d (encB l))) b7 b8 (some (.d (.list [tpsD (tapesOf r l), tpsD (Snd (rowF l) l.length), .list ((harmsR r l).map .str)]))) (some (.d (encW w))) a12 a13
  have sh : Sh 3 (.list [tpsD (tapesOf r l), tpsD (Snd (rowF l) l.length), .list ((harmsR r l).map .str)]) := sh_lst (n := 2) (sh_cons (sh_tps _) (sh_cons (sh_tps _) (sh_cons ((sh_harms r l).up (by decide)) sh_nil)))
  exact ⟨x5, _, _, _, _, _, _, _, _, _, h5, ask_eval (encR r) (encB l) (encW w) (encS (.aw [])) (encS (Sat r (rowF l) l.length)) (tpsD (tapesOf r l)) (tpsD (Snd (rowF l) l.length)) ((harmsR r l).map .str) (l.map .bool) _ _ (1 + i0) 0 (isOfB w (Snd (rowF l) l.length)) xs x1 x2 x3 x4 x5 a0 a1 a4 a5 a6 a7 a8 a9 a10 a11 a12 a13 b7 b8 b12 b13 i0 i2 i3 m p1 p2 hm p3 rg k1
    (F_recordings_ok hr hl) (F_sounds_ok hl) (F_row_harms_ok hr hl) (F_tapes_ok hr hl) rfl (F_law_sounds_ok hl) (F_law_harms_ok hr hl) (twins7 sh (by decide)) w1 (F_is_of_ok hw hl) (F_law_is_of_ok w hl) (twins7 (sh_bool _) (by decide)) rfl rfl k2 (F_stand_behind_ok hr hl) (twins7 (sh_encS _) (by decide))⟩
theorem F_turn {ns : List Int} (hb : ∀ n ∈ ns, n.natAbs.log2 ≤ 1048576) (hl : ns.length ≤ 1000) {c : Int} (h0 : 0 ≤ c) (h1 : c ≤ 1000) (a2 a3 a4 a5 a6 a7 a8 a9 a10 a11 a12 a13 : Option LV) :
    ∃ b2 b3 b4 b5 b6 b7 b8 b9 b10 b11 b12 b13, B_law_1 [some (.d (.list (ns.map .int))), some (.d (.int c)), a2, a3, a4, a5, a6, a7, a8, a9, a10, a11, a12, a13] = .nx [some (.d (.list (ns.map .int))), some (.d (.int c)), b2, b3, b4, b5, b6, b7, b8, b9, b10, b11, b12, b13] := by
  obtain ⟨xs, e1, s1⟩ := F_spring_ok hb hl h0 h1
  obtain ⟨r, ys, e2, hr, s2⟩ := F_recorder_ok s1
  have rg : range1D [.int 6] = some (rangeD 0 6) := range1_ok (j := 6) (by decide) (by decide)
  obtain ⟨ρ', e3, zs, b4, b5, b6, b7, b8, b9, b10, b11, b12, b13, _, e4⟩ := forD_invN (G := G.nm 4) (g := B_law_2) (fun i ρ => ∃ zs b4 b5 b6 b7 b8 b9 b10 b11 b12 b13, SpV zs ∧ ρ = [some (.d (.list (ns.map .int))), some (.d (.int c)), some (.own zs), some (.d (encR r)), b4, b5, b6, b7, b8, b9, b10, b11, b12, b13]) (rangeD 0 6)
    [some (.d (.list (ns.map .int))), some (.d (.int c)), some (.own ys), some (.d (encR r)), a4, a5, a6, a7, a8, a9, a10, a11, a12, a13] ⟨ys, _, _, _, _, _, _, _, _, _, _, s2, rfl⟩ (fun i x ρ hx ⟨zs, b4, b5, b6, b7, b8, b9, b10, b11, b12, b13, hz, e⟩ => by
    subst e
    refine ⟨_, rfl, ?_⟩
    obtain ⟨us, c5, c6, c7, c8, c9, c10, c11, c12, c13, hu, e5⟩ := ask_turn hr hz (some (.d (.list (ns.map .int)))) (some (.d (.int c))) (some (.d x)) b5 b6 b7 b8 b9 b10 b11 b12 b13
    show StepR _ _ (B_law_2 [some (.d (.list (ns.map .int))), some (.d (.int c)), some (.own zs), some (.d (encR r)), some (.d x), b5, b6, b7, b8, b9, b10, b11, b12, b13])
    rw [e5]
    exact ⟨us, _, _, _, _, _, _, _, _, _, _, hu, rfl⟩)
  rw [e4] at e3
  unfold B_law_1
  generalize rangeD 0 6 = R6 at *
  generalize encR r = ER at *
  simp_arith only [e1, e2, rg]
  rw [e3]
  exact ⟨_, _, _, _, _, _, _, _, _, _, _, _, rfl⟩
theorem F_law_ok {ns : List Int} (hb : ∀ n ∈ ns, n.natAbs.log2 ≤ 1048576) (hl : ns.length ≤ 1000) : F_law [.d (.list (ns.map .int))] = .ret (.bool true) none := by
  unfold F_law
  simp_arith only [true_and]
  unfold g_law
  simp_arith only [List.length_map, range1_ok (j := (if (10 : Int) < ns.length then 10 else (ns.length : Int)) + 1) (by split <;> omega) (by split <;> omega)]
  obtain ⟨ρ1, e1, a1, a2, a3, a4, a5, a6, a7, a8, a9, a10, a11, a12, a13, rfl⟩ := forD_invN (G := G.nm 1) (g := B_law_1)
    (fun i ρ => ∃ a1 a2 a3 a4 a5 a6 a7 a8 a9 a10 a11 a12 a13, ρ = [some (LV.d (.list (ns.map .int))), a1, a2, a3, a4, a5, a6, a7, a8, a9, a10, a11, a12, a13]) (rangeD 0 ((if (10 : Int) < ns.length then 10 else (ns.length : Int)) + 1).toNat) [some (LV.d (.list (ns.map .int))), none, none, none, none, none, none, none, none, none, none, none, none, none] ⟨_, _, _, _, _, _, _, _, _, _, _, _, _, rfl⟩ (by
      intro i x ρ hx hI
      obtain ⟨rfl, hi⟩ := get_rangeD hx
      obtain ⟨a1, a2, a3, a4, a5, a6, a7, a8, a9, a10, a11, a12, a13, rfl⟩ := hI
      refine ⟨_, rfl, ?_⟩
      have hat : (0 : Int) + i ≤ 1000 := by split at hi <;> omega
      obtain ⟨b2, b3, b4, b5, b6, b7, b8, b9, b10, b11, b12, b13, e⟩ := F_turn hb hl (c := (0 : Int) + i) (by omega) hat a2 a3 a4 a5 a6 a7 a8 a9 a10 a11 a12 a13
      simp_arith only [e]
      exact ⟨_, _, _, _, _, _, _, _, _, _, _, _, _, rfl⟩)
  rw [e1]
  simp_arith only [true_and]
end K2

set_option maxRecDepth 100000
set_option maxHeartbeats 4000000
namespace K2
open PySem PySem.Spec L2 PD
section
theorem all_mk {l : PySem.W.OpenLaw} {w : World} {K : PySem.W.Frag} {h : Heap} {mg : Str → Option Value} {fa : Addr} (X : K.In h) (G : h.Ns mainGlobals mg) (hfa : mg "law" = some (.ref fa))
    {f13 f14 f15 f16 f17 f18 f19 f20 f21 f22 f23 f24 f26 f27 f28 f29 f30 f31 f32 f33 f34 f35 f36 f37 f38 f39 f40 f42 f43 f44 f45 f46 f47 f48 f49 f50 f51 f52 f53 f56 : Addr} {od13 an13 od14 an14 od15 an15 od16 an16 od17 an17 od18 an18 od19 an19 od20 an20 od21 an21 od22 an22 od23 an23 od24 an24 od26 an26 od27 an27 od28 an28 od29 an29 od30 an30 od31 an31 od32 an32 od33 an33 od34 an34 od35 an35 od36 an36 od37 an37 od38 an38 od39 an39 od40 an40 od42 an42 od43 an43 od44 an44 od45 an45 od46 an46 od47 an47 od48 an48 od49 an49 od50 an50 od51 an51 od52 an52 od53 an53 od56 an56 : Option Addr} {sl13 sl14 sl15 sl16 sl17 sl18 sl19 sl20 sl21 sl22 sl23 sl24 sl26 sl27 sl28 sl29 sl30 sl31 sl32 sl33 sl34 sl35 sl36 sl37 sl38 sl39 sl40 sl42 sl43 sl44 sl45 sl46 sl47 sl48 sl49 sl50 sl51 sl52 sl53 sl56 : Array (Option Value)}
    {oc13 kV13 dc13 pm13 cd13 ct13 oc14 kV14 dc14 pm14 cd14 ct14 oc15 kV15 dc15 pm15 cd15 ct15 oc16 kV16 dc16 pm16 cd16 ct16 oc17 kV17 dc17 pm17 cd17 ct17 oc18 kV18 dc18 pm18 cd18 ct18 oc19 kV19 dc19 pm19 cd19 ct19 oc20 kV20 dc20 pm20 cd20 ct20 oc21 kV21 dc21 pm21 cd21 ct21 oc22 kV22 dc22 pm22 cd22 ct22 oc23 kV23 dc23 pm23 cd23 ct23 oc24 kV24 dc24 pm24 cd24 ct24 oc26 kV26 dc26 pm26 cd26 ct26 oc27 kV27 dc27 pm27 cd27 ct27 oc28 kV28 dc28 pm28 cd28 ct28 oc29 kV29 dc29 pm29 cd29 ct29 oc30 kV30 dc30 pm30 cd30 ct30 oc31 kV31 dc31 pm31 cd31 ct31 oc32 kV32 dc32 pm32 cd32 ct32 oc33 kV33 dc33 pm33 cd33 ct33 oc34 kV34 dc34 pm34 cd34 ct34 oc35 kV35 dc35 pm35 cd35 ct35 oc36 kV36 dc36 pm36 cd36 ct36 oc37 kV37 dc37 pm37 cd37 ct37 oc38 kV38 dc38 pm38 cd38 ct38 oc39 kV39 dc39 pm39 cd39 ct39 oc40 kV40 dc40 pm40 cd40 ct40 oc42 kV42 dc42 pm42 cd42 ct42 oc43 kV43 dc43 pm43 cd43 ct43 oc44 kV44 dc44 pm44 cd44 ct44 oc45 kV45 dc45 pm45 cd45 ct45 oc46 kV46 dc46 pm46 cd46 ct46 oc47 kV47 dc47 pm47 cd47 ct47 oc48 kV48 dc48 pm48 cd48 ct48 oc49 kV49 dc49 pm49 cd49 ct49 oc50 kV50 dc50 pm50 cd50 ct50 oc51 kV51 dc51 pm51 cd51 ct51 oc52 kV52 dc52 pm52 cd52 ct52 oc53 kV53 dc53 pm53 cd53 ct53 oc56 kV56 dc56 pm56 cd56 ct56 : Value}
    {u8 u9 u10 u11 u12 : Value}
    (a13 : PySem.W.nsIn K mainGlobals "is_within" = some (some (.ref f13))) (l13 : K.lookup f13 = some ⟨oc13, od13, .func (PySem.W.fnOf "is_within" "is_within" (defArgs s_is_within) (defBody s_is_within) (defScope s_is_within) .none kV13 dc13 pm13 an13 cd13 ct13), sl13⟩) (c13 : PySem.W.codeIn K cd13 "is_within" = true) (k13 : PySem.W.keepIn K (.ref f13) = true)
    (a14 : PySem.W.nsIn K mainGlobals "is_row_of" = some (some (.ref f14))) (l14 : K.lookup f14 = some ⟨oc14, od14, .func (PySem.W.fnOf "is_row_of" "is_row_of" (defArgs s_is_row_of) (defBody s_is_row_of) (defScope s_is_row_of) .none kV14 dc14 pm14 an14 cd14 ct14), sl14⟩) (c14 : PySem.W.codeIn K cd14 "is_row_of" = true) (k14 : PySem.W.keepIn K (.ref f14) = true)
    (a15 : PySem.W.nsIn K mainGlobals "is_recorder" = some (some (.ref f15))) (l15 : K.lookup f15 = some ⟨oc15, od15, .func (PySem.W.fnOf "is_recorder" "is_recorder" (defArgs s_is_recorder) (defBody s_is_recorder) (defScope s_is_recorder) .none kV15 dc15 pm15 an15 cd15 ct15), sl15⟩) (c15 : PySem.W.codeIn K cd15 "is_recorder" = true) (k15 : PySem.W.keepIn K (.ref f15) = true)
    (a16 : PySem.W.nsIn K mainGlobals "is_world" = some (some (.ref f16))) (l16 : K.lookup f16 = some ⟨oc16, od16, .func (PySem.W.fnOf "is_world" "is_world" (defArgs s_is_world) (defBody s_is_world) (defScope s_is_world) .none kV16 dc16 pm16 an16 cd16 ct16), sl16⟩) (c16 : PySem.W.codeIn K cd16 "is_world" = true) (k16 : PySem.W.keepIn K (.ref f16) = true)
    (a17 : PySem.W.nsIn K mainGlobals "is_row" = some (some (.ref f17))) (l17 : K.lookup f17 = some ⟨oc17, od17, .func (PySem.W.fnOf "is_row" "is_row" (defArgs s_is_row) (defBody s_is_row) (defScope s_is_row) .none kV17 dc17 pm17 an17 cd17 ct17), sl17⟩) (c17 : PySem.W.codeIn K cd17 "is_row" = true) (k17 : PySem.W.keepIn K (.ref f17) = true)
    (a18 : PySem.W.nsIn K mainGlobals "look_at_recorder" = some (some (.ref f18))) (l18 : K.lookup f18 = some ⟨oc18, od18, .func (PySem.W.fnOf "look_at_recorder" "look_at_recorder" (defArgs s_look_at_recorder) (defBody s_look_at_recorder) (defScope s_look_at_recorder) .none kV18 dc18 pm18 an18 cd18 ct18), sl18⟩) (c18 : PySem.W.codeIn K cd18 "look_at_recorder" = true) (k18 : PySem.W.keepIn K (.ref f18) = true)
    (a19 : PySem.W.nsIn K mainGlobals "look_at_world" = some (some (.ref f19))) (l19 : K.lookup f19 = some ⟨oc19, od19, .func (PySem.W.fnOf "look_at_world" "look_at_world" (defArgs s_look_at_world) (defBody s_look_at_world) (defScope s_look_at_world) .none kV19 dc19 pm19 an19 cd19 ct19), sl19⟩) (c19 : PySem.W.codeIn K cd19 "look_at_world" = true) (k19 : PySem.W.keepIn K (.ref f19) = true)
    (a20 : PySem.W.nsIn K mainGlobals "look_at_row" = some (some (.ref f20))) (l20 : K.lookup f20 = some ⟨oc20, od20, .func (PySem.W.fnOf "look_at_row" "look_at_row" (defArgs s_look_at_row) (defBody s_look_at_row) (defScope s_look_at_row) .none kV20 dc20 pm20 an20 cd20 ct20), sl20⟩) (c20 : PySem.W.codeIn K cd20 "look_at_row" = true) (k20 : PySem.W.keepIn K (.ref f20) = true)
    (a21 : PySem.W.nsIn K mainGlobals "look_at_sound" = some (some (.ref f21))) (l21 : K.lookup f21 = some ⟨oc21, od21, .func (PySem.W.fnOf "look_at_sound" "look_at_sound" (defArgs s_look_at_sound) (defBody s_look_at_sound) (defScope s_look_at_sound) .none kV21 dc21 pm21 an21 cd21 ct21), sl21⟩) (c21 : PySem.W.codeIn K cd21 "look_at_sound" = true) (k21 : PySem.W.keepIn K (.ref f21) = true)
    (a22 : PySem.W.nsIn K mainGlobals "is_heard" = some (some (.ref f22))) (l22 : K.lookup f22 = some ⟨oc22, od22, .func (PySem.W.fnOf "is_heard" "is_heard" (defArgs s_is_heard) (defBody s_is_heard) (defScope s_is_heard) .none kV22 dc22 pm22 an22 cd22 ct22), sl22⟩) (c22 : PySem.W.codeIn K cd22 "is_heard" = true) (k22 : PySem.W.keepIn K (.ref f22) = true)
    (a23 : PySem.W.nsIn K mainGlobals "fits" = some (some (.ref f23))) (l23 : K.lookup f23 = some ⟨oc23, od23, .func (PySem.W.fnOf "fits" "fits" (defArgs s_fits) (defBody s_fits) (defScope s_fits) .none kV23 dc23 pm23 an23 cd23 ct23), sl23⟩) (c23 : PySem.W.codeIn K cd23 "fits" = true) (k23 : PySem.W.keepIn K (.ref f23) = true)
    (a24 : PySem.W.nsIn K mainGlobals "look_at_stand" = some (some (.ref f24))) (l24 : K.lookup f24 = some ⟨oc24, od24, .func (PySem.W.fnOf "look_at_stand" "look_at_stand" (defArgs s_look_at_stand) (defBody s_look_at_stand) (defScope s_look_at_stand) .none kV24 dc24 pm24 an24 cd24 ct24), sl24⟩) (c24 : PySem.W.codeIn K cd24 "look_at_stand" = true) (k24 : PySem.W.keepIn K (.ref f24) = true)
    (a26 : PySem.W.nsIn K mainGlobals "ended" = some (some (.ref f26))) (l26 : K.lookup f26 = some ⟨oc26, od26, .func (PySem.W.fnOf "ended" "ended" (defArgs s_ended) (defBody s_ended) (defScope s_ended) .none kV26 dc26 pm26 an26 cd26 ct26), sl26⟩) (c26 : PySem.W.codeIn K cd26 "ended" = true) (k26 : PySem.W.keepIn K (.ref f26) = true)
    (a27 : PySem.W.nsIn K mainGlobals "step" = some (some (.ref f27))) (l27 : K.lookup f27 = some ⟨oc27, od27, .func (PySem.W.fnOf "step" "step" (defArgs s_step) (defBody s_step) (defScope s_step) .none kV27 dc27 pm27 an27 cd27 ct27), sl27⟩) (c27 : PySem.W.codeIn K cd27 "step" = true) (k27 : PySem.W.keepIn K (.ref f27) = true)
    (a28 : PySem.W.nsIn K mainGlobals "led" = some (some (.ref f28))) (l28 : K.lookup f28 = some ⟨oc28, od28, .func (PySem.W.fnOf "led" "led" (defArgs s_led) (defBody s_led) (defScope s_led) .none kV28 dc28 pm28 an28 cd28 ct28), sl28⟩) (c28 : PySem.W.codeIn K cd28 "led" = true) (k28 : PySem.W.keepIn K (.ref f28) = true)
    (a29 : PySem.W.nsIn K mainGlobals "left_of" = some (some (.ref f29))) (l29 : K.lookup f29 = some ⟨oc29, od29, .func (PySem.W.fnOf "left_of" "left_of" (defArgs s_left_of) (defBody s_left_of) (defScope s_left_of) .none kV29 dc29 pm29 an29 cd29 ct29), sl29⟩) (c29 : PySem.W.codeIn K cd29 "left_of" = true) (k29 : PySem.W.keepIn K (.ref f29) = true)
    (a30 : PySem.W.nsIn K mainGlobals "recordings_of" = some (some (.ref f30))) (l30 : K.lookup f30 = some ⟨oc30, od30, .func (PySem.W.fnOf "recordings_of" "recordings_of" (defArgs s_recordings_of) (defBody s_recordings_of) (defScope s_recordings_of) .none kV30 dc30 pm30 an30 cd30 ct30), sl30⟩) (c30 : PySem.W.codeIn K cd30 "recordings_of" = true) (k30 : PySem.W.keepIn K (.ref f30) = true)
    (a31 : PySem.W.nsIn K mainGlobals "sounds_of" = some (some (.ref f31))) (l31 : K.lookup f31 = some ⟨oc31, od31, .func (PySem.W.fnOf "sounds_of" "sounds_of" (defArgs s_sounds_of) (defBody s_sounds_of) (defScope s_sounds_of) .none kV31 dc31 pm31 an31 cd31 ct31), sl31⟩) (c31 : PySem.W.codeIn K cd31 "sounds_of" = true) (k31 : PySem.W.keepIn K (.ref f31) = true)
    (a32 : PySem.W.nsIn K mainGlobals "meet" = some (some (.ref f32))) (l32 : K.lookup f32 = some ⟨oc32, od32, .func (PySem.W.fnOf "meet" "meet" (defArgs s_meet) (defBody s_meet) (defScope s_meet) .none kV32 dc32 pm32 an32 cd32 ct32), sl32⟩) (c32 : PySem.W.codeIn K cd32 "meet" = true) (k32 : PySem.W.keepIn K (.ref f32) = true)
    (a33 : PySem.W.nsIn K mainGlobals "is_in" = some (some (.ref f33))) (l33 : K.lookup f33 = some ⟨oc33, od33, .func (PySem.W.fnOf "is_in" "is_in" (defArgs s_is_in) (defBody s_is_in) (defScope s_is_in) .none kV33 dc33 pm33 an33 cd33 ct33), sl33⟩) (c33 : PySem.W.codeIn K cd33 "is_in" = true) (k33 : PySem.W.keepIn K (.ref f33) = true)
    (a34 : PySem.W.nsIn K mainGlobals "harms_of" = some (some (.ref f34))) (l34 : K.lookup f34 = some ⟨oc34, od34, .func (PySem.W.fnOf "harms_of" "harms_of" (defArgs s_harms_of) (defBody s_harms_of) (defScope s_harms_of) .none kV34 dc34 pm34 an34 cd34 ct34), sl34⟩) (c34 : PySem.W.codeIn K cd34 "harms_of" = true) (k34 : PySem.W.keepIn K (.ref f34) = true)
    (a35 : PySem.W.nsIn K mainGlobals "after" = some (some (.ref f35))) (l35 : K.lookup f35 = some ⟨oc35, od35, .func (PySem.W.fnOf "after" "after" (defArgs s_after) (defBody s_after) (defScope s_after) .none kV35 dc35 pm35 an35 cd35 ct35), sl35⟩) (c35 : PySem.W.codeIn K cd35 "after" = true) (k35 : PySem.W.keepIn K (.ref f35) = true)
    (a36 : PySem.W.nsIn K mainGlobals "stand_behind" = some (some (.ref f36))) (l36 : K.lookup f36 = some ⟨oc36, od36, .func (PySem.W.fnOf "stand_behind" "stand_behind" (defArgs s_stand_behind) (defBody s_stand_behind) (defScope s_stand_behind) .none kV36 dc36 pm36 an36 cd36 ct36), sl36⟩) (c36 : PySem.W.codeIn K cd36 "stand_behind" = true) (k36 : PySem.W.keepIn K (.ref f36) = true)
    (a37 : PySem.W.nsIn K mainGlobals "recordings" = some (some (.ref f37))) (l37 : K.lookup f37 = some ⟨oc37, od37, .func (PySem.W.fnOf "recordings" "recordings" (defArgs s_recordings) (defBody s_recordings) (defScope s_recordings) .none kV37 dc37 pm37 an37 cd37 ct37), sl37⟩) (c37 : PySem.W.codeIn K cd37 "recordings" = true) (k37 : PySem.W.keepIn K (.ref f37) = true)
    (a38 : PySem.W.nsIn K mainGlobals "sounds" = some (some (.ref f38))) (l38 : K.lookup f38 = some ⟨oc38, od38, .func (PySem.W.fnOf "sounds" "sounds" (defArgs s_sounds) (defBody s_sounds) (defScope s_sounds) .none kV38 dc38 pm38 an38 cd38 ct38), sl38⟩) (c38 : PySem.W.codeIn K cd38 "sounds" = true) (k38 : PySem.W.keepIn K (.ref f38) = true)
    (a39 : PySem.W.nsIn K mainGlobals "row_harms" = some (some (.ref f39))) (l39 : K.lookup f39 = some ⟨oc39, od39, .func (PySem.W.fnOf "row_harms" "row_harms" (defArgs s_row_harms) (defBody s_row_harms) (defScope s_row_harms) .none kV39 dc39 pm39 an39 cd39 ct39), sl39⟩) (c39 : PySem.W.codeIn K cd39 "row_harms" = true) (k39 : PySem.W.keepIn K (.ref f39) = true)
    (a40 : PySem.W.nsIn K mainGlobals "is_of" = some (some (.ref f40))) (l40 : K.lookup f40 = some ⟨oc40, od40, .func (PySem.W.fnOf "is_of" "is_of" (defArgs s_is_of) (defBody s_is_of) (defScope s_is_of) .none kV40 dc40 pm40 an40 cd40 ct40), sl40⟩) (c40 : PySem.W.codeIn K cd40 "is_of" = true) (k40 : PySem.W.keepIn K (.ref f40) = true)
    (a42 : PySem.W.nsIn K mainGlobals "_law_spring" = some (some (.ref f42))) (l42 : K.lookup f42 = some ⟨oc42, od42, .func (PySem.W.fnOf "_law_spring" "_law_spring" (defArgs s_f_law_spring) (defBody s_f_law_spring) (defScope s_f_law_spring) .none kV42 dc42 pm42 an42 cd42 ct42), sl42⟩) (c42 : PySem.W.codeIn K cd42 "_law_spring" = true) (k42 : PySem.W.keepIn K (.ref f42) = true)
    (a43 : PySem.W.nsIn K mainGlobals "_law_pick" = some (some (.ref f43))) (l43 : K.lookup f43 = some ⟨oc43, od43, .func (PySem.W.fnOf "_law_pick" "_law_pick" (defArgs s_f_law_pick) (defBody s_f_law_pick) (defScope s_f_law_pick) .none kV43 dc43 pm43 an43 cd43 ct43), sl43⟩) (c43 : PySem.W.codeIn K cd43 "_law_pick" = true) (k43 : PySem.W.keepIn K (.ref f43) = true)
    (a44 : PySem.W.nsIn K mainGlobals "_law_kind" = some (some (.ref f44))) (l44 : K.lookup f44 = some ⟨oc44, od44, .func (PySem.W.fnOf "_law_kind" "_law_kind" (defArgs s_f_law_kind) (defBody s_f_law_kind) (defScope s_f_law_kind) .none kV44 dc44 pm44 an44 cd44 ct44), sl44⟩) (c44 : PySem.W.codeIn K cd44 "_law_kind" = true) (k44 : PySem.W.keepIn K (.ref f44) = true)
    (a45 : PySem.W.nsIn K mainGlobals "_law_twins" = some (some (.ref f45))) (l45 : K.lookup f45 = some ⟨oc45, od45, .func (PySem.W.fnOf "_law_twins" "_law_twins" (defArgs s_f_law_twins) (defBody s_f_law_twins) (defScope s_f_law_twins) .none kV45 dc45 pm45 an45 cd45 ct45), sl45⟩) (c45 : PySem.W.codeIn K cd45 "_law_twins" = true) (k45 : PySem.W.keepIn K (.ref f45) = true)
    (a46 : PySem.W.nsIn K mainGlobals "_law_recorder" = some (some (.ref f46))) (l46 : K.lookup f46 = some ⟨oc46, od46, .func (PySem.W.fnOf "_law_recorder" "_law_recorder" (defArgs s_f_law_recorder) (defBody s_f_law_recorder) (defScope s_f_law_recorder) .none kV46 dc46 pm46 an46 cd46 ct46), sl46⟩) (c46 : PySem.W.codeIn K cd46 "_law_recorder" = true) (k46 : PySem.W.keepIn K (.ref f46) = true)
    (a47 : PySem.W.nsIn K mainGlobals "_law_world" = some (some (.ref f47))) (l47 : K.lookup f47 = some ⟨oc47, od47, .func (PySem.W.fnOf "_law_world" "_law_world" (defArgs s_f_law_world) (defBody s_f_law_world) (defScope s_f_law_world) .none kV47 dc47 pm47 an47 cd47 ct47), sl47⟩) (c47 : PySem.W.codeIn K cd47 "_law_world" = true) (k47 : PySem.W.keepIn K (.ref f47) = true)
    (a48 : PySem.W.nsIn K mainGlobals "_law_tapes" = some (some (.ref f48))) (l48 : K.lookup f48 = some ⟨oc48, od48, .func (PySem.W.fnOf "_law_tapes" "_law_tapes" (defArgs s_f_law_tapes) (defBody s_f_law_tapes) (defScope s_f_law_tapes) .none kV48 dc48 pm48 an48 cd48 ct48), sl48⟩) (c48 : PySem.W.codeIn K cd48 "_law_tapes" = true) (k48 : PySem.W.keepIn K (.ref f48) = true)
    (a49 : PySem.W.nsIn K mainGlobals "_law_sounds" = some (some (.ref f49))) (l49 : K.lookup f49 = some ⟨oc49, od49, .func (PySem.W.fnOf "_law_sounds" "_law_sounds" (defArgs s_f_law_sounds) (defBody s_f_law_sounds) (defScope s_f_law_sounds) .none kV49 dc49 pm49 an49 cd49 ct49), sl49⟩) (c49 : PySem.W.codeIn K cd49 "_law_sounds" = true) (k49 : PySem.W.keepIn K (.ref f49) = true)
    (a50 : PySem.W.nsIn K mainGlobals "_law_kept" = some (some (.ref f50))) (l50 : K.lookup f50 = some ⟨oc50, od50, .func (PySem.W.fnOf "_law_kept" "_law_kept" (defArgs s_f_law_kept) (defBody s_f_law_kept) (defScope s_f_law_kept) .none kV50 dc50 pm50 an50 cd50 ct50), sl50⟩) (c50 : PySem.W.codeIn K cd50 "_law_kept" = true) (k50 : PySem.W.keepIn K (.ref f50) = true)
    (a51 : PySem.W.nsIn K mainGlobals "_law_harms" = some (some (.ref f51))) (l51 : K.lookup f51 = some ⟨oc51, od51, .func (PySem.W.fnOf "_law_harms" "_law_harms" (defArgs s_f_law_harms) (defBody s_f_law_harms) (defScope s_f_law_harms) .none kV51 dc51 pm51 an51 cd51 ct51), sl51⟩) (c51 : PySem.W.codeIn K cd51 "_law_harms" = true) (k51 : PySem.W.keepIn K (.ref f51) = true)
    (a52 : PySem.W.nsIn K mainGlobals "_law_is_of" = some (some (.ref f52))) (l52 : K.lookup f52 = some ⟨oc52, od52, .func (PySem.W.fnOf "_law_is_of" "_law_is_of" (defArgs s_f_law_is_of) (defBody s_f_law_is_of) (defScope s_f_law_is_of) .none kV52 dc52 pm52 an52 cd52 ct52), sl52⟩) (c52 : PySem.W.codeIn K cd52 "_law_is_of" = true) (k52 : PySem.W.keepIn K (.ref f52) = true)
    (a53 : PySem.W.nsIn K mainGlobals "_law_tick" = some (some (.ref f53))) (l53 : K.lookup f53 = some ⟨oc53, od53, .func (PySem.W.fnOf "_law_tick" "_law_tick" (defArgs s_f_law_tick) (defBody s_f_law_tick) (defScope s_f_law_tick) .none kV53 dc53 pm53 an53 cd53 ct53), sl53⟩) (c53 : PySem.W.codeIn K cd53 "_law_tick" = true) (k53 : PySem.W.keepIn K (.ref f53) = true)
    (a56 : PySem.W.nsIn K mainGlobals "law" = some (some (.ref f56))) (l56 : K.lookup f56 = some ⟨oc56, od56, .func (PySem.W.fnOf "law" "law" (defArgs s_law) (defBody s_law) (defScope s_law) .none kV56 dc56 pm56 an56 cd56 ct56), sl56⟩) (c56 : PySem.W.codeIn K cd56 "law" = true) (k56 : PySem.W.keepIn K (.ref f56) = true)
    (z_abs : PySem.W.nsIn K mainGlobals "abs" = some none)
    (z_all : PySem.W.nsIn K mainGlobals "all" = some none)
    (z_any : PySem.W.nsIn K mainGlobals "any" = some none)
    (z_bool : PySem.W.nsIn K mainGlobals "bool" = some none)
    (z_enumerate : PySem.W.nsIn K mainGlobals "enumerate" = some none)
    (z_int : PySem.W.nsIn K mainGlobals "int" = some none)
    (z_isinstance : PySem.W.nsIn K mainGlobals "isinstance" = some none)
    (z_len : PySem.W.nsIn K mainGlobals "len" = some none)
    (z_list : PySem.W.nsIn K mainGlobals "list" = some none)
    (z_max : PySem.W.nsIn K mainGlobals "max" = some none)
    (z_min : PySem.W.nsIn K mainGlobals "min" = some none)
    (z_range : PySem.W.nsIn K mainGlobals "range" = some none)
    (z_set : PySem.W.nsIn K mainGlobals "set" = some none)
    (z_sorted : PySem.W.nsIn K mainGlobals "sorted" = some none)
    (z_str : PySem.W.nsIn K mainGlobals "str" = some none)
    (z_tuple : PySem.W.nsIn K mainGlobals "tuple" = some none)
    (z_zip : PySem.W.nsIn K mainGlobals "zip" = some none)
    (ac8 : PySem.W.nsIn K mainGlobals "AWAKE" = some (some u8)) (rc8 : Cst K u8 cst_AWAKE)
    (ac9 : PySem.W.nsIn K mainGlobals "RECORDS" = some (some u9)) (rc9 : Cst K u9 cst_RECORDS)
    (ac10 : PySem.W.nsIn K mainGlobals "SLEEPS" = some (some u10)) (rc10 : Cst K u10 cst_SLEEPS)
    (ac11 : PySem.W.nsIn K mainGlobals "FRESH" = some (some u11)) (rc11 : Cst K u11 cst_FRESH)
    (ac12 : PySem.W.nsIn K mainGlobals "MOST_TICKS" = some (some u12)) (rc12 : Cst K u12 cst_MOST_TICKS)
    : ∃ fd : FuncData, (∀ (s : Shared) (v : Value), BindsTo s fd ⟨[v], []⟩ [("script", v)]) ∧ ∀ base : Heap, K.In base → base.Ns mainGlobals mg → FnOk l.prog w K mg base CX0 10 fa fd ["script"] (spF K none F_law) := by
  have e : f56 = fa := by have e := hfa.symm.trans (PySem.W.mg_of X G a56); cases e; rfl
  subst e
  let fs : Nat → Addr := fun i => match i with | 13 => f13 | 14 => f14 | 15 => f15 | 16 => f16 | 17 => f17 | 18 => f18 | 19 => f19 | 20 => f20 | 21 => f21 | 22 => f22 | 23 => f23 | 24 => f24 | 26 => f26 | 27 => f27 | 28 => f28 | 29 => f29 | 30 => f30 | 31 => f31 | 32 => f32 | 33 => f33 | 34 => f34 | 35 => f35 | 36 => f36 | 37 => f37 | 38 => f38 | 39 => f39 | 40 => f40 | 42 => f42 | 43 => f43 | 44 => f44 | 45 => f45 | 46 => f46 | 47 => f47 | 48 => f48 | 49 => f49 | 50 => f50 | 51 => f51 | 52 => f52 | 53 => f53 | 56 => f56 | _ => 0
  let fds : Nat → FuncData := fun i => match i with | 13 => PySem.W.fnOf "is_within" "is_within" (defArgs s_is_within) (defBody s_is_within) (defScope s_is_within) .none kV13 dc13 pm13 an13 cd13 ct13 | 14 => PySem.W.fnOf "is_row_of" "is_row_of" (defArgs s_is_row_of) (defBody s_is_row_of) (defScope s_is_row_of) .none kV14 dc14 pm14 an14 cd14 ct14 | 15 => PySem.W.fnOf "is_recorder" "is_recorder" (defArgs s_is_recorder) (defBody s_is_recorder) (defScope s_is_recorder) .none kV15 dc15 pm15 an15 cd15 ct15 | 16 => PySem.W.fnOf "is_world" "is_world" (defArgs s_is_world) (defBody s_is_world) (defScope s_is_world) .none kV16 dc16 pm16 an16 cd16 ct16 | 17 => PySem.W.fnOf "is_row" "is_row" (defArgs s_is_row) (defBody s_is_row) (defScope s_is_row) .none kV17 dc17 pm17 an17 cd17 ct17 | 18 => PySem.W.fnOf "look_at_recorder" "look_at_recorder" (defArgs s_look_at_recorder) (defBody s_look_at_recorder) (defScope s_look_at_recorder) .none kV18 dc18 pm18 an18 cd18 ct18 | 19 => PySem.W.fnOf "look_at_world" "look_at_world" (defArgs s_look_at_world) (defBody s_look_at_world) (defScope s_look_at_world) .none kV19 dc19 pm19 an19 cd19 ct19 | 20 => PySem.W.fnOf "look_at_row" "look_at_row" (defArgs s_look_at_row) (defBody s_look_at_row) (defScope s_look_at_row) .none kV20 dc20 pm20 an20 cd20 ct20 | 21 => PySem.W.fnOf "look_at_sound" "look_at_sound" (defArgs s_look_at_sound) (defBody s_look_at_sound) (defScope s_look_at_sound) .none kV21 dc21 pm21 an21 cd21 ct21 | 22 => PySem.W.fnOf "is_heard" "is_heard" (defArgs s_is_heard) (defBody s_is_heard) (defScope s_is_heard) .none kV22 dc22 pm22 an22 cd22 ct22 | 23 => PySem.W.fnOf "fits" "fits" (defArgs s_fits) (defBody s_fits) (defScope s_fits) .none kV23 dc23 pm23 an23 cd23 ct23 | 24 => PySem.W.fnOf "look_at_stand" "look_at_stand" (defArgs s_look_at_stand) (defBody s_look_at_stand) (defScope s_look_at_stand) .none kV24 dc24 pm24 an24 cd24 ct24 | 26 => PySem.W.fnOf "ended" "ended" (defArgs s_ended) (defBody s_ended) (defScope s_ended) .none kV26 dc26 pm26 an26 cd26 ct26 | 27 => PySem.W.fnOf "step" "step" (defArgs s_step) (defBody s_step) (defScope s_step) .none kV27 dc27 pm27 an27 cd27 ct27 | 28 => PySem.W.fnOf "led" "led" (defArgs s_led) (defBody s_led) (defScope s_led) .none kV28 dc28 pm28 an28 cd28 ct28 | 29 => PySem.W.fnOf "left_of" "left_of" (defArgs s_left_of) (defBody s_left_of) (defScope s_left_of) .none kV29 dc29 pm29 an29 cd29 ct29 | 30 => PySem.W.fnOf "recordings_of" "recordings_of" (defArgs s_recordings_of) (defBody s_recordings_of) (defScope s_recordings_of) .none kV30 dc30 pm30 an30 cd30 ct30 | 31 => PySem.W.fnOf "sounds_of" "sounds_of" (defArgs s_sounds_of) (defBody s_sounds_of) (defScope s_sounds_of) .none kV31 dc31 pm31 an31 cd31 ct31 | 32 => PySem.W.fnOf "meet" "meet" (defArgs s_meet) (defBody s_meet) (defScope s_meet) .none kV32 dc32 pm32 an32 cd32 ct32 | 33 => PySem.W.fnOf "is_in" "is_in" (defArgs s_is_in) (defBody s_is_in) (defScope s_is_in) .none kV33 dc33 pm33 an33 cd33 ct33 | 34 => PySem.W.fnOf "harms_of" "harms_of" (defArgs s_harms_of) (defBody s_harms_of) (defScope s_harms_of) .none kV34 dc34 pm34 an34 cd34 ct34 | 35 => PySem.W.fnOf "after" "after" (defArgs s_after) (defBody s_after) (defScope s_after) .none kV35 dc35 pm35 an35 cd35 ct35 | 36 => PySem.W.fnOf "stand_behind" "stand_behind" (defArgs s_stand_behind) (defBody s_stand_behind) (defScope s_stand_behind) .none kV36 dc36 pm36 an36 cd36 ct36 | 37 => PySem.W.fnOf "recordings" "recordings" (defArgs s_recordings) (defBody s_recordings) (defScope s_recordings) .none kV37 dc37 pm37 an37 cd37 ct37 | 38 => PySem.W.fnOf "sounds" "sounds" (defArgs s_sounds) (defBody s_sounds) (defScope s_sounds) .none kV38 dc38 pm38 an38 cd38 ct38 | 39 => PySem.W.fnOf "row_harms" "row_harms" (defArgs s_row_harms) (defBody s_row_harms) (defScope s_row_harms) .none kV39 dc39 pm39 an39 cd39 ct39 | 40 => PySem.W.fnOf "is_of" "is_of" (defArgs s_is_of) (defBody s_is_of) (defScope s_is_of) .none kV40 dc40 pm40 an40 cd40 ct40 | 42 => PySem.W.fnOf "_law_spring" "_law_spring" (defArgs s_f_law_spring) (defBody s_f_law_spring) (defScope s_f_law_spring) .none kV42 dc42 pm42 an42 cd42 ct42 | 43 => PySem.W.fnOf "_law_pick" "_law_pick" (defArgs s_f_law_pick) (defBody s_f_law_pick) (defScope s_f_law_pick) .none kV43 dc43 pm43 an43 cd43 ct43 | 44 => PySem.W.fnOf "_law_kind" "_law_kind" (defArgs s_f_law_kind) (defBody s_f_law_kind) (defScope s_f_law_kind) .none kV44 dc44 pm44 an44 cd44 ct44 | 45 => PySem.W.fnOf "_law_twins" "_law_twins" (defArgs s_f_law_twins) (defBody s_f_law_twins) (defScope s_f_law_twins) .none kV45 dc45 pm45 an45 cd45 ct45 | 46 => PySem.W.fnOf "_law_recorder" "_law_recorder" (defArgs s_f_law_recorder) (defBody s_f_law_recorder) (defScope s_f_law_recorder) .none kV46 dc46 pm46 an46 cd46 ct46 | 47 => PySem.W.fnOf "_law_world" "_law_world" (defArgs s_f_law_world) (defBody s_f_law_world) (defScope s_f_law_world) .none kV47 dc47 pm47 an47 cd47 ct47 | 48 => PySem.W.fnOf "_law_tapes" "_law_tapes" (defArgs s_f_law_tapes) (defBody s_f_law_tapes) (defScope s_f_law_tapes) .none kV48 dc48 pm48 an48 cd48 ct48 | 49 => PySem.W.fnOf "_law_sounds" "_law_sounds" (defArgs s_f_law_sounds) (defBody s_f_law_sounds) (defScope s_f_law_sounds) .none kV49 dc49 pm49 an49 cd49 ct49 | 50 => PySem.W.fnOf "_law_kept" "_law_kept" (defArgs s_f_law_kept) (defBody s_f_law_kept) (defScope s_f_law_kept) .none kV50 dc50 pm50 an50 cd50 ct50 | 51 => PySem.W.fnOf "_law_harms" "_law_harms" (defArgs s_f_law_harms) (defBody s_f_law_harms) (defScope s_f_law_harms) .none kV51 dc51 pm51 an51 cd51 ct51 | 52 => PySem.W.fnOf "_law_is_of" "_law_is_of" (defArgs s_f_law_is_of) (defBody s_f_law_is_of) (defScope s_f_law_is_of) .none kV52 dc52 pm52 an52 cd52 ct52 | 53 => PySem.W.fnOf "_law_tick" "_law_tick" (defArgs s_f_law_tick) (defBody s_f_law_tick) (defScope s_f_law_tick) .none kV53 dc53 pm53 an53 cd53 ct53 | 56 => PySem.W.fnOf "law" "law" (defArgs s_law) (defBody s_law) (defScope s_law) .none kV56 dc56 pm56 an56 cd56 ct56 | _ => PySem.W.fnOf "law" "law" (defArgs s_law) (defBody s_law) (defScope s_law) .none kV56 dc56 pm56 an56 cd56 ct56
  let us : Nat → Value := fun i => match i with | 8 => u8 | 9 => u9 | 10 => u10 | 11 => u11 | 12 => u12 | _ => .none
  have T : Txt K mg fs fds us := {
    f_is_within := fun_mk (st := s_is_within) l13 c13 k13
    m_is_within := PySem.W.mg_of X G a13
    b_is_within := binds_mk (st := s_is_within) P_is_within l13 c13 k13 fun _ _ _ _ _ _ us hl => match us, hl with | [_, _, _], _ => rfl
    f_is_row_of := fun_mk (st := s_is_row_of) l14 c14 k14
    m_is_row_of := PySem.W.mg_of X G a14
    b_is_row_of := binds_mk (st := s_is_row_of) P_is_row_of l14 c14 k14 fun _ _ _ _ _ _ us hl => match us, hl with | [_, _], _ => rfl
    f_is_recorder := fun_mk (st := s_is_recorder) l15 c15 k15
    m_is_recorder := PySem.W.mg_of X G a15
    b_is_recorder := binds_mk (st := s_is_recorder) P_is_recorder l15 c15 k15 fun _ _ _ _ _ _ us hl => match us, hl with | [_], _ => rfl
    f_is_world := fun_mk (st := s_is_world) l16 c16 k16
    m_is_world := PySem.W.mg_of X G a16
    b_is_world := binds_mk (st := s_is_world) P_is_world l16 c16 k16 fun _ _ _ _ _ _ us hl => match us, hl with | [_], _ => rfl
    f_is_row := fun_mk (st := s_is_row) l17 c17 k17
    m_is_row := PySem.W.mg_of X G a17
    b_is_row := binds_mk (st := s_is_row) P_is_row l17 c17 k17 fun _ _ _ _ _ _ us hl => match us, hl with | [_], _ => rfl
    f_look_at_recorder := fun_mk (st := s_look_at_recorder) l18 c18 k18
    m_look_at_recorder := PySem.W.mg_of X G a18
    b_look_at_recorder := binds_mk (st := s_look_at_recorder) P_look_at_recorder l18 c18 k18 fun _ _ _ _ _ _ us hl => match us, hl with | [_], _ => rfl
    f_look_at_world := fun_mk (st := s_look_at_world) l19 c19 k19
    m_look_at_world := PySem.W.mg_of X G a19
    b_look_at_world := binds_mk (st := s_look_at_world) P_look_at_world l19 c19 k19 fun _ _ _ _ _ _ us hl => match us, hl with | [_], _ => rfl
    f_look_at_row := fun_mk (st := s_look_at_row) l20 c20 k20
    m_look_at_row := PySem.W.mg_of X G a20
    b_look_at_row := binds_mk (st := s_look_at_row) P_look_at_row l20 c20 k20 fun _ _ _ _ _ _ us hl => match us, hl with | [_], _ => rfl
    f_look_at_sound := fun_mk (st := s_look_at_sound) l21 c21 k21
    m_look_at_sound := PySem.W.mg_of X G a21
    b_look_at_sound := binds_mk (st := s_look_at_sound) P_look_at_sound l21 c21 k21 fun _ _ _ _ _ _ us hl => match us, hl with | [_], _ => rfl
    f_is_heard := fun_mk (st := s_is_heard) l22 c22 k22
    m_is_heard := PySem.W.mg_of X G a22
    b_is_heard := binds_mk (st := s_is_heard) P_is_heard l22 c22 k22 fun _ _ _ _ _ _ us hl => match us, hl with | [_, _], _ => rfl
    f_fits := fun_mk (st := s_fits) l23 c23 k23
    m_fits := PySem.W.mg_of X G a23
    b_fits := binds_mk (st := s_fits) P_fits l23 c23 k23 fun _ _ _ _ _ _ us hl => match us, hl with | [_, _], _ => rfl
    f_look_at_stand := fun_mk (st := s_look_at_stand) l24 c24 k24
    m_look_at_stand := PySem.W.mg_of X G a24
    b_look_at_stand := binds_mk (st := s_look_at_stand) P_look_at_stand l24 c24 k24 fun _ _ _ _ _ _ us hl => match us, hl with | [_, _], _ => rfl
    f_ended := fun_mk (st := s_ended) l26 c26 k26
    m_ended := PySem.W.mg_of X G a26
    b_ended := binds_mk (st := s_ended) P_ended l26 c26 k26 fun _ _ _ _ _ _ us hl => match us, hl with | [_], _ => rfl
    f_step := fun_mk (st := s_step) l27 c27 k27
    m_step := PySem.W.mg_of X G a27
    b_step := binds_mk (st := s_step) P_step l27 c27 k27 fun _ _ _ _ _ _ us hl => match us, hl with | [_, _, _], _ => rfl
    f_led := fun_mk (st := s_led) l28 c28 k28
    m_led := PySem.W.mg_of X G a28
    b_led := binds_mk (st := s_led) P_led l28 c28 k28 fun _ _ _ _ _ _ us hl => match us, hl with | [_, _], _ => rfl
    f_left_of := fun_mk (st := s_left_of) l29 c29 k29
    m_left_of := PySem.W.mg_of X G a29
    b_left_of := binds_mk (st := s_left_of) P_left_of l29 c29 k29 fun _ _ _ _ _ _ us hl => match us, hl with | [_, _], _ => rfl
    f_recordings_of := fun_mk (st := s_recordings_of) l30 c30 k30
    m_recordings_of := PySem.W.mg_of X G a30
    b_recordings_of := binds_mk (st := s_recordings_of) P_recordings_of l30 c30 k30 fun _ _ _ _ _ _ us hl => match us, hl with | [_, _], _ => rfl
    f_sounds_of := fun_mk (st := s_sounds_of) l31 c31 k31
    m_sounds_of := PySem.W.mg_of X G a31
    b_sounds_of := binds_mk (st := s_sounds_of) P_sounds_of l31 c31 k31 fun _ _ _ _ _ _ us hl => match us, hl with | [_], _ => rfl
    f_meet := fun_mk (st := s_meet) l32 c32 k32
    m_meet := PySem.W.mg_of X G a32
    b_meet := binds_mk (st := s_meet) P_meet l32 c32 k32 fun _ _ _ _ _ _ us hl => match us, hl with | [_, _], _ => rfl
    f_is_in := fun_mk (st := s_is_in) l33 c33 k33
    m_is_in := PySem.W.mg_of X G a33
    b_is_in := binds_mk (st := s_is_in) P_is_in l33 c33 k33 fun _ _ _ _ _ _ us hl => match us, hl with | [_, _], _ => rfl
    f_harms_of := fun_mk (st := s_harms_of) l34 c34 k34
    m_harms_of := PySem.W.mg_of X G a34
    b_harms_of := binds_mk (st := s_harms_of) P_harms_of l34 c34 k34 fun _ _ _ _ _ _ us hl => match us, hl with | [_, _], _ => rfl
    f_after := fun_mk (st := s_after) l35 c35 k35
    m_after := PySem.W.mg_of X G a35
    b_after := binds_mk (st := s_after) P_after l35 c35 k35 fun _ _ _ _ _ _ us hl => match us, hl with | [_, _, _], _ => rfl
    f_stand_behind := fun_mk (st := s_stand_behind) l36 c36 k36
    m_stand_behind := PySem.W.mg_of X G a36
    b_stand_behind := binds_mk (st := s_stand_behind) P_stand_behind l36 c36 k36 fun _ _ _ _ _ _ us hl => match us, hl with | [_, _], _ => rfl
    f_recordings := fun_mk (st := s_recordings) l37 c37 k37
    m_recordings := PySem.W.mg_of X G a37
    b_recordings := binds_mk (st := s_recordings) P_recordings l37 c37 k37 fun _ _ _ _ _ _ us hl => match us, hl with | [_, _], _ => rfl
    f_sounds := fun_mk (st := s_sounds) l38 c38 k38
    m_sounds := PySem.W.mg_of X G a38
    b_sounds := binds_mk (st := s_sounds) P_sounds l38 c38 k38 fun _ _ _ _ _ _ us hl => match us, hl with | [_], _ => rfl
    f_row_harms := fun_mk (st := s_row_harms) l39 c39 k39
    m_row_harms := PySem.W.mg_of X G a39
    b_row_harms := binds_mk (st := s_row_harms) P_row_harms l39 c39 k39 fun _ _ _ _ _ _ us hl => match us, hl with | [_, _], _ => rfl
    f_is_of := fun_mk (st := s_is_of) l40 c40 k40
    m_is_of := PySem.W.mg_of X G a40
    b_is_of := binds_mk (st := s_is_of) P_is_of l40 c40 k40 fun _ _ _ _ _ _ us hl => match us, hl with | [_, _], _ => rfl
    f_f_law_spring := fun_mk (st := s_f_law_spring) l42 c42 k42
    m_f_law_spring := PySem.W.mg_of X G a42
    b_f_law_spring := binds_mk (st := s_f_law_spring) P_f_law_spring l42 c42 k42 fun _ _ _ _ _ _ us hl => match us, hl with | [_, _], _ => rfl
    f_f_law_pick := fun_mk (st := s_f_law_pick) l43 c43 k43
    m_f_law_pick := PySem.W.mg_of X G a43
    b_f_law_pick := binds_mk (st := s_f_law_pick) P_f_law_pick l43 c43 k43 fun _ _ _ _ _ _ us hl => match us, hl with | [_, _], _ => rfl
    f_f_law_kind := fun_mk (st := s_f_law_kind) l44 c44 k44
    m_f_law_kind := PySem.W.mg_of X G a44
    b_f_law_kind := binds_mk (st := s_f_law_kind) P_f_law_kind l44 c44 k44 fun _ _ _ _ _ _ us hl => match us, hl with | [_], _ => rfl
    f_f_law_twins := fun_mk (st := s_f_law_twins) l45 c45 k45
    m_f_law_twins := PySem.W.mg_of X G a45
    b_f_law_twins := binds_mk (st := s_f_law_twins) P_f_law_twins l45 c45 k45 fun _ _ _ _ _ _ us hl => match us, hl with | [_, _], _ => rfl
    f_f_law_recorder := fun_mk (st := s_f_law_recorder) l46 c46 k46
    m_f_law_recorder := PySem.W.mg_of X G a46
    b_f_law_recorder := binds_mk (st := s_f_law_recorder) P_f_law_recorder l46 c46 k46 fun _ _ _ _ _ _ us hl => match us, hl with | [_], _ => rfl
    f_f_law_world := fun_mk (st := s_f_law_world) l47 c47 k47
    m_f_law_world := PySem.W.mg_of X G a47
    b_f_law_world := binds_mk (st := s_f_law_world) P_f_law_world l47 c47 k47 fun _ _ _ _ _ _ us hl => match us, hl with | [_], _ => rfl
    f_f_law_tapes := fun_mk (st := s_f_law_tapes) l48 c48 k48
    m_f_law_tapes := PySem.W.mg_of X G a48
    b_f_law_tapes := binds_mk (st := s_f_law_tapes) P_f_law_tapes l48 c48 k48 fun _ _ _ _ _ _ us hl => match us, hl with | [_, _], _ => rfl
    f_f_law_sounds := fun_mk (st := s_f_law_sounds) l49 c49 k49
    m_f_law_sounds := PySem.W.mg_of X G a49
    b_f_law_sounds := binds_mk (st := s_f_law_sounds) P_f_law_sounds l49 c49 k49 fun _ _ _ _ _ _ us hl => match us, hl with | [_], _ => rfl
    f_f_law_kept := fun_mk (st := s_f_law_kept) l50 c50 k50
    m_f_law_kept := PySem.W.mg_of X G a50
    b_f_law_kept := binds_mk (st := s_f_law_kept) P_f_law_kept l50 c50 k50 fun _ _ _ _ _ _ us hl => match us, hl with | [_, _], _ => rfl
    f_f_law_harms := fun_mk (st := s_f_law_harms) l51 c51 k51
    m_f_law_harms := PySem.W.mg_of X G a51
    b_f_law_harms := binds_mk (st := s_f_law_harms) P_f_law_harms l51 c51 k51 fun _ _ _ _ _ _ us hl => match us, hl with | [_, _], _ => rfl
    f_f_law_is_of := fun_mk (st := s_f_law_is_of) l52 c52 k52
    m_f_law_is_of := PySem.W.mg_of X G a52
    b_f_law_is_of := binds_mk (st := s_f_law_is_of) P_f_law_is_of l52 c52 k52 fun _ _ _ _ _ _ us hl => match us, hl with | [_, _], _ => rfl
    f_f_law_tick := fun_mk (st := s_f_law_tick) l53 c53 k53
    m_f_law_tick := PySem.W.mg_of X G a53
    b_f_law_tick := binds_mk (st := s_f_law_tick) P_f_law_tick l53 c53 k53 fun _ _ _ _ _ _ us hl => match us, hl with | [_, _, _], _ => rfl
    f_law := fun_mk (st := s_law) l56 c56 k56
    m_law := PySem.W.mg_of X G a56
    b_law := binds_mk (st := s_law) P_law l56 c56 k56 fun _ _ _ _ _ _ us hl => match us, hl with | [_], _ => rfl
    n_abs := PySem.W.mg_none_of X G z_abs
    n_all := PySem.W.mg_none_of X G z_all
    n_any := PySem.W.mg_none_of X G z_any
    n_bool := PySem.W.mg_none_of X G z_bool
    n_enumerate := PySem.W.mg_none_of X G z_enumerate
    n_int := PySem.W.mg_none_of X G z_int
    n_isinstance := PySem.W.mg_none_of X G z_isinstance
    n_len := PySem.W.mg_none_of X G z_len
    n_list := PySem.W.mg_none_of X G z_list
    n_max := PySem.W.mg_none_of X G z_max
    n_min := PySem.W.mg_none_of X G z_min
    n_range := PySem.W.mg_none_of X G z_range
    n_set := PySem.W.mg_none_of X G z_set
    n_sorted := PySem.W.mg_none_of X G z_sorted
    n_str := PySem.W.mg_none_of X G z_str
    n_tuple := PySem.W.mg_none_of X G z_tuple
    n_zip := PySem.W.mg_none_of X G z_zip
    c_AWAKE := PySem.W.mg_of X G ac8
    r_AWAKE := rc8
    c_RECORDS := PySem.W.mg_of X G ac9
    r_RECORDS := rc9
    c_SLEEPS := PySem.W.mg_of X G ac10
    r_SLEEPS := rc10
    c_FRESH := PySem.W.mg_of X G ac11
    r_FRESH := rc11
    c_MOST_TICKS := PySem.W.mg_of X G ac12
    r_MOST_TICKS := rc12
  }
  exact ⟨PySem.W.fnOf "law" "law" (defArgs s_law) (defBody s_law) (defScope s_law) .none kV56 dc56 pm56 an56 cd56 ct56, fun s v => .of_eq rfl, fun base _ _ => ok_law T⟩
theorem walk {l : PySem.W.OpenLaw} {q : Program} {loose : List Str} {XP : (Str → Option Value) → Heap → Prop} {YP : World → Heap → Prop} {d : DefRec} {K : Params → PySem.W.Frag} (hn : l.most = some 63) (hdf : d.params.defaults = [])
    (hY : ∀ (w : World) (h : Heap), YP w h → (K w.params).In h)
    (F : ∀ (w : World) (mg : Str → Option Value) (fa : Addr) (h : Heap), (K w.params).In h → h.Ns mainGlobals mg → mg d.name = some (.ref fa) →
      ∃ fd : FuncData, (∀ (s : Shared) (u : Value), BindsTo s fd ⟨[u], []⟩ [("script", u)]) ∧ ∀ base : Heap, (K w.params).In base → base.Ns mainGlobals mg → FnOk l.prog w (K w.params) mg base CX0 10 fa fd ["script"] (spF (K w.params) none F_law)) :
    PySem.W.WalkO q loose XP YP l.row.toRowW d [] (fun f vs => PySem.call f vs) :=
  L2.walk_ofB (n := 63) (k := 10) (x := "script") (CX := fun _ => CX0) (sp := fun w => spF (K w.params) none F_law) hn (by decide) hdf ⟨rfl, by decide, by decide⟩ hY F (fun w H a ns hl hb _ hS => law_sp hS (F_law_ok (fun n hn => log2_bits (hb n hn)) (Nat.le_trans hl (by decide)))) (fun _ _ _ _ _ h => h)
end
end K2

open PySem PySem.W PyProof.Rows
set_option maxRecDepth 100000 in
set_option maxHeartbeats 0 in
theorem PySem.Challenge.cw_selfstarts_k02_whole_rows_taped_holds : PySem.Challenge.rw_selfstarts_k02_whole_rows_taped.Holds := by
  w_on; o_law; k_head; (case hw => w_witness2)
  k_fill
  refine K2.walk (l := PySem.Challenge.rw_selfstarts_k02_whole_rows_taped) rfl rfl (fun w h Y => PySem.W.kIn_of Y) ?F
  case F =>
    intro w mg fa h KX G hmg
    refine' K2.all_mk KX G hmg ?a13 ?l13 ?c13 ?k13 ?a14 ?l14 ?c14 ?k14 ?a15 ?l15 ?c15 ?k15 ?a16 ?l16 ?c16 ?k16 ?a17 ?l17 ?c17 ?k17 ?a18 ?l18 ?c18 ?k18 ?a19 ?l19 ?c19 ?k19 ?a20 ?l20 ?c20 ?k20 ?a21 ?l21 ?c21 ?k21 ?a22 ?l22 ?c22 ?k22 ?a23 ?l23 ?c23 ?k23 ?a24 ?l24 ?c24 ?k24 ?a26 ?l26 ?c26 ?k26 ?a27 ?l27 ?c27 ?k27 ?a28 ?l28 ?c28 ?k28 ?a29 ?l29 ?c29 ?k29 ?a30 ?l30 ?c30 ?k30 ?a31 ?l31 ?c31 ?k31 ?a32 ?l32 ?c32 ?k32 ?a33 ?l33 ?c33 ?k33 ?a34 ?l34 ?c34 ?k34 ?a35 ?l35 ?c35 ?k35 ?a36 ?l36 ?c36 ?k36 ?a37 ?l37 ?c37 ?k37 ?a38 ?l38 ?c38 ?k38 ?a39 ?l39 ?c39 ?k39 ?a40 ?l40 ?c40 ?k40 ?a42 ?l42 ?c42 ?k42 ?a43 ?l43 ?c43 ?k43 ?a44 ?l44 ?c44 ?k44 ?a45 ?l45 ?c45 ?k45 ?a46 ?l46 ?c46 ?k46 ?a47 ?l47 ?c47 ?k47 ?a48 ?l48 ?c48 ?k48 ?a49 ?l49 ?c49 ?k49 ?a50 ?l50 ?c50 ?k50 ?a51 ?l51 ?c51 ?k51 ?a52 ?l52 ?c52 ?k52 ?a53 ?l53 ?c53 ?k53 ?a56 ?l56 ?c56 ?k56 ?z_abs ?z_all ?z_any ?z_bool ?z_enumerate ?z_int ?z_isinstance ?z_len ?z_list ?z_max ?z_min ?z_range ?z_set ?z_sorted ?z_str ?z_tuple ?z_zip ?ac8 ?rc8 ?ac9 ?rc9 ?ac10 ?rc10 ?ac11 ?rc11 ?ac12 ?rc12
    (case a13 => k_is)
    (case l13 => k_is)
    (case c13 => k_is)
    (case k13 => k_is)
    (case a14 => k_is)
    (case l14 => k_is)
    (case c14 => k_is)
    (case k14 => k_is)
    (case a15 => k_is)
    (case l15 => k_is)
    (case c15 => k_is)
    (case k15 => k_is)
    (case a16 => k_is)
    (case l16 => k_is)
    (case c16 => k_is)
    (case k16 => k_is)
    (case a17 => k_is)
    (case l17 => k_is)
    (case c17 => k_is)
    (case k17 => k_is)
    (case a18 => k_is)
    (case l18 => k_is)
    (case c18 => k_is)
    (case k18 => k_is)
    (case a19 => k_is)
    (case l19 => k_is)
    (case c19 => k_is)
    (case k19 => k_is)
    (case a20 => k_is)
    (case l20 => k_is)
    (case c20 => k_is)
    (case k20 => k_is)
    (case a21 => k_is)
    (case l21 => k_is)
    (case c21 => k_is)
    (case k21 => k_is)
    (case a22 => k_is)
    (case l22 => k_is)
    (case c22 => k_is)
    (case k22 => k_is)
    (case a23 => k_is)
    (case l23 => k_is)
    (case c23 => k_is)
    (case k23 => k_is)
    (case a24 => k_is)
    (case l24 => k_is)
    (case c24 => k_is)
    (case k24 => k_is)
    (case a26 => k_is)
    (case l26 => k_is)
    (case c26 => k_is)
    (case k26 => k_is)
    (case a27 => k_is)
    (case l27 => k_is)
    (case c27 => k_is)
    (case k27 => k_is)
    (case a28 => k_is)
    (case l28 => k_is)
    (case c28 => k_is)
    (case k28 => k_is)
    (case a29 => k_is)
    (case l29 => k_is)
    (case c29 => k_is)
    (case k29 => k_is)
    (case a30 => k_is)
    (case l30 => k_is)
    (case c30 => k_is)
    (case k30 => k_is)
    (case a31 => k_is)
    (case l31 => k_is)
    (case c31 => k_is)
    (case k31 => k_is)
    (case a32 => k_is)
    (case l32 => k_is)
    (case c32 => k_is)
    (case k32 => k_is)
    (case a33 => k_is)
    (case l33 => k_is)
    (case c33 => k_is)
    (case k33 => k_is)
    (case a34 => k_is)
    (case l34 => k_is)
    (case c34 => k_is)
    (case k34 => k_is)
    (case a35 => k_is)
    (case l35 => k_is)
    (case c35 => k_is)
    (case k35 => k_is)
    (case a36 => k_is)
    (case l36 => k_is)
    (case c36 => k_is)
    (case k36 => k_is)
    (case a37 => k_is)
    (case l37 => k_is)
    (case c37 => k_is)
    (case k37 => k_is)
    (case a38 => k_is)
    (case l38 => k_is)
    (case c38 => k_is)
    (case k38 => k_is)
    (case a39 => k_is)
    (case l39 => k_is)
    (case c39 => k_is)
    (case k39 => k_is)
    (case a40 => k_is)
    (case l40 => k_is)
    (case c40 => k_is)
    (case k40 => k_is)
    (case a42 => k_is)
    (case l42 => k_is)
    (case c42 => k_is)
    (case k42 => k_is)
    (case a43 => k_is)
    (case l43 => k_is)
    (case c43 => k_is)
    (case k43 => k_is)
    (case a44 => k_is)
    (case l44 => k_is)
    (case c44 => k_is)
    (case k44 => k_is)
    (case a45 => k_is)
    (case l45 => k_is)
    (case c45 => k_is)
    (case k45 => k_is)
    (case a46 => k_is)
    (case l46 => k_is)
    (case c46 => k_is)
    (case k46 => k_is)
    (case a47 => k_is)
    (case l47 => k_is)
    (case c47 => k_is)
    (case k47 => k_is)
    (case a48 => k_is)
    (case l48 => k_is)
    (case c48 => k_is)
    (case k48 => k_is)
    (case a49 => k_is)
    (case l49 => k_is)
    (case c49 => k_is)
    (case k49 => k_is)
    (case a50 => k_is)
    (case l50 => k_is)
    (case c50 => k_is)
    (case k50 => k_is)
    (case a51 => k_is)
    (case l51 => k_is)
    (case c51 => k_is)
    (case k51 => k_is)
    (case a52 => k_is)
    (case l52 => k_is)
    (case c52 => k_is)
    (case k52 => k_is)
    (case a53 => k_is)
    (case l53 => k_is)
    (case c53 => k_is)
    (case k53 => k_is)
    (case a56 => k_is)
    (case l56 => k_is)
    (case c56 => k_is)
    (case k56 => k_is)
    (case z_abs => k_is)
    (case z_all => k_is)
    (case z_any => k_is)
    (case z_bool => k_is)
    (case z_enumerate => k_is)
    (case z_int => k_is)
    (case z_isinstance => k_is)
    (case z_len => k_is)
    (case z_list => k_is)
    (case z_max => k_is)
    (case z_min => k_is)
    (case z_range => k_is)
    (case z_set => k_is)
    (case z_sorted => k_is)
    (case z_str => k_is)
    (case z_tuple => k_is)
    (case z_zip => k_is)
    (case ac8 => k_is)
    (case ac9 => k_is)
    (case ac10 => k_is)
    (case ac11 => k_is)
    (case ac12 => k_is)
    case rc8 =>
      exact PD.cst_str
    case rc9 =>
      exact PD.cst_str
    case rc10 =>
      exact PD.cst_str
    case rc11 =>
      refine' PD.cst_tup ?l ?n ?a
      case l => k_is
      case n => decide
      case a =>
        refine' PD.cst_cons ?x ?y
        case x =>
          exact PD.cst_str
        case y =>
          refine' PD.cst_cons ?x ?y
          case x =>
            exact PD.cst_int
          case y =>
            refine' PD.cst_cons ?x ?y
            case x =>
              exact PD.cst_int
            case y =>
              refine' PD.cst_cons ?x ?y
              case x =>
                refine' PD.cst_tup ?l ?n ?a
                case l => k_is
                case n => decide
                case a =>
                  exact PD.cst_nil
              case y =>
                exact PD.cst_nil
    case rc12 =>
      exact PD.cst_int

